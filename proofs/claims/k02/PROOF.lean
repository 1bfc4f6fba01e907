import PyProof.Rows.All
import Wide.All
import OpenK.AllK
import Wide.FinOn
import KE.KStateDown
import HandS.ForMost
import HandS.Exc
import HandS.Defaults
import HandS.Head0
import HandS.Head1
import HandS.Head2
import HandS.HeadEnd
import HandS.HeadHook1
import HandS.HeadHook2
import HandS.HeadHook3
import HandS.HeadHook4
import HandS.HeadWalk
import HandS.Codes
import HandS.SortInts
import HandS.NoneIn
import HandS.IsInst
import HandS.Style
import HandS.SetFor
import HandS.Conv
import HandS.SortRule
import HandS.Zip
import HandS.Walk
import HandS.Deep
import KE.KDictDisplayH
import HandS.ExcOwn
import HandS.TryOnly
import HandS.Exc
import HandS.TryOnly
import HandS.ExcInit
import HandS.ExcOwn
import HandS.ExcField
import HandS.ExcIs
import HandS.ExcIs
import HandS.HotCalls
import HandS.ExcInitHot
import HandS.ExcCtx
import HandS.ExcField
import PySem.Challenge.RW_handoverhand_k02_deeds_one_by_one
set_option Elab.async false
set_option linter.all false
set_option maxRecDepth 100000
set_option maxHeartbeats 0
namespace HH
open PySem PySem.Spec PyProof.Rows L2
/-! ### the text by places -/
def top (i : Nat) : Stmt := PySem.Challenge.pw_handoverhand_k02_deeds_one_by_one.main.body.getD i (.Pass ⟨0, 0, 0, 0⟩)
abbrev s_BadKeys_init : Stmt := inClass (top 2) 0
abbrev s_BadDeed_init : Stmt := inClass (top 3) 0
abbrev s_need_keys : Stmt := top 9
abbrev s_is_deed : Stmt := top 12
abbrev s_answer : Stmt := top 13
abbrev s_serial : Stmt := top 14
abbrev s_l_dice : Stmt := top 16
abbrev s_l_next : Stmt := top 17
abbrev s_l_like : Stmt := top 18
abbrev s_l_keys : Stmt := top 19
abbrev s_l_deed : Stmt := top 20
abbrev s_l_programs : Stmt := top 21
abbrev s_l_weaving : Stmt := top 22
abbrev s_l_answer : Stmt := top 23
abbrev s_l_is : Stmt := top 24
abbrev s_l_told : Stmt := top 25
abbrev s_law : Stmt := top 26
/-! ### the defs, the facts -/
abbrev d_BadKeys_init : He.DefD := ⟨("BadKeys", some "__init__"), "__init__", "BadKeys.__init__", defArgs s_BadKeys_init, defBody s_BadKeys_init, defScope s_BadKeys_init, [], []⟩
abbrev d_BadDeed_init : He.DefD := ⟨("BadDeed", some "__init__"), "__init__", "BadDeed.__init__", defArgs s_BadDeed_init, defBody s_BadDeed_init, defScope s_BadDeed_init, [], []⟩
abbrev d_need_keys : He.DefD := ⟨("need_keys", none), "need_keys", "need_keys", defArgs s_need_keys, defBody s_need_keys, defScope s_need_keys, [], []⟩
abbrev d_is_deed : He.DefD := ⟨("is_deed", none), "is_deed", "is_deed", defArgs s_is_deed, defBody s_is_deed, defScope s_is_deed, [], []⟩
abbrev d_answer : He.DefD := ⟨("answer", none), "answer", "answer", defArgs s_answer, defBody s_answer, defScope s_answer, [], []⟩
abbrev d_serial : He.DefD := ⟨("serial", none), "serial", "serial", defArgs s_serial, defBody s_serial, defScope s_serial, [], []⟩
abbrev d_l_dice : He.DefD := ⟨("_law_dice", none), "_law_dice", "_law_dice", defArgs s_l_dice, defBody s_l_dice, defScope s_l_dice, [], []⟩
abbrev d_l_next : He.DefD := ⟨("_law_next", none), "_law_next", "_law_next", defArgs s_l_next, defBody s_l_next, defScope s_l_next, [], []⟩
abbrev d_l_like : He.DefD := ⟨("_law_like", none), "_law_like", "_law_like", defArgs s_l_like, defBody s_l_like, defScope s_l_like, [], []⟩
abbrev d_l_keys : He.DefD := ⟨("_law_keys", none), "_law_keys", "_law_keys", defArgs s_l_keys, defBody s_l_keys, defScope s_l_keys, [], []⟩
abbrev d_l_deed : He.DefD := ⟨("_law_deed", none), "_law_deed", "_law_deed", defArgs s_l_deed, defBody s_l_deed, defScope s_l_deed, [], []⟩
abbrev d_l_programs : He.DefD := ⟨("_law_programs", none), "_law_programs", "_law_programs", defArgs s_l_programs, defBody s_l_programs, defScope s_l_programs, [], []⟩
abbrev d_l_weaving : He.DefD := ⟨("_law_weaving", none), "_law_weaving", "_law_weaving", defArgs s_l_weaving, defBody s_l_weaving, defScope s_l_weaving, [], []⟩
abbrev d_l_answer : He.DefD := ⟨("_law_answer", none), "_law_answer", "_law_answer", defArgs s_l_answer, defBody s_l_answer, defScope s_l_answer, [], []⟩
abbrev d_l_is : He.DefD := ⟨("_law_is", none), "_law_is", "_law_is", defArgs s_l_is, defBody s_l_is, defScope s_l_is, [], []⟩
abbrev d_l_told : He.DefD := ⟨("_law_told", none), "_law_told", "_law_told", defArgs s_l_told, defBody s_l_told, defScope s_l_told, [], []⟩
abbrev d_law : He.DefD := ⟨("law", none), "law", "law", defArgs s_law, defBody s_law, defScope s_law, [], []⟩
def fn : List He.DefD := [d_BadKeys_init, d_BadDeed_init, d_need_keys, d_is_deed, d_answer, d_serial, d_l_dice, d_l_next, d_l_like, d_l_keys, d_l_deed, d_l_programs, d_l_weaving, d_l_answer, d_l_is, d_l_told, d_law]
def fa : List He.Fa := [.glo "need_keys",
  .glo "is_deed",
  .glo "answer",
  .glo "serial",
  .glo "_law_dice",
  .glo "_law_next",
  .glo "_law_like",
  .glo "_law_keys",
  .glo "_law_deed",
  .glo "_law_programs",
  .glo "_law_weaving",
  .glo "_law_answer",
  .glo "_law_is",
  .glo "_law_told",
  .glo "law",
  .glo "PageError",
  .glo "BadKeys",
  .glo "BadDeed",
  .glo "NoHand",
  .glo "TooMany",
  .free "len",
  .free "sorted",
  .free "list",
  .free "tuple",
  .free "range",
  .free "isinstance",
  .free "int",
  .free "str",
  .free "bool",
  .free "min",
  .free "ValueError",
  .int "MOST_KEY" 99,
  .int "MOST_BEGIN" 40,
  .glo "WORDS",
  .exm "PageError" "PageError" true,
  .exm "BadKeys" "PageError" true,
  .exm "BadKeys" "BadKeys" true,
  .exm "BadDeed" "PageError" true,
  .exm "BadDeed" "BadDeed" true,
  .exm "NoHand" "PageError" true,
  .exm "NoHand" "NoHand" true,
  .exm "TooMany" "PageError" true,
  .exm "TooMany" "TooMany" true]
def ts : List He.Tab := [(fun K => He.ga K "WORDS", ["put", "take", "ask", "walk"])]
def tf : List He.Defn := []
/-! ### own exceptions, what the written part says of them -/
def oexB (K : PySem.W.Frag) (C : Addr) : Bool := (match K.lookup C with
  | some ⟨.type "type", _, .cls cd, sl⟩ => (match cd.mro, sl.toList with
    | .ref C' :: bm, [_, _, _, _, some (.builtin n), _] => C' == C && (n == "ValueError.__new__" && (!cd.hasDel && (cd.hasDict && PySem.HandSPX.refsVE bm)))
    | _, _ => false)
  | _ => false) && (decide (PySem.W.findIn K (.ref C) "__setattr__" = some (some (.builtin "object.__setattr__"))) && (decide (PySem.W.subIn K (.ref C) (.type "BaseException") = some true) && (decide (PySem.W.typeIn K (.ref C) = some (.type "type")) && PySem.W.keepIn K (.ref C))))
theorem oexB_ok {K : PySem.W.Frag} {C : Addr} (q : oexB K C = true) : OexC K C := by
  obtain ⟨q, h1⟩ := Bool.and_eq_true_iff.mp q
  obtain ⟨h1, h2⟩ := Bool.and_eq_true_iff.mp h1
  obtain ⟨h2, h3⟩ := Bool.and_eq_true_iff.mp h2
  obtain ⟨h3, h4⟩ := Bool.and_eq_true_iff.mp h3
  refine ⟨?_, of_decide_eq_true h1, of_decide_eq_true h2, of_decide_eq_true h3, h4⟩
  split at q
  · rename_i dd cd sl ho
    split at q
    · rename_i C' bm k0 k1 k2 k3 n k5 hm hs
      simp only [Bool.and_eq_true, beq_iff_eq, Bool.not_eq_true'] at q
      obtain ⟨rfl, rfl, hdel, hdct, hve⟩ := q
      obtain ⟨nm, bs, mro, ns, qn, hd, sn, sub, ab, col, del⟩ := cd
      dsimp only at hm hdel hdct
      subst hm hdel hdct
      have hsl : sl = #[k0, k1, k2, k3, some (.builtin "ValueError.__new__"), k5] := by
        obtain ⟨l⟩ := sl
        simp only at hs
        rw [hs]
      subst hsl
      exact ⟨nm, qn, ns, bs, bm, sn, sub, ab, col, dd, k0, k1, k2, k3, k5, ho, hve⟩
    · cases q
  · cases q
structure PefC (K : PySem.W.Frag) (C : Addr) : Prop where
  sp : PySem.W.specialIn K (.ref C) "__getattribute__" = some (some (.builtin "type.__getattribute__"))
  ty : PySem.W.typeIn K (.ref C) = some (.type "type")
  rd : PySem.W.readsIn K C (.type "type") = true
  ini : PySem.W.findCls K (.ref C) (.type "type") "__init__" = some (.val (.builtin "ValueError.__init__"))
def pefB (K : PySem.W.Frag) (C : Addr) : Bool := decide (PySem.W.specialIn K (.ref C) "__getattribute__" = some (some (.builtin "type.__getattribute__"))) && (decide (PySem.W.typeIn K (.ref C) = some (.type "type")) && (PySem.W.readsIn K C (.type "type") && (match PySem.W.findCls K (.ref C) (.type "type") "__init__" with
  | some (.val (.builtin n)) => n == "ValueError.__init__"
  | _ => false)))
theorem pefB_ok {K : PySem.W.Frag} {C : Addr} (q : pefB K C = true) : PefC K C := by
  obtain ⟨h1, q⟩ := Bool.and_eq_true_iff.mp q
  obtain ⟨h2, q⟩ := Bool.and_eq_true_iff.mp q
  obtain ⟨h3, q⟩ := Bool.and_eq_true_iff.mp q
  refine ⟨of_decide_eq_true h1, of_decide_eq_true h2, h3, ?_⟩
  split at q
  · rename_i n e
    rw [e, beq_iff_eq.mp q]
  · cases q
/-! ### exceptions that are asked by isinstance -/

def excCB (K : PySem.W.Frag) (D : Addr) : Bool := decide (PySem.W.findIn K (.ref D) "__getattribute__" = some (some (.builtin "BaseException.__getattribute__"))) && (decide (PySem.W.findIn K (.ref D) "__getattr__" = some none) && (decide (PySem.W.subIn K (.ref D) (.type "BaseException") = some true) && (PySem.W.hasDictIn K D && (decide (PySem.W.findIn K (.ref D) "__class__" = some (some (.builtin "object.__class__"))) && (decide (PySem.W.specialIn K (.builtin "object.__class__") "__get__" = some (some (.builtin "getset_descriptor.__get__"))) && (decide (PySem.W.takesIn K (.builtin "object.__class__") = some true) && decide (PySem.W.mroIn K D (.type "object") = some true)))))))
theorem excCB_ok {K : PySem.W.Frag} {D : Addr} (h : excCB K D = true) : ExcC K D := by
  obtain ⟨h1, h⟩ := Bool.and_eq_true_iff.mp h
  obtain ⟨h2, h⟩ := Bool.and_eq_true_iff.mp h
  obtain ⟨h3, h⟩ := Bool.and_eq_true_iff.mp h
  obtain ⟨h4, h⟩ := Bool.and_eq_true_iff.mp h
  obtain ⟨h5, h⟩ := Bool.and_eq_true_iff.mp h
  obtain ⟨h6, h⟩ := Bool.and_eq_true_iff.mp h
  obtain ⟨h7, h8⟩ := Bool.and_eq_true_iff.mp h
  exact ⟨of_decide_eq_true h1, of_decide_eq_true h2, of_decide_eq_true h3, h4, of_decide_eq_true h5, of_decide_eq_true h6, of_decide_eq_true h7, of_decide_eq_true h8⟩

def kv_WORDS : List (Str × He.Dv) := [("put", .int 2), ("take", .int 2), ("ask", .int 2), ("walk", .int 3)]
def exB : PySem.W.Frag → Bool := fun K => (He.valsB K (He.ga K "WORDS") kv_WORDS && (He.eqO (PySem.W.nsIn K (He.ga K "WORDS") "puts") (some none) && (oexB K (He.ga K "BadKeys") && (xfB K (He.ga K "BadKeys") && (He.eqO (PySem.W.findIn K (.ref (He.ga K "BadKeys")) "__init__") (some (some (.ref (He.ma K (He.ga K "BadKeys") "__init__")))) && (decide (PySem.W.typeIn K (.ref (He.ma K (He.ga K "BadKeys") "__init__")) = some (.type "function")) && (He.eqO (PySem.W.findIn K (.ref (He.ga K "BadKeys")) "at") (some none) && (oexB K (He.ga K "BadDeed") && (xfB K (He.ga K "BadDeed") && (He.eqO (PySem.W.findIn K (.ref (He.ga K "BadDeed")) "__init__") (some (some (.ref (He.ma K (He.ga K "BadDeed") "__init__")))) && (decide (PySem.W.typeIn K (.ref (He.ma K (He.ga K "BadDeed") "__init__")) = some (.type "function")) && (He.eqO (PySem.W.findIn K (.ref (He.ga K "BadDeed")) "hand") (some none) && (He.eqO (PySem.W.findIn K (.ref (He.ga K "BadDeed")) "number") (some none) && (pefB K (He.ga K "PageError") && (excCB K (He.ga K "BadKeys") && (decide (PySem.W.kitOne K (.ref (He.ga K "BadKeys")) (.ref (He.ga K "BadKeys")) = some true) && (decide (PySem.W.kitOne K (.ref (He.ga K "BadKeys")) (.ref (He.ga K "BadDeed")) = some false) && (decide (PySem.W.kitOne K (.ref (He.ga K "BadKeys")) (.ref (He.ga K "NoHand")) = some false) && (decide (PySem.W.kitOne K (.ref (He.ga K "BadKeys")) (.ref (He.ga K "TooMany")) = some false) && (decide (PySem.W.kitOne K (.ref (He.ga K "BadKeys")) (.type "ValueError") = some true) && (excCB K (He.ga K "BadDeed") && (decide (PySem.W.kitOne K (.ref (He.ga K "BadDeed")) (.ref (He.ga K "BadKeys")) = some false) && (decide (PySem.W.kitOne K (.ref (He.ga K "BadDeed")) (.ref (He.ga K "BadDeed")) = some true) && (decide (PySem.W.kitOne K (.ref (He.ga K "BadDeed")) (.ref (He.ga K "NoHand")) = some false) && (decide (PySem.W.kitOne K (.ref (He.ga K "BadDeed")) (.ref (He.ga K "TooMany")) = some false) && (decide (PySem.W.kitOne K (.ref (He.ga K "BadDeed")) (.type "ValueError") = some true) && true))))))))))))))))))))))))))
theorem kdct_of {K : PySem.W.Frag} {w : World} {a : Addr} {kvs : List (Str × He.Dv)} (h : ∃ es m, KDict K w a es m) (hv : He.valsB K a kvs = true) (i : Nat) {k : Str} {v : He.Dv} (hk : kvs[i]? = some (k, v)) : KDct K w a k (v.v K) := by
  obtain ⟨es, m, D⟩ := h
  obtain ⟨u, e1, e2⟩ := He.valsB_ok hv (List.mem_of_getElem? hk)
  exact ⟨es, m, u, D.at_, D.lit, e1, e2⟩
/-! ### what the walk leans on -/
def fdOf (K : PySem.W.Frag) (p : Str × Option Str) : FuncData := match K.lookup (He.fAd K p) with
  | some ⟨_, _, .func fd, _⟩ => fd
  | _ => PySem.W.fnOf "" "" (defArgs (.Pass ⟨0, 0, 0, 0⟩)) [] (defScope (.Pass ⟨0, 0, 0, 0⟩)) .none .none .none .none none .none .none
abbrev FD (K : PySem.W.Frag) (d : He.DefD) : Prop := FunD K d.name d.qual d.params d.body d.scope [] [] (He.fAd K d.at_) (fdOf K d.at_)
theorem fd_of {K : PySem.W.Frag} {d : He.DefD} (e1 : d.dvs K = []) (e2 : d.kws K = []) (h : ∃ fd, FunD K d.name d.qual d.params d.body d.scope (d.dvs K) (d.kws K) (He.fAd K d.at_) fd) : FD K d := by
  obtain ⟨fd, F⟩ := h
  have e : fdOf K d.at_ = fd := by
    obtain ⟨oc, od, dV, kV, doc, pm, an, cdv, ct, osl, _, lk, _⟩ := F.ex
    unfold fdOf
    rw [lk]
  rw [e1, e2] at F
  show FunD K d.name d.qual d.params d.body d.scope [] [] (He.fAd K d.at_) (fdOf K d.at_)
  rw [e]
  exact F
/-- the code tables that lambdas fill, with the name of what stands in each -/
def tabsK (K : PySem.W.Frag) : List (Addr × Str) := []
def TabsOk (K : PySem.W.Frag) (H : Hp) : Prop := LamX.Tabs (tabsK K) H
structure Txt (w : World) (K : PySem.W.Frag) (mg : Str → Option Value) (base : Heap) : Prop where
  tab : ∀ p ∈ tf, LamX.TabB base mg (He.cT K p).1 (He.cT K p).2
  g_need_keys : mg "need_keys" = some (.ref (He.ga K "need_keys"))
  g_is_deed : mg "is_deed" = some (.ref (He.ga K "is_deed"))
  g_answer : mg "answer" = some (.ref (He.ga K "answer"))
  g_serial : mg "serial" = some (.ref (He.ga K "serial"))
  g_l_dice : mg "_law_dice" = some (.ref (He.ga K "_law_dice"))
  g_l_next : mg "_law_next" = some (.ref (He.ga K "_law_next"))
  g_l_like : mg "_law_like" = some (.ref (He.ga K "_law_like"))
  g_l_keys : mg "_law_keys" = some (.ref (He.ga K "_law_keys"))
  g_l_deed : mg "_law_deed" = some (.ref (He.ga K "_law_deed"))
  g_l_programs : mg "_law_programs" = some (.ref (He.ga K "_law_programs"))
  g_l_weaving : mg "_law_weaving" = some (.ref (He.ga K "_law_weaving"))
  g_l_answer : mg "_law_answer" = some (.ref (He.ga K "_law_answer"))
  g_l_is : mg "_law_is" = some (.ref (He.ga K "_law_is"))
  g_l_told : mg "_law_told" = some (.ref (He.ga K "_law_told"))
  g_law : mg "law" = some (.ref (He.ga K "law"))
  g_PageError : mg "PageError" = some (.ref (He.ga K "PageError"))
  g_BadKeys : mg "BadKeys" = some (.ref (He.ga K "BadKeys"))
  g_BadDeed : mg "BadDeed" = some (.ref (He.ga K "BadDeed"))
  g_NoHand : mg "NoHand" = some (.ref (He.ga K "NoHand"))
  g_TooMany : mg "TooMany" = some (.ref (He.ga K "TooMany"))
  b_len : mg "len" = none
  b_sorted : mg "sorted" = none
  b_list : mg "list" = none
  b_tuple : mg "tuple" = none
  b_range : mg "range" = none
  b_isinstance : mg "isinstance" = none
  b_int : mg "int" = none
  b_str : mg "str" = none
  b_bool : mg "bool" = none
  b_min : mg "min" = none
  b_ValueError : mg "ValueError" = none
  i_MOST_KEY : ∃ t, mg "MOST_KEY" = some (.int 99 t)
  i_MOST_BEGIN : ∃ t, mg "MOST_BEGIN" = some (.int 40 t)
  g_WORDS : mg "WORDS" = some (.ref (He.ga K "WORDS"))
  te_PageError_PageError : PySem.W.exmOne K (.ref (He.ga K "PageError")) (.ref (He.ga K "PageError")) = some true
  te_BadKeys_PageError : PySem.W.exmOne K (.ref (He.ga K "BadKeys")) (.ref (He.ga K "PageError")) = some true
  te_BadKeys_BadKeys : PySem.W.exmOne K (.ref (He.ga K "BadKeys")) (.ref (He.ga K "BadKeys")) = some true
  te_BadDeed_PageError : PySem.W.exmOne K (.ref (He.ga K "BadDeed")) (.ref (He.ga K "PageError")) = some true
  te_BadDeed_BadDeed : PySem.W.exmOne K (.ref (He.ga K "BadDeed")) (.ref (He.ga K "BadDeed")) = some true
  te_NoHand_PageError : PySem.W.exmOne K (.ref (He.ga K "NoHand")) (.ref (He.ga K "PageError")) = some true
  te_NoHand_NoHand : PySem.W.exmOne K (.ref (He.ga K "NoHand")) (.ref (He.ga K "NoHand")) = some true
  te_TooMany_PageError : PySem.W.exmOne K (.ref (He.ga K "TooMany")) (.ref (He.ga K "PageError")) = some true
  te_TooMany_TooMany : PySem.W.exmOne K (.ref (He.ga K "TooMany")) (.ref (He.ga K "TooMany")) = some true
  z_WORDS : ∃ es m, KDict K w (He.ga K "WORDS") es m
  z_WORDS_put : KDct K w (He.ga K "WORDS") "put" (.int 2)
  z_WORDS_take : KDct K w (He.ga K "WORDS") "take" (.int 2)
  z_WORDS_ask : KDct K w (He.ga K "WORDS") "ask" (.int 2)
  z_WORDS_walk : KDct K w (He.ga K "WORDS") "walk" (.int 3)
  z_no_puts : PySem.W.nsIn K (He.ga K "WORDS") "puts" = some none
  x_BadKeys : OexC K (He.ga K "BadKeys")
  xf_BadKeys : XfC K (He.ga K "BadKeys")
  xi_BadKeys : PySem.W.findIn K (.ref (He.ga K "BadKeys")) "__init__" = some (some (.ref (He.ma K (He.ga K "BadKeys") "__init__")))
  xt_BadKeys : PySem.W.typeIn K (.ref (He.ma K (He.ga K "BadKeys") "__init__")) = some (.type "function")
  xn_BadKeys_at : PySem.W.findIn K (.ref (He.ga K "BadKeys")) "at" = some none
  x_BadDeed : OexC K (He.ga K "BadDeed")
  xf_BadDeed : XfC K (He.ga K "BadDeed")
  xi_BadDeed : PySem.W.findIn K (.ref (He.ga K "BadDeed")) "__init__" = some (some (.ref (He.ma K (He.ga K "BadDeed") "__init__")))
  xt_BadDeed : PySem.W.typeIn K (.ref (He.ma K (He.ga K "BadDeed") "__init__")) = some (.type "function")
  xn_BadDeed_hand : PySem.W.findIn K (.ref (He.ga K "BadDeed")) "hand" = some none
  xn_BadDeed_number : PySem.W.findIn K (.ref (He.ga K "BadDeed")) "number" = some none
  x_PageError : PefC K (He.ga K "PageError")
  xc_BadKeys : ExcC K (He.ga K "BadKeys")
  ki_BadKeys_BadKeys : PySem.W.kitOne K (.ref (He.ga K "BadKeys")) (.ref (He.ga K "BadKeys")) = some true
  ki_BadKeys_BadDeed : PySem.W.kitOne K (.ref (He.ga K "BadKeys")) (.ref (He.ga K "BadDeed")) = some false
  ki_BadKeys_NoHand : PySem.W.kitOne K (.ref (He.ga K "BadKeys")) (.ref (He.ga K "NoHand")) = some false
  ki_BadKeys_TooMany : PySem.W.kitOne K (.ref (He.ga K "BadKeys")) (.ref (He.ga K "TooMany")) = some false
  ki_BadKeys_V : PySem.W.kitOne K (.ref (He.ga K "BadKeys")) (.type "ValueError") = some true
  xc_BadDeed : ExcC K (He.ga K "BadDeed")
  ki_BadDeed_BadKeys : PySem.W.kitOne K (.ref (He.ga K "BadDeed")) (.ref (He.ga K "BadKeys")) = some false
  ki_BadDeed_BadDeed : PySem.W.kitOne K (.ref (He.ga K "BadDeed")) (.ref (He.ga K "BadDeed")) = some true
  ki_BadDeed_NoHand : PySem.W.kitOne K (.ref (He.ga K "BadDeed")) (.ref (He.ga K "NoHand")) = some false
  ki_BadDeed_TooMany : PySem.W.kitOne K (.ref (He.ga K "BadDeed")) (.ref (He.ga K "TooMany")) = some false
  ki_BadDeed_V : PySem.W.kitOne K (.ref (He.ga K "BadDeed")) (.type "ValueError") = some true
  f_BadKeys_init : FD K d_BadKeys_init
  f_BadDeed_init : FD K d_BadDeed_init
  f_need_keys : FD K d_need_keys
  f_is_deed : FD K d_is_deed
  f_answer : FD K d_answer
  f_serial : FD K d_serial
  f_l_dice : FD K d_l_dice
  f_l_next : FD K d_l_next
  f_l_like : FD K d_l_like
  f_l_keys : FD K d_l_keys
  f_l_deed : FD K d_l_deed
  f_l_programs : FD K d_l_programs
  f_l_weaving : FD K d_l_weaving
  f_l_answer : FD K d_l_answer
  f_l_is : FD K d_l_is
  f_l_told : FD K d_l_told
  f_law : FD K d_law
theorem txt_of {w : World} {K : PySem.W.Frag} {h base : Heap} {mg : Str → Option Value} (X : K.In h) (G : h.Ns mainGlobals mg) (c : He.SaysX fa fn ts tf exB w h K) (tab : ∀ p ∈ tf, LamX.TabB base mg (He.cT K p).1 (He.cT K p).2) : Txt w K mg base where
  tab := tab
  g_need_keys := He.glo_ok X G (c.t.d.fact 0 (f := .glo "need_keys") rfl)
  g_is_deed := He.glo_ok X G (c.t.d.fact 1 (f := .glo "is_deed") rfl)
  g_answer := He.glo_ok X G (c.t.d.fact 2 (f := .glo "answer") rfl)
  g_serial := He.glo_ok X G (c.t.d.fact 3 (f := .glo "serial") rfl)
  g_l_dice := He.glo_ok X G (c.t.d.fact 4 (f := .glo "_law_dice") rfl)
  g_l_next := He.glo_ok X G (c.t.d.fact 5 (f := .glo "_law_next") rfl)
  g_l_like := He.glo_ok X G (c.t.d.fact 6 (f := .glo "_law_like") rfl)
  g_l_keys := He.glo_ok X G (c.t.d.fact 7 (f := .glo "_law_keys") rfl)
  g_l_deed := He.glo_ok X G (c.t.d.fact 8 (f := .glo "_law_deed") rfl)
  g_l_programs := He.glo_ok X G (c.t.d.fact 9 (f := .glo "_law_programs") rfl)
  g_l_weaving := He.glo_ok X G (c.t.d.fact 10 (f := .glo "_law_weaving") rfl)
  g_l_answer := He.glo_ok X G (c.t.d.fact 11 (f := .glo "_law_answer") rfl)
  g_l_is := He.glo_ok X G (c.t.d.fact 12 (f := .glo "_law_is") rfl)
  g_l_told := He.glo_ok X G (c.t.d.fact 13 (f := .glo "_law_told") rfl)
  g_law := He.glo_ok X G (c.t.d.fact 14 (f := .glo "law") rfl)
  g_PageError := He.glo_ok X G (c.t.d.fact 15 (f := .glo "PageError") rfl)
  g_BadKeys := He.glo_ok X G (c.t.d.fact 16 (f := .glo "BadKeys") rfl)
  g_BadDeed := He.glo_ok X G (c.t.d.fact 17 (f := .glo "BadDeed") rfl)
  g_NoHand := He.glo_ok X G (c.t.d.fact 18 (f := .glo "NoHand") rfl)
  g_TooMany := He.glo_ok X G (c.t.d.fact 19 (f := .glo "TooMany") rfl)
  b_len := He.free_ok X G (c.t.d.fact 20 (f := .free "len") rfl)
  b_sorted := He.free_ok X G (c.t.d.fact 21 (f := .free "sorted") rfl)
  b_list := He.free_ok X G (c.t.d.fact 22 (f := .free "list") rfl)
  b_tuple := He.free_ok X G (c.t.d.fact 23 (f := .free "tuple") rfl)
  b_range := He.free_ok X G (c.t.d.fact 24 (f := .free "range") rfl)
  b_isinstance := He.free_ok X G (c.t.d.fact 25 (f := .free "isinstance") rfl)
  b_int := He.free_ok X G (c.t.d.fact 26 (f := .free "int") rfl)
  b_str := He.free_ok X G (c.t.d.fact 27 (f := .free "str") rfl)
  b_bool := He.free_ok X G (c.t.d.fact 28 (f := .free "bool") rfl)
  b_min := He.free_ok X G (c.t.d.fact 29 (f := .free "min") rfl)
  b_ValueError := He.free_ok X G (c.t.d.fact 30 (f := .free "ValueError") rfl)
  i_MOST_KEY := He.int_ok X G (c.t.d.fact 31 (f := .int "MOST_KEY" 99) rfl)
  i_MOST_BEGIN := He.int_ok X G (c.t.d.fact 32 (f := .int "MOST_BEGIN" 40) rfl)
  g_WORDS := He.glo_ok X G (c.t.d.fact 33 (f := .glo "WORDS") rfl)
  te_PageError_PageError := He.exm_ok (c.t.d.fact 34 (f := .exm "PageError" "PageError" true) rfl)
  te_BadKeys_PageError := He.exm_ok (c.t.d.fact 35 (f := .exm "BadKeys" "PageError" true) rfl)
  te_BadKeys_BadKeys := He.exm_ok (c.t.d.fact 36 (f := .exm "BadKeys" "BadKeys" true) rfl)
  te_BadDeed_PageError := He.exm_ok (c.t.d.fact 37 (f := .exm "BadDeed" "PageError" true) rfl)
  te_BadDeed_BadDeed := He.exm_ok (c.t.d.fact 38 (f := .exm "BadDeed" "BadDeed" true) rfl)
  te_NoHand_PageError := He.exm_ok (c.t.d.fact 39 (f := .exm "NoHand" "PageError" true) rfl)
  te_NoHand_NoHand := He.exm_ok (c.t.d.fact 40 (f := .exm "NoHand" "NoHand" true) rfl)
  te_TooMany_PageError := He.exm_ok (c.t.d.fact 41 (f := .exm "TooMany" "PageError" true) rfl)
  te_TooMany_TooMany := He.exm_ok (c.t.d.fact 42 (f := .exm "TooMany" "TooMany" true) rfl)
  z_WORDS := c.t.tab 0 (t := (fun K => He.ga K "WORDS", ["put", "take", "ask", "walk"])) rfl
  z_WORDS_put := kdct_of (c.t.tab 0 (t := (fun K => He.ga K "WORDS", ["put", "take", "ask", "walk"])) rfl) (Bool.and_eq_true_iff.mp c.more).1 0 rfl
  z_WORDS_take := kdct_of (c.t.tab 0 (t := (fun K => He.ga K "WORDS", ["put", "take", "ask", "walk"])) rfl) (Bool.and_eq_true_iff.mp c.more).1 1 rfl
  z_WORDS_ask := kdct_of (c.t.tab 0 (t := (fun K => He.ga K "WORDS", ["put", "take", "ask", "walk"])) rfl) (Bool.and_eq_true_iff.mp c.more).1 2 rfl
  z_WORDS_walk := kdct_of (c.t.tab 0 (t := (fun K => He.ga K "WORDS", ["put", "take", "ask", "walk"])) rfl) (Bool.and_eq_true_iff.mp c.more).1 3 rfl
  z_no_puts := He.eqO_ok (Bool.and_eq_true_iff.mp (Bool.and_eq_true_iff.mp c.more).2).1
  x_BadKeys := oexB_ok (Bool.and_eq_true_iff.mp (Bool.and_eq_true_iff.mp (Bool.and_eq_true_iff.mp c.more).2).2).1
  xf_BadKeys := xfB_ok (Bool.and_eq_true_iff.mp (Bool.and_eq_true_iff.mp (Bool.and_eq_true_iff.mp (Bool.and_eq_true_iff.mp c.more).2).2).2).1
  xi_BadKeys := He.eqO_ok (Bool.and_eq_true_iff.mp (Bool.and_eq_true_iff.mp (Bool.and_eq_true_iff.mp (Bool.and_eq_true_iff.mp (Bool.and_eq_true_iff.mp c.more).2).2).2).2).1
  xt_BadKeys := of_decide_eq_true (Bool.and_eq_true_iff.mp (Bool.and_eq_true_iff.mp (Bool.and_eq_true_iff.mp (Bool.and_eq_true_iff.mp (Bool.and_eq_true_iff.mp (Bool.and_eq_true_iff.mp c.more).2).2).2).2).2).1
  xn_BadKeys_at := He.eqO_ok (Bool.and_eq_true_iff.mp (Bool.and_eq_true_iff.mp (Bool.and_eq_true_iff.mp (Bool.and_eq_true_iff.mp (Bool.and_eq_true_iff.mp (Bool.and_eq_true_iff.mp (Bool.and_eq_true_iff.mp c.more).2).2).2).2).2).2).1
  x_BadDeed := oexB_ok (Bool.and_eq_true_iff.mp (Bool.and_eq_true_iff.mp (Bool.and_eq_true_iff.mp (Bool.and_eq_true_iff.mp (Bool.and_eq_true_iff.mp (Bool.and_eq_true_iff.mp (Bool.and_eq_true_iff.mp (Bool.and_eq_true_iff.mp c.more).2).2).2).2).2).2).2).1
  xf_BadDeed := xfB_ok (Bool.and_eq_true_iff.mp (Bool.and_eq_true_iff.mp (Bool.and_eq_true_iff.mp (Bool.and_eq_true_iff.mp (Bool.and_eq_true_iff.mp (Bool.and_eq_true_iff.mp (Bool.and_eq_true_iff.mp (Bool.and_eq_true_iff.mp (Bool.and_eq_true_iff.mp c.more).2).2).2).2).2).2).2).2).1
  xi_BadDeed := He.eqO_ok (Bool.and_eq_true_iff.mp (Bool.and_eq_true_iff.mp (Bool.and_eq_true_iff.mp (Bool.and_eq_true_iff.mp (Bool.and_eq_true_iff.mp (Bool.and_eq_true_iff.mp (Bool.and_eq_true_iff.mp (Bool.and_eq_true_iff.mp (Bool.and_eq_true_iff.mp (Bool.and_eq_true_iff.mp c.more).2).2).2).2).2).2).2).2).2).1
  xt_BadDeed := of_decide_eq_true (Bool.and_eq_true_iff.mp (Bool.and_eq_true_iff.mp (Bool.and_eq_true_iff.mp (Bool.and_eq_true_iff.mp (Bool.and_eq_true_iff.mp (Bool.and_eq_true_iff.mp (Bool.and_eq_true_iff.mp (Bool.and_eq_true_iff.mp (Bool.and_eq_true_iff.mp (Bool.and_eq_true_iff.mp (Bool.and_eq_true_iff.mp c.more).2).2).2).2).2).2).2).2).2).2).1
  xn_BadDeed_hand := He.eqO_ok (Bool.and_eq_true_iff.mp (Bool.and_eq_true_iff.mp (Bool.and_eq_true_iff.mp (Bool.and_eq_true_iff.mp (Bool.and_eq_true_iff.mp (Bool.and_eq_true_iff.mp (Bool.and_eq_true_iff.mp (Bool.and_eq_true_iff.mp (Bool.and_eq_true_iff.mp (Bool.and_eq_true_iff.mp (Bool.and_eq_true_iff.mp (Bool.and_eq_true_iff.mp c.more).2).2).2).2).2).2).2).2).2).2).2).1
  xn_BadDeed_number := He.eqO_ok (Bool.and_eq_true_iff.mp (Bool.and_eq_true_iff.mp (Bool.and_eq_true_iff.mp (Bool.and_eq_true_iff.mp (Bool.and_eq_true_iff.mp (Bool.and_eq_true_iff.mp (Bool.and_eq_true_iff.mp (Bool.and_eq_true_iff.mp (Bool.and_eq_true_iff.mp (Bool.and_eq_true_iff.mp (Bool.and_eq_true_iff.mp (Bool.and_eq_true_iff.mp (Bool.and_eq_true_iff.mp c.more).2).2).2).2).2).2).2).2).2).2).2).2).1
  x_PageError := pefB_ok (Bool.and_eq_true_iff.mp (Bool.and_eq_true_iff.mp (Bool.and_eq_true_iff.mp (Bool.and_eq_true_iff.mp (Bool.and_eq_true_iff.mp (Bool.and_eq_true_iff.mp (Bool.and_eq_true_iff.mp (Bool.and_eq_true_iff.mp (Bool.and_eq_true_iff.mp (Bool.and_eq_true_iff.mp (Bool.and_eq_true_iff.mp (Bool.and_eq_true_iff.mp (Bool.and_eq_true_iff.mp (Bool.and_eq_true_iff.mp c.more).2).2).2).2).2).2).2).2).2).2).2).2).2).1
  xc_BadKeys := excCB_ok (Bool.and_eq_true_iff.mp (Bool.and_eq_true_iff.mp (Bool.and_eq_true_iff.mp (Bool.and_eq_true_iff.mp (Bool.and_eq_true_iff.mp (Bool.and_eq_true_iff.mp (Bool.and_eq_true_iff.mp (Bool.and_eq_true_iff.mp (Bool.and_eq_true_iff.mp (Bool.and_eq_true_iff.mp (Bool.and_eq_true_iff.mp (Bool.and_eq_true_iff.mp (Bool.and_eq_true_iff.mp (Bool.and_eq_true_iff.mp (Bool.and_eq_true_iff.mp c.more).2).2).2).2).2).2).2).2).2).2).2).2).2).2).1
  ki_BadKeys_BadKeys := of_decide_eq_true (Bool.and_eq_true_iff.mp (Bool.and_eq_true_iff.mp (Bool.and_eq_true_iff.mp (Bool.and_eq_true_iff.mp (Bool.and_eq_true_iff.mp (Bool.and_eq_true_iff.mp (Bool.and_eq_true_iff.mp (Bool.and_eq_true_iff.mp (Bool.and_eq_true_iff.mp (Bool.and_eq_true_iff.mp (Bool.and_eq_true_iff.mp (Bool.and_eq_true_iff.mp (Bool.and_eq_true_iff.mp (Bool.and_eq_true_iff.mp (Bool.and_eq_true_iff.mp (Bool.and_eq_true_iff.mp c.more).2).2).2).2).2).2).2).2).2).2).2).2).2).2).2).1
  ki_BadKeys_BadDeed := of_decide_eq_true (Bool.and_eq_true_iff.mp (Bool.and_eq_true_iff.mp (Bool.and_eq_true_iff.mp (Bool.and_eq_true_iff.mp (Bool.and_eq_true_iff.mp (Bool.and_eq_true_iff.mp (Bool.and_eq_true_iff.mp (Bool.and_eq_true_iff.mp (Bool.and_eq_true_iff.mp (Bool.and_eq_true_iff.mp (Bool.and_eq_true_iff.mp (Bool.and_eq_true_iff.mp (Bool.and_eq_true_iff.mp (Bool.and_eq_true_iff.mp (Bool.and_eq_true_iff.mp (Bool.and_eq_true_iff.mp (Bool.and_eq_true_iff.mp c.more).2).2).2).2).2).2).2).2).2).2).2).2).2).2).2).2).1
  ki_BadKeys_NoHand := of_decide_eq_true (Bool.and_eq_true_iff.mp (Bool.and_eq_true_iff.mp (Bool.and_eq_true_iff.mp (Bool.and_eq_true_iff.mp (Bool.and_eq_true_iff.mp (Bool.and_eq_true_iff.mp (Bool.and_eq_true_iff.mp (Bool.and_eq_true_iff.mp (Bool.and_eq_true_iff.mp (Bool.and_eq_true_iff.mp (Bool.and_eq_true_iff.mp (Bool.and_eq_true_iff.mp (Bool.and_eq_true_iff.mp (Bool.and_eq_true_iff.mp (Bool.and_eq_true_iff.mp (Bool.and_eq_true_iff.mp (Bool.and_eq_true_iff.mp (Bool.and_eq_true_iff.mp c.more).2).2).2).2).2).2).2).2).2).2).2).2).2).2).2).2).2).1
  ki_BadKeys_TooMany := of_decide_eq_true (Bool.and_eq_true_iff.mp (Bool.and_eq_true_iff.mp (Bool.and_eq_true_iff.mp (Bool.and_eq_true_iff.mp (Bool.and_eq_true_iff.mp (Bool.and_eq_true_iff.mp (Bool.and_eq_true_iff.mp (Bool.and_eq_true_iff.mp (Bool.and_eq_true_iff.mp (Bool.and_eq_true_iff.mp (Bool.and_eq_true_iff.mp (Bool.and_eq_true_iff.mp (Bool.and_eq_true_iff.mp (Bool.and_eq_true_iff.mp (Bool.and_eq_true_iff.mp (Bool.and_eq_true_iff.mp (Bool.and_eq_true_iff.mp (Bool.and_eq_true_iff.mp (Bool.and_eq_true_iff.mp c.more).2).2).2).2).2).2).2).2).2).2).2).2).2).2).2).2).2).2).1
  ki_BadKeys_V := of_decide_eq_true (Bool.and_eq_true_iff.mp (Bool.and_eq_true_iff.mp (Bool.and_eq_true_iff.mp (Bool.and_eq_true_iff.mp (Bool.and_eq_true_iff.mp (Bool.and_eq_true_iff.mp (Bool.and_eq_true_iff.mp (Bool.and_eq_true_iff.mp (Bool.and_eq_true_iff.mp (Bool.and_eq_true_iff.mp (Bool.and_eq_true_iff.mp (Bool.and_eq_true_iff.mp (Bool.and_eq_true_iff.mp (Bool.and_eq_true_iff.mp (Bool.and_eq_true_iff.mp (Bool.and_eq_true_iff.mp (Bool.and_eq_true_iff.mp (Bool.and_eq_true_iff.mp (Bool.and_eq_true_iff.mp (Bool.and_eq_true_iff.mp c.more).2).2).2).2).2).2).2).2).2).2).2).2).2).2).2).2).2).2).2).1
  xc_BadDeed := excCB_ok (Bool.and_eq_true_iff.mp (Bool.and_eq_true_iff.mp (Bool.and_eq_true_iff.mp (Bool.and_eq_true_iff.mp (Bool.and_eq_true_iff.mp (Bool.and_eq_true_iff.mp (Bool.and_eq_true_iff.mp (Bool.and_eq_true_iff.mp (Bool.and_eq_true_iff.mp (Bool.and_eq_true_iff.mp (Bool.and_eq_true_iff.mp (Bool.and_eq_true_iff.mp (Bool.and_eq_true_iff.mp (Bool.and_eq_true_iff.mp (Bool.and_eq_true_iff.mp (Bool.and_eq_true_iff.mp (Bool.and_eq_true_iff.mp (Bool.and_eq_true_iff.mp (Bool.and_eq_true_iff.mp (Bool.and_eq_true_iff.mp (Bool.and_eq_true_iff.mp c.more).2).2).2).2).2).2).2).2).2).2).2).2).2).2).2).2).2).2).2).2).1
  ki_BadDeed_BadKeys := of_decide_eq_true (Bool.and_eq_true_iff.mp (Bool.and_eq_true_iff.mp (Bool.and_eq_true_iff.mp (Bool.and_eq_true_iff.mp (Bool.and_eq_true_iff.mp (Bool.and_eq_true_iff.mp (Bool.and_eq_true_iff.mp (Bool.and_eq_true_iff.mp (Bool.and_eq_true_iff.mp (Bool.and_eq_true_iff.mp (Bool.and_eq_true_iff.mp (Bool.and_eq_true_iff.mp (Bool.and_eq_true_iff.mp (Bool.and_eq_true_iff.mp (Bool.and_eq_true_iff.mp (Bool.and_eq_true_iff.mp (Bool.and_eq_true_iff.mp (Bool.and_eq_true_iff.mp (Bool.and_eq_true_iff.mp (Bool.and_eq_true_iff.mp (Bool.and_eq_true_iff.mp (Bool.and_eq_true_iff.mp c.more).2).2).2).2).2).2).2).2).2).2).2).2).2).2).2).2).2).2).2).2).2).1
  ki_BadDeed_BadDeed := of_decide_eq_true (Bool.and_eq_true_iff.mp (Bool.and_eq_true_iff.mp (Bool.and_eq_true_iff.mp (Bool.and_eq_true_iff.mp (Bool.and_eq_true_iff.mp (Bool.and_eq_true_iff.mp (Bool.and_eq_true_iff.mp (Bool.and_eq_true_iff.mp (Bool.and_eq_true_iff.mp (Bool.and_eq_true_iff.mp (Bool.and_eq_true_iff.mp (Bool.and_eq_true_iff.mp (Bool.and_eq_true_iff.mp (Bool.and_eq_true_iff.mp (Bool.and_eq_true_iff.mp (Bool.and_eq_true_iff.mp (Bool.and_eq_true_iff.mp (Bool.and_eq_true_iff.mp (Bool.and_eq_true_iff.mp (Bool.and_eq_true_iff.mp (Bool.and_eq_true_iff.mp (Bool.and_eq_true_iff.mp (Bool.and_eq_true_iff.mp c.more).2).2).2).2).2).2).2).2).2).2).2).2).2).2).2).2).2).2).2).2).2).2).1
  ki_BadDeed_NoHand := of_decide_eq_true (Bool.and_eq_true_iff.mp (Bool.and_eq_true_iff.mp (Bool.and_eq_true_iff.mp (Bool.and_eq_true_iff.mp (Bool.and_eq_true_iff.mp (Bool.and_eq_true_iff.mp (Bool.and_eq_true_iff.mp (Bool.and_eq_true_iff.mp (Bool.and_eq_true_iff.mp (Bool.and_eq_true_iff.mp (Bool.and_eq_true_iff.mp (Bool.and_eq_true_iff.mp (Bool.and_eq_true_iff.mp (Bool.and_eq_true_iff.mp (Bool.and_eq_true_iff.mp (Bool.and_eq_true_iff.mp (Bool.and_eq_true_iff.mp (Bool.and_eq_true_iff.mp (Bool.and_eq_true_iff.mp (Bool.and_eq_true_iff.mp (Bool.and_eq_true_iff.mp (Bool.and_eq_true_iff.mp (Bool.and_eq_true_iff.mp (Bool.and_eq_true_iff.mp c.more).2).2).2).2).2).2).2).2).2).2).2).2).2).2).2).2).2).2).2).2).2).2).2).1
  ki_BadDeed_TooMany := of_decide_eq_true (Bool.and_eq_true_iff.mp (Bool.and_eq_true_iff.mp (Bool.and_eq_true_iff.mp (Bool.and_eq_true_iff.mp (Bool.and_eq_true_iff.mp (Bool.and_eq_true_iff.mp (Bool.and_eq_true_iff.mp (Bool.and_eq_true_iff.mp (Bool.and_eq_true_iff.mp (Bool.and_eq_true_iff.mp (Bool.and_eq_true_iff.mp (Bool.and_eq_true_iff.mp (Bool.and_eq_true_iff.mp (Bool.and_eq_true_iff.mp (Bool.and_eq_true_iff.mp (Bool.and_eq_true_iff.mp (Bool.and_eq_true_iff.mp (Bool.and_eq_true_iff.mp (Bool.and_eq_true_iff.mp (Bool.and_eq_true_iff.mp (Bool.and_eq_true_iff.mp (Bool.and_eq_true_iff.mp (Bool.and_eq_true_iff.mp (Bool.and_eq_true_iff.mp (Bool.and_eq_true_iff.mp c.more).2).2).2).2).2).2).2).2).2).2).2).2).2).2).2).2).2).2).2).2).2).2).2).2).1
  ki_BadDeed_V := of_decide_eq_true (Bool.and_eq_true_iff.mp (Bool.and_eq_true_iff.mp (Bool.and_eq_true_iff.mp (Bool.and_eq_true_iff.mp (Bool.and_eq_true_iff.mp (Bool.and_eq_true_iff.mp (Bool.and_eq_true_iff.mp (Bool.and_eq_true_iff.mp (Bool.and_eq_true_iff.mp (Bool.and_eq_true_iff.mp (Bool.and_eq_true_iff.mp (Bool.and_eq_true_iff.mp (Bool.and_eq_true_iff.mp (Bool.and_eq_true_iff.mp (Bool.and_eq_true_iff.mp (Bool.and_eq_true_iff.mp (Bool.and_eq_true_iff.mp (Bool.and_eq_true_iff.mp (Bool.and_eq_true_iff.mp (Bool.and_eq_true_iff.mp (Bool.and_eq_true_iff.mp (Bool.and_eq_true_iff.mp (Bool.and_eq_true_iff.mp (Bool.and_eq_true_iff.mp (Bool.and_eq_true_iff.mp (Bool.and_eq_true_iff.mp c.more).2).2).2).2).2).2).2).2).2).2).2).2).2).2).2).2).2).2).2).2).2).2).2).2).2).1
  f_BadKeys_init := fd_of rfl rfl (c.t.d.def_ 0 (d := d_BadKeys_init) rfl)
  f_BadDeed_init := fd_of rfl rfl (c.t.d.def_ 1 (d := d_BadDeed_init) rfl)
  f_need_keys := fd_of rfl rfl (c.t.d.def_ 2 (d := d_need_keys) rfl)
  f_is_deed := fd_of rfl rfl (c.t.d.def_ 3 (d := d_is_deed) rfl)
  f_answer := fd_of rfl rfl (c.t.d.def_ 4 (d := d_answer) rfl)
  f_serial := fd_of rfl rfl (c.t.d.def_ 5 (d := d_serial) rfl)
  f_l_dice := fd_of rfl rfl (c.t.d.def_ 6 (d := d_l_dice) rfl)
  f_l_next := fd_of rfl rfl (c.t.d.def_ 7 (d := d_l_next) rfl)
  f_l_like := fd_of rfl rfl (c.t.d.def_ 8 (d := d_l_like) rfl)
  f_l_keys := fd_of rfl rfl (c.t.d.def_ 9 (d := d_l_keys) rfl)
  f_l_deed := fd_of rfl rfl (c.t.d.def_ 10 (d := d_l_deed) rfl)
  f_l_programs := fd_of rfl rfl (c.t.d.def_ 11 (d := d_l_programs) rfl)
  f_l_weaving := fd_of rfl rfl (c.t.d.def_ 12 (d := d_l_weaving) rfl)
  f_l_answer := fd_of rfl rfl (c.t.d.def_ 13 (d := d_l_answer) rfl)
  f_l_is := fd_of rfl rfl (c.t.d.def_ 14 (d := d_l_is) rfl)
  f_l_told := fd_of rfl rfl (c.t.d.def_ 15 (d := d_l_told) rfl)
  f_law := fd_of rfl rfl (c.t.d.def_ 16 (d := d_law) rfl)
/-! ### the run of the top -/
abbrev RowL : PySem.W.OpenRow := PySem.W.OpenLaw.row PySem.Challenge.rw_handoverhand_k02_deeds_one_by_one
def adrs : List Addr := [2, 3, 6, 4, 24, 44, 63, 75, 87, 96, 97, 102, 107, 114, 121, 128, 135, 142, 149, 154, 161, 166, 171, 178, 183, 0, 23, 43, 62, 74, 86, 95, 101, 106, 113, 120, 127, 134, 141, 148, 153, 160, 165, 170, 177, 182, 22, 25, 41, 42, 60, 61, 73, 85, 90, 91, 92, 93, 94, 98, 99, 100, 103, 104, 105, 108, 109, 110, 111, 112, 115, 116, 117, 118, 119, 122, 123, 124, 125, 126, 129, 130, 131, 132, 133, 136, 137, 138, 139, 140, 143, 144, 145, 146, 147, 150, 151, 152, 155, 156, 157, 158, 159, 162, 163, 164, 167, 168, 169, 172, 173, 174, 175, 176, 179, 180, 181, 40, 59]
abbrev frK (g : Addr → Option Obj) : PySem.W.Frag := He.frT g adrs
def seenL (g : Addr → Option Obj) : He.AlX := (He.obsT fa fn ts (frK g), exB (frK g) && He.tabsB g tf (frK g))
theorem saysL {w : World} {h : Heap} (e : seenL h.get? = He.valX fn ts w) : He.SaysX fa fn ts tf exB w h (frK h.get?) := by
  have e1 : He.obsT fa fn ts (frK h.get?) = He.valT fn ts w := congrArg (fun z : He.AlX => z.1) e
  have e2 : (exB (frK h.get?) && He.tabsB h.get? tf (frK h.get?)) = true := congrArg (fun z : He.AlX => z.2) e
  obtain ⟨ex, e4⟩ := Bool.and_eq_true_iff.mp e2
  unfold He.tabsB at e4
  have e3 := List.all_eq_true.mp e4
  have tab : ∀ p ∈ tf, ∃ o, h.get? (He.cT (frK h.get?) p).2 = some o ∧ He.emptyTab o = true := by
    intro p hp
    have z := (Bool.and_eq_true_iff.mp (e3 p hp)).2
    generalize h.get? (He.cT (frK h.get?) p).2 = x at z
    cases x with
    | none => exact absurd z (by decide)
    | some o => exact ⟨o, rfl, z⟩
  refine ⟨e1, ex, fun p hp => (Bool.and_eq_true_iff.mp (e3 p hp)).1, fun p hp => ?_, fun p hp => ?_⟩
  · obtain ⟨o, h1, h2⟩ := tab p hp
    exact He.frT_none h1 h2
  · obtain ⟨o, h1, h2⟩ := tab p hp
    exact h1.trans (congrArg some (He.emptyTab_eq h2))
def hk : PySem.W.Hook where
  α := He.AlX
  obs := fun s => seenL s.heap.get?
  val := fun w => He.valX fn ts w
  says := fun w h => ∃ K : PySem.W.Frag, K.In h ∧ He.SaysX fa fn ts tf exB w h K
  of := fun _ _ e => ⟨_, He.frT_in, saysL e⟩
  keeps := fun _ _ _ z k => by
    obtain ⟨K, i, c⟩ := z
    exact ⟨K, i.keeps k, c.t, c.more, c.hd, c.out, fun p hp => k _ _ (c.empty p hp)⟩
def ob (s : PySem.W.SharedT) : He.AlX := seenL (HandSHeadRun.getT s)
theorem ob_eq (s : PySem.W.SharedT) : ob s = hk.obs s.abs := congrArg seenL (funext fun a => HandSHeadRun.getT_eq s a)
def names : List PySem.Str := (["__name__", "PageError", "BadKeys", "BadDeed", "NoHand", "TooMany", "MOST_KEY", "MOST_BEGIN", "need_keys", "WORDS", "is_deed", "answer", "serial", "_law_dice", "_law_next", "_law_like", "_law_keys", "_law_deed", "_law_programs", "_law_weaving", "_law_answer", "_law_is", "_law_told"] : List PySem.Str)
theorem run (w : World) : HandSHeadRun.RunEq RowL (PySem.W.view RowL.prog [26]) hk ob 20000 names w :=
  PySem.W.byRow2 "special-get-raises" (P := fun w => HandSHeadRun.RunEq RowL (PySem.W.view RowL.prog [26]) hk ob 20000 names w)
    (fun w => by intro os; kernel_rfl) (fun w => by intro os; kernel_rfl) w
end HH
namespace HH
open PySem PySem.Spec PyProof.Rows L2
local macro_rules | `(tactic| walk_at "v") => `(tactic| refine ⟨_, rfl, ?_⟩)
local macro_rules | `(tactic| walk_at "ii") => `(tactic| refine ⟨_, _, rfl, rfl, ?_⟩)
/-! ### the tree: pages, bounds, levels -/
structure Pg where
  row : List Int
  kids : List Int
  nxt : Option Int
  deriving DecidableEq

def setP (f : Int → Option Pg) (n : Int) (p : Pg) : Int → Option Pg := fun x => if x = n then some p else f x
def delP (f : Int → Option Pg) (n : Int) : Int → Option Pg := fun x => if x = n then none else f x
theorem setP_same {f n p} : setP f n p n = some p := by simp [setP]
theorem setP_ne {f n p x} (h : x ≠ n) : setP f n p x = f x := by simp [setP, h]
theorem delP_same {f n} : delP f n n = none := by simp [delP]
theorem delP_ne {f n x} (h : x ≠ n) : delP f n x = f x := by simp [delP, h]

/-- ghosts: the bounds and the level of each page -/
structure Gh where
  lo : Int → Int
  hi : Int → Int
  lv : Int → Nat

def Kid (f : Int → Option Pg) (g : Gh) (v : Nat) (c lo hi : Int) : Prop := (∃ p, f c = some p) ∧ g.lv c = v ∧ g.lo c = lo ∧ g.hi c = hi ∧ lo < hi

def Chain (K : Int → Int → Int → Prop) : Int → List Int → List Int → Int → Prop
  | lo, [], [c], hi => K c lo hi
  | lo, k :: r, c :: cs, hi => K c lo k ∧ Chain K k r cs hi
  | _, _, _, _ => False

section
variable {K K' : Int → Int → Int → Prop}
theorem Chain.len : ∀ {r : List Int} {cs : List Int} {lo hi : Int}, Chain K lo r cs hi → cs.length = r.length + 1
  | [], [_], _, _, _ => rfl
  | _ :: _, _ :: _, _, _, h => by
    have := Chain.len h.2
    simp [this]
  | [], [], _, _, h => h.elim
  | [], _ :: _ :: _, _, _, h => h.elim
  | _ :: _, [], _, _, h => h.elim
theorem Chain.mono : ∀ {r : List Int} {cs : List Int} {lo hi : Int}, (∀ c l h, c ∈ cs → K c l h → K' c l h) → Chain K lo r cs hi → Chain K' lo r cs hi
  | [], [c], _, _, f, h => f c _ _ (by simp) h
  | _ :: _, c :: cs, _, _, f, h => ⟨f c _ _ (by simp) h.1, Chain.mono (fun d l h' hd => f d l h' (by simp [hd])) h.2⟩
  | [], [], _, _, _, h => h.elim
  | [], _ :: _ :: _, _, _, _, h => h.elim
  | _ :: _, [], _, _, _, h => h.elim
theorem Chain.app : ∀ {r1 r2 c1 c2 : List Int} {lo k hi : Int}, Chain K lo r1 c1 k → Chain K k r2 c2 hi → Chain K lo (r1 ++ k :: r2) (c1 ++ c2) hi
  | [], _, [_], _, _, _, _, h1, h2 => ⟨h1, h2⟩
  | _ :: _, _, _ :: _, _, _, _, _, h1, h2 => ⟨h1.1, Chain.app h1.2 h2⟩
  | [], _, [], _, _, _, _, h, _ => h.elim
  | [], _, _ :: _ :: _, _, _, _, _, h, _ => h.elim
  | _ :: _, _, [], _, _, _, _, h, _ => h.elim
theorem Chain.cut : ∀ {r1 r2 c1 c2 : List Int} {lo k hi : Int}, Chain K lo (r1 ++ k :: r2) (c1 ++ c2) hi → c1.length = r1.length + 1 → Chain K lo r1 c1 k ∧ Chain K k r2 c2 hi
  | [], _, [_], _, _, _, _, h, _ => ⟨h.1, h.2⟩
  | _ :: _, _, _ :: _, _, _, _, _, h, e => by
    obtain ⟨h1, h2⟩ := h
    obtain ⟨h3, h4⟩ := Chain.cut h2 (by simpa using e)
    exact ⟨⟨h1, h3⟩, h4⟩
  | [], _, [], _, _, _, _, _, e => by simp at e
  | [], _, _ :: _ :: _, _, _, _, _, _, e => by simp at e
  | _ :: _, _, [], _, _, _, _, _, e => by simp at e
theorem Chain.lt (hK : ∀ c l h, K c l h → l < h) : ∀ {r : List Int} {cs : List Int} {lo hi : Int}, Chain K lo r cs hi → lo < hi
  | [], [c], _, _, h => hK c _ _ h
  | _ :: _, c :: cs, _, _, h => Int.lt_trans (hK c _ _ h.1) (Chain.lt hK h.2)
  | [], [], _, _, h => h.elim
  | [], _ :: _ :: _, _, _, h => h.elim
  | _ :: _, [], _, _, h => h.elim
theorem Chain.mem (hK : ∀ c l h, K c l h → l < h) : ∀ {r : List Int} {cs : List Int} {lo hi : Int} {c : Int}, Chain K lo r cs hi → c ∈ cs → ∃ l h, K c l h ∧ lo ≤ l ∧ h ≤ hi
  | [], [c], _, _, d, h, hd => by
    have : d = c := by simpa using hd
    subst this
    exact ⟨_, _, h, Int.le_refl _, Int.le_refl _⟩
  | k :: r, c :: cs, lo, hi, d, h, hd => by
    rcases List.mem_cons.mp hd with e | hd
    · subst e
      exact ⟨_, _, h.1, Int.le_refl _, Int.le_of_lt (Chain.lt hK h.2)⟩
    · obtain ⟨l, h', k1, k2, k3⟩ := Chain.mem hK h.2 hd
      exact ⟨l, h', k1, Int.le_trans (Int.le_of_lt (hK c _ _ h.1)) k2, k3⟩
  | [], [], _, _, _, h, _ => h.elim
  | [], _ :: _ :: _, _, _, _, h, _ => h.elim
  | _ :: _, [], _, _, _, h, _ => h.elim
/-- the keys of an inner page lie strictly within, rising -/
theorem Chain.keys (hK : ∀ c l h, K c l h → l < h) : ∀ {r : List Int} {cs : List Int} {lo hi : Int}, Chain K lo r cs hi → r.Pairwise (· < ·) ∧ ∀ k ∈ r, lo < k ∧ k < hi
  | [], [_], _, _, _ => ⟨.nil, by simp⟩
  | k :: r, c :: cs, lo, hi, h => by
    obtain ⟨h1, h2⟩ := Chain.keys hK h.2
    have a := hK c _ _ h.1
    have b := Chain.lt hK h.2
    refine ⟨List.Pairwise.cons (fun x hx => (h2 x hx).1) h1, fun x hx => ?_⟩
    rcases List.mem_cons.mp hx with e | hx
    · subst e; exact ⟨a, b⟩
    · exact ⟨Int.lt_trans a (h2 x hx).1, (h2 x hx).2⟩
  | [], [], _, _, h => h.elim
  | [], _ :: _ :: _, _, _, h => h.elim
  | _ :: _, [], _, _, h => h.elim

def place (row : List Int) (k : Int) : Nat := (row.filter fun x => decide (x ≤ k)).length

theorem place_cons_le {a k : Int} {r : List Int} (h : a ≤ k) : place (a :: r) k = place r k + 1 := by
  unfold place
  rw [List.filter_cons_of_pos (by simpa using h)]
  rfl
theorem place_zero {k : Int} : ∀ {r : List Int}, (∀ x ∈ r, k < x) → place r k = 0 := by
  intro r h
  unfold place
  rw [List.filter_eq_nil_iff.mpr]
  · rfl
  · intro x hx
    have := h x hx
    simp; omega

/-- the child at which a key lies -/
theorem Chain.child (hK : ∀ c l h, K c l h → l < h) : ∀ {r : List Int} {cs : List Int} {lo hi k : Int}, Chain K lo r cs hi → lo ≤ k → k < hi → ∃ c l h, cs[place r k]? = some c ∧ K c l h ∧ l ≤ k ∧ k < h
  | [], [c], lo, hi, k, h, h1, h2 => ⟨c, lo, hi, rfl, h, h1, h2⟩
  | a :: r, c :: cs, lo, hi, k, h, h1, h2 => by
    by_cases e : a ≤ k
    · obtain ⟨d, l, h', q1, q2, q3, q4⟩ := Chain.child hK h.2 e h2
      exact ⟨d, l, h', by rw [place_cons_le e]; simpa using q1, q2, q3, q4⟩
    · have z : place (a :: r) k = 0 := place_zero fun x hx => by
        rcases List.mem_cons.mp hx with e' | hx
        · omega
        · have := (Chain.keys hK h.2).2 x hx
          omega
      exact ⟨c, lo, a, by rw [z]; rfl, h.1, h1, by omega⟩
  | [], [], _, _, _, h, _, _ => h.elim
  | [], _ :: _ :: _, _, _, _, h, _, _ => h.elim
  | _ :: _, [], _, _, _, h, _, _ => h.elim
end

/-- a leaf's keys -/
def LeafRow (lo : Int) (row : List Int) (hi : Int) : Prop := row.Pairwise (· < ·) ∧ ∀ k ∈ row, lo ≤ k ∧ k < hi

def NextOk (f : Int → Option Pg) (g : Gh) (hi : Int) : Option Int → Prop
  | none => hi = 100
  | some m => (∃ p, f m = some p) ∧ g.lv m = 0 ∧ g.lo m = hi

structure PageOk (f : Int → Option Pg) (g : Gh) (root : Int) (n : Int) (p : Pg) : Prop where
  pos : 1 ≤ n
  ne : g.lo n < g.hi n
  low : -1 ≤ g.lo n
  high : g.hi n ≤ 100
  most : p.row.length ≤ 3
  full1 : n ≠ root → 1 ≤ p.row.length
  body : (g.lv n = 0 ∧ p.kids = [] ∧ LeafRow (g.lo n) p.row (g.hi n) ∧ NextOk f g (g.hi n) p.nxt) ∨
    (∃ v, g.lv n = v + 1 ∧ 1 ≤ p.row.length ∧ p.nxt = none ∧ Chain (Kid f g v) (g.lo n) p.row p.kids (g.hi n))

structure TreeOk (f : Int → Option Pg) (root last : Int) (g : Gh) : Prop where
  rt : ∃ p, f root = some p
  rlo : g.lo root = -1
  rhi : g.hi root = 100
  page : ∀ n p, f n = some p → PageOk f g root n p
  last : ∀ n p, f n = some p → n ≤ last
  dis : ∀ x y p q, f x = some p → f y = some q → x ≠ y → g.lv x = g.lv y → g.hi x ≤ g.lo y ∨ g.hi y ≤ g.lo x
  top : ∀ n p, f n = some p → n = root ∨ g.lv n < g.lv root

theorem Kid.lt {f : Int → Option Pg} {g : Gh} {v : Nat} (c l h : Int) (k : Kid f g v c l h) : l < h := k.2.2.2.2

section
variable {f : Int → Option Pg} {root last : Int} {g : Gh}

theorem PageOk.leaf {n : Int} {p : Pg} (h : PageOk f g root n p) (e : g.lv n = 0) : p.kids = [] ∧ LeafRow (g.lo n) p.row (g.hi n) ∧ NextOk f g (g.hi n) p.nxt := by
  rcases h.body with ⟨_, h1, h2, h3⟩ | ⟨v, h1, _⟩
  · exact ⟨h1, h2, h3⟩
  · omega
theorem PageOk.inner {n : Int} {p : Pg} {v : Nat} (h : PageOk f g root n p) (e : g.lv n = v + 1) : 1 ≤ p.row.length ∧ p.nxt = none ∧ Chain (Kid f g v) (g.lo n) p.row p.kids (g.hi n) := by
  rcases h.body with ⟨h0, _⟩ | ⟨v', h1, h2⟩
  · omega
  · have : v' = v := by omega
    subst this
    exact h2
theorem PageOk.leaf_iff {n : Int} {p : Pg} (h : PageOk f g root n p) : p.kids = [] ↔ g.lv n = 0 := by
  constructor
  · intro e
    rcases h.body with ⟨h0, _⟩ | ⟨v', h1, h2, h3, h4⟩
    · exact h0
    · have := h4.len
      rw [e] at this
      simp at this
  · intro e
    exact (h.leaf e).1

/-- an inner page: the kid at a key -/
theorem TreeOk.child (T : TreeOk f root last g) {n : Int} {p : Pg} (hp : f n = some p) (hk : p.kids ≠ []) {k : Int} (h1 : g.lo n ≤ k) (h2 : k < g.hi n) :
    ∃ c q, p.kids[place p.row k]? = some c ∧ f c = some q ∧ g.lv c + 1 = g.lv n ∧ g.lo c ≤ k ∧ k < g.hi c ∧ g.lo n ≤ g.lo c ∧ g.hi c ≤ g.hi n := by
  have P := T.page n p hp
  rcases P.body with ⟨_, h, _⟩ | ⟨v, e, _, _, ch⟩
  · exact absurd h hk
  · obtain ⟨c, l, h, q1, q2, q3, q4⟩ := ch.child Kid.lt h1 h2
    obtain ⟨l', h', q2', m1, m2⟩ := ch.mem Kid.lt (List.mem_of_getElem? q1)
    obtain ⟨⟨q, e1⟩, e2, e3, e4, e5⟩ := q2
    obtain ⟨_, _, e3', e4', _⟩ := q2'
    exact ⟨c, q, q1, e1, by omega, by omega, by omega, by omega, by omega⟩
theorem TreeOk.kid (T : TreeOk f root last g) {n c : Int} {p : Pg} (hp : f n = some p) (hc : c ∈ p.kids) :
    ∃ q, f c = some q ∧ g.lv c + 1 = g.lv n ∧ g.lo n ≤ g.lo c ∧ g.hi c ≤ g.hi n ∧ g.lo c < g.hi c := by
  have P := T.page n p hp
  rcases P.body with ⟨_, h, _⟩ | ⟨v, e, _, _, ch⟩
  · rw [h] at hc; simp at hc
  · obtain ⟨l', h', ⟨⟨q, e1⟩, e2, e3, e4, e5⟩, m1, m2⟩ := ch.mem Kid.lt hc
    exact ⟨q, e1, by omega, by omega, by omega, by omega⟩
/-- two pages of one level that share a place are one -/
theorem TreeOk.same (T : TreeOk f root last g) {x y : Int} {p q : Pg} (hx : f x = some p) (hy : f y = some q) (e : g.lv x = g.lv y) {k : Int} (h1 : g.lo x ≤ k) (h2 : k < g.hi x) (h3 : g.lo y ≤ k) (h4 : k < g.hi y) : x = y := by
  by_cases h : x = y
  · exact h
  · rcases T.dis x y p q hx hy h e with h | h <;> omega
theorem TreeOk.same_lo (T : TreeOk f root last g) {x y : Int} {p q : Pg} (hx : f x = some p) (hy : f y = some q) (e : g.lv x = g.lv y) (h : g.lo x = g.lo y) : x = y := by
  have a := (T.page x p hx).ne
  have b := (T.page y q hy).ne
  exact T.same hx hy e (k := g.lo x) (by omega) (by omega) (by omega) (by omega)
theorem TreeOk.same_hi (T : TreeOk f root last g) {x y : Int} {p q : Pg} (hx : f x = some p) (hy : f y = some q) (e : g.lv x = g.lv y) (h : g.hi x = g.hi y) : x = y := by
  have a := (T.page x p hx).ne
  have b := (T.page y q hy).ne
  exact T.same hx hy e (k := g.hi x - 1) (by omega) (by omega) (by omega) (by omega)
theorem TreeOk.parent (T : TreeOk f root last g) {x y c : Int} {p q : Pg} (hx : f x = some p) (hy : f y = some q) (h1 : c ∈ p.kids) (h2 : c ∈ q.kids) : x = y := by
  obtain ⟨_, _, a1, a2, a3, a4⟩ := T.kid hx h1
  obtain ⟨_, _, b1, b2, b3, b4⟩ := T.kid hy h2
  exact T.same hx hy (by omega) (k := g.lo c) (by omega) (by omega) (by omega) (by omega)
theorem TreeOk.kid_ne_root (T : TreeOk f root last g) {n c : Int} {p : Pg} (hp : f n = some p) (hc : c ∈ p.kids) : c ≠ root := by
  intro e
  obtain ⟨q, _, h1, _⟩ := T.kid hp hc
  rw [e] at h1
  rcases T.top n p hp with h | h
  · rw [h] at h1; omega
  · omega
/-- every place is covered, at every level -/
theorem TreeOk.cover (T : TreeOk f root last g) {k : Int} (h1 : -1 ≤ k) (h2 : k < 100) : ∀ d v, v + d = g.lv root → ∃ n p, f n = some p ∧ g.lv n = v ∧ g.lo n ≤ k ∧ k < g.hi n
  | 0, v, e => by
    obtain ⟨p, hp⟩ := T.rt
    exact ⟨root, p, hp, by omega, by rw [T.rlo]; omega, by rw [T.rhi]; omega⟩
  | d + 1, v, e => by
    obtain ⟨n, p, hp, e1, e2, e3⟩ := T.cover h1 h2 d (v + 1) (by omega)
    have hk : p.kids ≠ [] := fun z => by
      have := (T.page n p hp).leaf_iff.mp z
      omega
    obtain ⟨c, q, _, hc, l, l1, l2, _⟩ := T.child hp hk e2 e3
    exact ⟨c, q, hc, by omega, l1, l2⟩
theorem TreeOk.le_top (T : TreeOk f root last g) {n : Int} {p : Pg} (hp : f n = some p) : g.lv n ≤ g.lv root := by
  rcases T.top n p hp with h | h
  · rw [h]; omega
  · omega
/-- a page that is not the root has a parent -/
theorem TreeOk.has_parent (T : TreeOk f root last g) {n : Int} {p : Pg} (hp : f n = some p) (hn : n ≠ root) : ∃ x q, f x = some q ∧ n ∈ q.kids := by
  have ht : g.lv n < g.lv root := (T.top n p hp).resolve_left hn
  have hP := T.page n p hp
  have b : -1 ≤ g.lo n ∧ g.hi n ≤ 100 := ⟨hP.low, hP.high⟩
  obtain ⟨x, q, hx, e1, e2, e3⟩ := T.cover (k := g.lo n) b.1 (by have := hP.ne; omega) (g.lv root - (g.lv n + 1)) (g.lv n + 1) (by omega)
  have hk : q.kids ≠ [] := fun z => by
    have := (T.page x q hx).leaf_iff.mp z
    omega
  obtain ⟨c, q', h1, hc, l, l1, l2, _⟩ := T.child hx hk e2 e3
  have : c = n := T.same hc hp (by omega) l1 l2 (Int.le_refl _) hP.ne
  subst this
  exact ⟨x, q, hx, List.mem_of_getElem? h1⟩
end

/-! ### the machine as data: what each def computes -/
inductive Deed where
  | put (k : Int) | take (k : Int) | ask (k : Int) | walk (lo hi : Int)
  deriving DecidableEq
def Deed.key : Deed → Int
  | .put k => k
  | .take k => k
  | .ask k => k
  | .walk k _ => k
inductive Ans where
  | b (x : Bool) | l (xs : List Int)
  deriving DecidableEq
structure Fo where
  pages : Int → Option Pg
  last : Int
  root : Int
structure Ha where
  prog : List Deed
  at_ : Nat
  held : List Int
  want : Option Int
  again : Option Int
  said : List Ans
structure Mc where
  left : Bool
  fo : Fo
  locks : Int → Option Nat
  ends : List (Nat × Nat)
  n : Nat
  ha : Nat → Ha
inductive Told where
  | rests | waits (p : Int) | locks (p : Int) | begins | goes (p : Int) | ends (a : Ans) | splits (p q : Int) | moves (p q : Int) | joins (p q : Int)
  deriving DecidableEq
def Fo.pg (F : Fo) (n : Int) : Pg := (F.pages n).getD ⟨[], [], none⟩
def Fo.set (F : Fo) (n : Int) (p : Pg) : Fo := { F with pages := setP F.pages n p }
def Fo.del (F : Fo) (n : Int) : Fo := { F with pages := delP F.pages n }
def Fo.child (F : Fo) (n k : Int) : Int := if n = 0 then F.root else (F.pg n).kids.getD (place (F.pg n).row k) 0
/-- a page more -/
def Fo.add (F : Fo) (p : Pg) : Fo := { F with pages := setP F.pages (F.last + 1) p, last := F.last + 1 }
/-- the upper page behind a split below it -/
def beside (u : Pg) (n key new : Int) : Pg :=
  { u with row := u.row.take (u.kids.idxOf n) ++ key :: u.row.drop (u.kids.idxOf n), kids := u.kids.take (u.kids.idxOf n + 1) ++ new :: u.kids.drop (u.kids.idxOf n + 1) }
/-- the two halves of a full page -/
def halfL (p : Pg) (new : Int) : Pg := if p.kids = [] then ⟨p.row.take 1, [], some new⟩ else ⟨p.row.take 1, p.kids.take 2, p.nxt⟩
def halfR (p : Pg) : Pg := if p.kids = [] then ⟨p.row.drop 1, [], p.nxt⟩ else ⟨p.row.drop 2, p.kids.drop 2, none⟩
/-- n split below above -/
def Fo.split (F : Fo) (above n : Int) : Fo :=
  let p := F.pg n
  let F1 := (F.add (halfR p)).set n (halfL p (F.last + 1))
  if above = 0 then { F1.add ⟨[p.row.getD 1 0], [n, F.last + 1], none⟩ with root := F.last + 2 }
  else F1.set above (beside (F.pg above) n (p.row.getD 1 0) (F.last + 1))
/-- one key moved between neighbours -/
def movedL (u one other : Pg) (i : Nat) : Pg := if one.kids = [] then { one with row := one.row ++ [other.row.getD 0 0] } else { one with row := one.row ++ [u.row.getD i 0], kids := one.kids ++ [other.kids.getD 0 0] }
def movedLo (other one : Pg) : Pg := if one.kids = [] then { other with row := other.row.tail } else { other with row := other.row.tail, kids := other.kids.tail }
def movedLu (u one other : Pg) (i : Nat) : Pg := { u with row := u.row.set i (if one.kids = [] then other.row.getD 1 0 else other.row.getD 0 0) }
def movedR (u one other : Pg) (i : Nat) : Pg := if one.kids = [] then { other with row := one.row.getLastD 0 :: other.row } else { other with row := u.row.getD i 0 :: other.row, kids := one.kids.getLastD 0 :: other.kids }
def movedRo (one : Pg) : Pg := if one.kids = [] then { one with row := one.row.dropLast } else { one with row := one.row.dropLast, kids := one.kids.dropLast }
def movedRu (u one : Pg) (i : Nat) : Pg := { u with row := u.row.set i (one.row.getLastD 0) }
def Fo.moved (F : Fo) (above left right : Int) (toLeft : Bool) : Fo :=
  let u := F.pg above
  let i := u.kids.idxOf left
  let one := F.pg left
  let other := F.pg right
  if toLeft then ((F.set left (movedL u one other i)).set right (movedLo other one)).set above (movedLu u one other i)
  else ((F.set left (movedRo one)).set right (movedR u one other i)).set above (movedRu u one i)
/-- the right one of two neighbours joined to the left one -/
def joinL (u one other : Pg) (i : Nat) : Pg := if one.kids = [] then { one with row := one.row ++ other.row, nxt := other.nxt } else { one with row := one.row ++ u.row.getD i 0 :: other.row, kids := one.kids ++ other.kids }
def joinU (u : Pg) (i : Nat) : Pg := { u with row := u.row.eraseIdx i, kids := u.kids.eraseIdx (i + 1) }
def Fo.joined (F : Fo) (above left right : Int) : Fo :=
  let u := F.pg above
  let i := u.kids.idxOf left
  ((F.set left (joinL u (F.pg left) (F.pg right) i)).set above (joinU u i)).del right
/-- the pages' numbers, rising; the pages by their numbers -/
def Fo.dom (F : Fo) : List Int := ((List.range (F.last.toNat + 1)).map Int.ofNat).filter fun n => (F.pages n).isSome
def Fo.rows (F : Fo) : List (Int × Pg) := F.dom.map fun n => (n, F.pg n)
/-! the machine -/
def Mc.setHa (M : Mc) (h : Nat) (x : Ha) : Mc := { M with ha := fun i => if i = h then x else M.ha i }
def Mc.lockP (M : Mc) (p : Int) (h : Nat) : Mc := { M with locks := fun x => if x = p then some h else M.locks x }
def Mc.freeP (M : Mc) (p : Int) : Mc := { M with locks := fun x => if x = p then none else M.locks x }
def Mc.hold (M : Mc) (h : Nat) (l : List Int) : Mc := M.setHa h { M.ha h with held := l }
def Mc.leave1 (M : Mc) (h : Nat) (p : Int) : Mc := (M.freeP p).hold h ((M.ha h).held.erase p)
def Mc.leave (M : Mc) (h : Nat) (ps : List Int) : Mc := ps.foldl (fun M p => M.leave1 h p) M
def Mc.wants (M : Mc) (h : Nat) (p : Int) : Mc := M.setHa h { M.ha h with want := some p }
def Mc.deed (M : Mc) (h : Nat) : Deed := (M.ha h).prog.getD (M.ha h).at_ (.ask 0)
def Mc.lastP (M : Mc) (h : Nat) : Int := (M.ha h).held.getLastD 0
def Mc.endsWith (M : Mc) (h : Nat) (a : Ans) : Mc × Told :=
  let M1 := M.leave h (M.ha h).held
  let x := M1.ha h
  ({ M1.setHa h { x with said := x.said ++ [a], at_ := x.at_ + 1 } with ends := M1.ends ++ [(h, x.at_)] }, .ends a)
def Mc.goes (M : Mc) (h : Nat) (p : Int) : Mc × Told := (M.wants h p, .goes p)
def Mc.down (M : Mc) (h : Nat) : Mc × Told :=
  (M.leave h (M.ha h).held.dropLast).goes h (M.fo.child (M.lastP h) (M.deed h).key)
def isUpper (F : Fo) (p : Int) : Bool := decide (p = 0) || !decide ((F.pg p).kids = [])
def Mc.walk (M : Mc) (h : Nat) (lo hi : Int) : Mc × Told :=
  let M1 := M.leave h ((M.ha h).held.filter (isUpper M.fo))
  let last := M.fo.pg (M.lastP h)
  match last.nxt with
  | some m => if last.row = [] ∨ last.row.getLastD 0 < hi then M1.goes h m
    else M1.endsWith h (.l ((M1.ha h).held.flatMap fun p => (M.fo.pg p).row.filter fun k => decide (lo ≤ k ∧ k ≤ hi)))
  | none => M1.endsWith h (.l ((M1.ha h).held.flatMap fun p => (M.fo.pg p).row.filter fun k => decide (lo ≤ k ∧ k ≤ hi)))
/-- a key put into a leaf's row -/
def ins (k : Int) : List Int → List Int
  | [] => [k]
  | a :: r => if k ≤ a then k :: a :: r else a :: ins k r
def Mc.put (M : Mc) (h : Nat) (k : Int) : Mc × Told :=
  let here := M.lastP h
  let p := M.fo.pg here
  if p.row.length = 3 then
    let above := (M.ha h).held.dropLast.getLastD 0
    let new := M.fo.last + 1
    let x := M.ha h
    let at_ := if p.row.getD 1 0 ≤ k then new else here
    let M1 := ({ M with fo := M.fo.split above here }).freeP here
    if above = 0 then ((((M1.lockP (new + 1) h).lockP at_ h)).hold h (x.held.dropLast ++ [new + 1] ++ [at_]), .splits here new)
    else ((M1.lockP at_ h).hold h (x.held.dropLast ++ [at_]), .splits here new)
  else if p.kids ≠ [] then M.down h
  else if k ∈ p.row then M.endsWith h (.b false)
  else ({ M with fo := M.fo.set here { p with row := ins k p.row } }).endsWith h (.b true)
def Mc.mend (M : Mc) (h : Nat) (above a b k : Int) : Mc × Told :=
  let kids := (M.fo.pg above).kids
  let left := if kids.idxOf b < kids.idxOf a then b else a
  let right := if kids.idxOf b < kids.idxOf a then a else b
  let lies := M.fo.child above k
  let beside := left + right - lies
  if 1 < (M.fo.pg beside).row.length then
    (({ M with fo := M.fo.moved above left right (decide (lies = left)) }).leave1 h beside, .moves lies beside)
  else
    let M1 := ({ M with fo := M.fo.joined above left right }).leave1 h right
    if (M.fo.pg above).row.length = 1 then
      let M2 := M1.leave1 h above
      ({ M2 with fo := { M2.fo.del above with root := left } }, .joins left right)
    else (M1, .joins left right)
def Mc.neighbour (M : Mc) (h : Nat) (above here : Int) : Mc × Told :=
  let kids := (M.fo.pg above).kids
  let i := kids.idxOf here
  if i + 1 < kids.length then M.goes h (kids.getD (i + 1) 0)
  else
    let M1 := if M.left = true then let M2 := M.leave1 h here; M2.setHa h { M2.ha h with again := some here } else M
    M1.goes h (kids.getD (i - 1) 0)
def Mc.take (M : Mc) (h : Nat) (k : Int) : Mc × Told :=
  let here := M.lastP h
  let p := M.fo.pg here
  match (M.ha h).held.dropLast.filter fun x => decide (x ≠ 0) with
  | [a, b] => M.mend h a b here k
  | above =>
    if above ≠ [] ∧ p.row.length = 1 then M.neighbour h (above.getD 0 0) here
    else if p.kids = [] then
      if k ∈ p.row then ({ M with fo := M.fo.set here { p with row := p.row.erase k } }).endsWith h (.b true)
      else M.endsWith h (.b false)
    else if above = [] ∧ p.row.length = 1 then M.goes h (M.fo.child here k)
    else M.down h
def Mc.work (M : Mc) (h : Nat) : Mc × Told :=
  let here := M.lastP h
  if here = 0 then M.goes h M.fo.root
  else match M.deed h with
  | .put k => M.put h k
  | .take k => M.take h k
  | .ask k => if (M.fo.pg here).kids = [] then (M.leave h (M.ha h).held.dropLast).endsWith h (.b (decide (k ∈ (M.fo.pg here).row))) else M.down h
  | .walk lo hi => if (M.fo.pg here).kids = [] then M.walk h lo hi else M.down h
def Mc.lock (M : Mc) (h : Nat) (p : Int) : Mc × Told :=
  let x := M.ha h
  ((M.lockP p h).setHa h { x with held := x.held ++ [p], want := x.again, again := none }, .locks p)
def Mc.rests (M : Mc) (h : Nat) : Bool := decide ((M.ha h).at_ = (M.ha h).prog.length)
def Mc.waits (M : Mc) (h : Nat) : Bool := match (M.ha h).want with
  | some p => (M.locks p).isSome
  | none => false
/-- a hand's step -/
def Mc.turn (M : Mc) (h : Nat) : Mc × Told :=
  if M.rests h = true then (M, .rests)
  else match (M.ha h).want with
  | some p => if M.waits h = true then (M, .waits p) else M.lock h p
  | none => if (M.ha h).held = [] then (M.wants h 0, .begins) else M.work h
/-- whether all hands rest -/
def Mc.done (M : Mc) : Bool := (List.range M.n).all M.rests

/-! ### changes of a tree -/
theorem Fo.pg_some {F : Fo} {n : Int} {p : Pg} (h : F.pages n = some p) : F.pg n = p := by unfold Fo.pg; rw [h]; rfl
def Gh.put (g : Gh) (n lo hi : Int) (lv : Nat) : Gh := ⟨fun x => if x = n then lo else g.lo x, fun x => if x = n then hi else g.hi x, fun x => if x = n then lv else g.lv x⟩
structure Out (f f' : Int → Option Pg) (g g' : Gh) (S : Int → Prop) : Prop where
  pg : ∀ n, ¬ S n → f' n = f n
  lo : ∀ n, ¬ S n → g'.lo n = g.lo n
  hi : ∀ n, ¬ S n → g'.hi n = g.hi n
  lv : ∀ n, ¬ S n → g'.lv n = g.lv n
/-- c is a page still, with its bounds -/
def Still (f' : Int → Option Pg) (g g' : Gh) (c : Int) : Prop := (∃ q, f' c = some q) ∧ g'.lo c = g.lo c ∧ g'.hi c = g.hi c ∧ g'.lv c = g.lv c
section
variable {f f' : Int → Option Pg} {root root' last last' : Int} {g g' : Gh} {S : Int → Prop}
theorem TreeOk.upd (T : TreeOk f root last g) (O : Out f f' g g' S) (hl : last ≤ last') (hr : root' = root ∨ S root)
    (rt : ∃ p, f' root' = some p) (rlo : g'.lo root' = -1) (rhi : g'.hi root' = 100)
    (inS : ∀ n p, S n → f' n = some p → PageOk f' g' root' n p ∧ n ≤ last')
    (kid : ∀ c n p, S c → f n = some p → c ∈ p.kids → ¬ S n → Still f' g g' c)
    (nx : ∀ m n p, S m → f n = some p → g.lv n = 0 → p.nxt = some m → ¬ S n → (∃ q, f' m = some q) ∧ g'.lv m = 0 ∧ g'.lo m = g.lo m)
    (dis : ∀ x y p q, S x → f' x = some p → f' y = some q → x ≠ y → g'.lv x = g'.lv y → g'.hi x ≤ g'.lo y ∨ g'.hi y ≤ g'.lo x)
    (top : ∀ n p, f' n = some p → n = root' ∨ g'.lv n < g'.lv root') : TreeOk f' root' last' g' := by
  refine ⟨rt, rlo, rhi, fun n p hp => ?_, fun n p hp => ?_, fun x y p q hx hy ne e => ?_, top⟩
  · by_cases hS : S n
    · exact (inS n p hS hp).1
    · have hp0 : f n = some p := by rw [← O.pg n hS]; exact hp
      have P := T.page n p hp0
      have kk : ∀ v c l h, c ∈ p.kids → Kid f g v c l h → Kid f' g' v c l h := fun v c l h hc k => by
        by_cases hc' : S c
        · obtain ⟨q1, q2, q3, q4⟩ := kid c n p hc' hp0 hc hS
          obtain ⟨_, k2, k3, k4, k5⟩ := k
          exact ⟨q1, by omega, by omega, by omega, k5⟩
        · obtain ⟨⟨q, k1⟩, k2, k3, k4, k5⟩ := k
          have a := O.lo c hc'
          have b := O.hi c hc'
          have d := O.lv c hc'
          exact ⟨⟨q, by rw [O.pg c hc']; exact k1⟩, by omega, by omega, by omega, k5⟩
      have a := O.lo n hS
      have b := O.hi n hS
      have d := O.lv n hS
      refine ⟨P.pos, by rw [a, b]; exact P.ne, by rw [a]; exact P.low, by rw [b]; exact P.high, P.most, fun hn => P.full1 fun z => ?_, ?_⟩
      · rcases hr with h | h
        · exact hn (by rw [h, z])
        · exact hS (by rw [z]; exact h)
      · rcases P.body with ⟨h1, h2, h3, h4⟩ | ⟨v, h1, h2, h3, h4⟩
        · refine .inl ⟨by omega, h2, by rw [a, b]; exact h3, ?_⟩
          rw [b]
          cases e : p.nxt with
          | none => rw [e] at h4; exact h4
          | some m =>
            rw [e] at h4
            obtain ⟨⟨q, m1⟩, m2, m3⟩ := h4
            by_cases hm : S m
            · obtain ⟨q1, q2, q3⟩ := nx m n p hm hp0 h1 e hS
              exact ⟨q1, q2, by omega⟩
            · have a' := O.lo m hm
              have d' := O.lv m hm
              exact ⟨⟨q, by rw [O.pg m hm]; exact m1⟩, by omega, by omega⟩
        · refine .inr ⟨v, by omega, h2, h3, ?_⟩
          rw [a, b]
          exact h4.mono fun c l h hc k => kk v c l h hc k
  · by_cases hS : S n
    · exact (inS n p hS hp).2
    · exact Int.le_trans (T.last n p (by rw [← O.pg n hS]; exact hp)) hl
  · by_cases hx' : S x
    · exact dis x y p q hx' hx hy ne e
    · by_cases hy' : S y
      · exact (dis y x q p hy' hy hx (Ne.symm ne) e.symm).symm
      · have := T.dis x y p q (by rw [← O.pg x hx']; exact hx) (by rw [← O.pg y hy']; exact hy) ne (by rw [← O.lv x hx', ← O.lv y hy']; exact e)
        rw [O.hi x hx', O.lo y hy', O.hi y hy', O.lo x hx']
        exact this
end
/-! the parent's chain -/
section
variable {K K' : Int → Int → Int → Prop}
theorem idx_ne {c n : Int} {cs : List Int} (h : c ≠ n) : (c :: cs).idxOf n = cs.idxOf n + 1 := by
  rw [List.idxOf_cons]
  have : (c == n) = false := by simpa using h
  rw [this]
  rfl
theorem idx_lt {cs : List Int} {n : Int} (h : n ∈ cs) : cs.idxOf n < cs.length := List.idxOf_lt_length_iff.mpr h
/-- one more kid behind n -/
theorem Chain.beside (hK : ∀ c l h, K c l h → l < h) (det : ∀ c l h l' h', K c l h → K c l' h' → l = l' ∧ h = h') {n key new : Int} :
    ∀ {r cs : List Int} {lo hi : Int}, Chain K lo r cs hi → n ∈ cs → ∃ l h, K n l h ∧ (K' n l key → K' new key h → (∀ c l h, c ∈ cs → c ≠ n → K c l h → K' c l h) →
      Chain K' lo (r.take (cs.idxOf n) ++ key :: r.drop (cs.idxOf n)) (cs.take (cs.idxOf n + 1) ++ new :: cs.drop (cs.idxOf n + 1)) hi)
  | [], [c], lo, hi, h, hm => by
    have e : n = c := by simpa using hm
    subst e
    refine ⟨lo, hi, h, fun h1 h2 _ => ?_⟩
    simp only [List.idxOf_cons_self, List.take_zero, List.drop_zero, List.nil_append, Nat.zero_add, List.take_succ_cons, List.drop_succ_cons, List.drop_nil, List.cons_append]
    exact ⟨h1, h2⟩
  | k :: r, c :: cs, lo, hi, h, hm => by
    obtain ⟨hc, ht⟩ := h
    by_cases e : n = c
    · subst e
      refine ⟨lo, k, hc, fun h1 h2 h3 => ?_⟩
      simp only [List.idxOf_cons_self, List.take_zero, List.drop_zero, List.nil_append, Nat.zero_add, List.take_succ_cons, List.drop_succ_cons, List.cons_append]
      refine ⟨h1, h2, ht.mono fun d l h' hd kd => h3 d l h' (by simp [hd]) (fun z => ?_) kd⟩
      subst z
      obtain ⟨l2, h2', k2, b1, b2⟩ := ht.mem hK hd
      have d1 := (det _ _ _ _ _ hc k2).1
      have := hK _ _ _ hc
      omega
    · have hm' : n ∈ cs := by
        rcases List.mem_cons.mp hm with z | z
        · exact absurd z e
        · exact z
      obtain ⟨l, h, q1, q2⟩ := Chain.beside hK det (n := n) (key := key) (new := new) ht hm'
      refine ⟨l, h, q1, fun h1 h2 h3 => ?_⟩
      have i1 : (c :: cs).idxOf n = cs.idxOf n + 1 := by rw [idx_ne (Ne.symm e)]
      rw [i1]
      simp only [List.take_succ_cons, List.drop_succ_cons, List.cons_append]
      exact ⟨h3 c _ _ (by simp) (Ne.symm e) hc, q2 h1 h2 fun d l h hd => h3 d l h (by simp [hd])⟩
  | [], [], _, _, h, _ => h.elim
  | [], _ :: _ :: _, _, _, h, _ => h.elim
  | _ :: _, [], _, _, h, _ => h.elim
/-- two neighbours' parting key changed -/
theorem Chain.parting (hK : ∀ c l h, K c l h → l < h) (det : ∀ c l h l' h', K c l h → K c l' h' → l = l' ∧ h = h') {a b key : Int} :
    ∀ {r cs : List Int} {lo hi : Int}, Chain K lo r cs hi → a ∈ cs → b ∈ cs → cs.idxOf a + 1 = cs.idxOf b → ∃ l m h, K a l m ∧ K b m h ∧ r[cs.idxOf a]? = some m ∧ (K' a l key → K' b key h → (∀ c l h, c ∈ cs → c ≠ a → c ≠ b → K c l h → K' c l h) →
      Chain K' lo (r.set (cs.idxOf a) key) cs hi)
  | [], [c], lo, hi, h, ha, hb, hi' => by
    have e : a = c := by simpa using ha
    have e2 : b = c := by simpa using hb
    subst e
    subst e2
    omega
  | k :: r, c :: cs, lo, hi, h, ha, hb, hi' => by
    obtain ⟨hc, ht⟩ := h
    by_cases e : a = c
    · subst e
      have hab : b ≠ a := fun z => by rw [z] at hi'; omega
      have hb' : b ∈ cs := by
        rcases List.mem_cons.mp hb with z | z
        · exact absurd z hab
        · exact z
      rw [List.idxOf_cons_self, idx_ne (Ne.symm hab)] at hi'
      match r, cs, ht, hb', hi' with
      | [], [d], ht, hb', _ =>
        have e2 : b = d := by simpa using hb'
        subst e2
        refine ⟨lo, k, hi, hc, ht, by simp, fun h1 h2 _ => ?_⟩
        simp only [List.idxOf_cons_self, List.set_cons_zero]
        exact ⟨h1, h2⟩
      | k2 :: r, d :: cs, ht, hb', hi' =>
        have e2 : b = d := by
          by_cases z : b = d
          · exact z
          · rw [idx_ne (Ne.symm z)] at hi'; omega
        subst e2
        refine ⟨lo, k, k2, hc, ht.1, by simp, fun h1 h2 h3 => ?_⟩
        simp only [List.idxOf_cons_self, List.set_cons_zero]
        refine ⟨h1, h2, ht.2.mono fun x l h' hx kx => h3 x l h' (by simp [hx]) (fun z => ?_) (fun z => ?_) kx⟩
        · subst z
          obtain ⟨l2, h2', q2, b1, b2⟩ := ht.2.mem hK hx
          have := (det _ _ _ _ _ hc q2).1
          have := hK _ _ _ hc
          have := hK _ _ _ ht.1
          omega
        · subst z
          obtain ⟨l2, h2', q2, b1, b2⟩ := ht.2.mem hK hx
          have := (det _ _ _ _ _ ht.1 q2).1
          have := hK _ _ _ ht.1
          omega
      | [], [], ht, _, _ => exact ht.elim
      | [], _ :: _ :: _, ht, _, _ => exact ht.elim
      | _ :: _, [], ht, _, _ => exact ht.elim
    · have ha' : a ∈ cs := by
        rcases List.mem_cons.mp ha with z | z
        · exact absurd z e
        · exact z
      have eb : b ≠ c := fun z => by
        rw [z, List.idxOf_cons_self] at hi'
        omega
      have hb' : b ∈ cs := by
        rcases List.mem_cons.mp hb with z | z
        · exact absurd z eb
        · exact z
      rw [idx_ne (Ne.symm e), idx_ne (Ne.symm eb)] at hi'
      obtain ⟨l, m, h, q1, q2, q3, q4⟩ := Chain.parting hK det (a := a) (b := b) (key := key) ht ha' hb' (by omega)
      have i1 : (c :: cs).idxOf a = cs.idxOf a + 1 := by rw [idx_ne (Ne.symm e)]
      refine ⟨l, m, h, q1, q2, by rw [i1]; simpa using q3, fun h1 h2 h3 => ?_⟩
      rw [i1]
      simp only [List.set_cons_succ]
      exact ⟨h3 c _ _ (by simp) (Ne.symm e) (Ne.symm eb) hc, q4 h1 h2 fun d l h hd => h3 d l h (by simp [hd])⟩
  | [], [], _, _, h, _, _, _ => h.elim
  | [], _ :: _ :: _, _, _, h, _, _, _ => h.elim
  | _ :: _, [], _, _, h, _, _, _ => h.elim
/-- two neighbours joined -/
theorem Chain.joined (hK : ∀ c l h, K c l h → l < h) (det : ∀ c l h l' h', K c l h → K c l' h' → l = l' ∧ h = h') {a b : Int} :
    ∀ {r cs : List Int} {lo hi : Int}, Chain K lo r cs hi → a ∈ cs → b ∈ cs → cs.idxOf a + 1 = cs.idxOf b → ∃ l m h, K a l m ∧ K b m h ∧ r[cs.idxOf a]? = some m ∧ (K' a l h → (∀ c l h, c ∈ cs → c ≠ a → c ≠ b → K c l h → K' c l h) →
      Chain K' lo (r.eraseIdx (cs.idxOf a)) (cs.eraseIdx (cs.idxOf a + 1)) hi)
  | [], [c], lo, hi, h, ha, hb, hi' => by
    have e : a = c := by simpa using ha
    have e2 : b = c := by simpa using hb
    subst e
    subst e2
    omega
  | k :: r, c :: cs, lo, hi, h, ha, hb, hi' => by
    obtain ⟨hc, ht⟩ := h
    by_cases e : a = c
    · subst e
      have hab : b ≠ a := fun z => by rw [z] at hi'; omega
      have hb' : b ∈ cs := by
        rcases List.mem_cons.mp hb with z | z
        · exact absurd z hab
        · exact z
      rw [List.idxOf_cons_self, idx_ne (Ne.symm hab)] at hi'
      match r, cs, ht, hb', hi' with
      | [], [d], ht, hb', _ =>
        have e2 : b = d := by simpa using hb'
        subst e2
        refine ⟨lo, k, hi, hc, ht, by simp, fun h1 _ => ?_⟩
        simp only [List.idxOf_cons_self, List.eraseIdx_cons_zero, Nat.zero_add, List.eraseIdx_cons_succ]
        exact h1
      | k2 :: r, d :: cs, ht, hb', hi' =>
        have e2 : b = d := by
          by_cases z : b = d
          · exact z
          · rw [idx_ne (Ne.symm z)] at hi'; omega
        subst e2
        refine ⟨lo, k, k2, hc, ht.1, by simp, fun h1 h3 => ?_⟩
        simp only [List.idxOf_cons_self, List.eraseIdx_cons_zero, Nat.zero_add, List.eraseIdx_cons_succ]
        refine ⟨h1, ht.2.mono fun x l h' hx kx => h3 x l h' (by simp [hx]) (fun z => ?_) (fun z => ?_) kx⟩
        · subst z
          obtain ⟨l2, h2', q2, b1, b2⟩ := ht.2.mem hK hx
          have := (det _ _ _ _ _ hc q2).1
          have := hK _ _ _ hc
          have := hK _ _ _ ht.1
          omega
        · subst z
          obtain ⟨l2, h2', q2, b1, b2⟩ := ht.2.mem hK hx
          have := (det _ _ _ _ _ ht.1 q2).1
          have := hK _ _ _ ht.1
          omega
      | [], [], ht, _, _ => exact ht.elim
      | [], _ :: _ :: _, ht, _, _ => exact ht.elim
      | _ :: _, [], ht, _, _ => exact ht.elim
    · have ha' : a ∈ cs := by
        rcases List.mem_cons.mp ha with z | z
        · exact absurd z e
        · exact z
      have eb : b ≠ c := fun z => by
        rw [z, List.idxOf_cons_self] at hi'
        omega
      have hb' : b ∈ cs := by
        rcases List.mem_cons.mp hb with z | z
        · exact absurd z eb
        · exact z
      rw [idx_ne (Ne.symm e), idx_ne (Ne.symm eb)] at hi'
      obtain ⟨l, m, h, q1, q2, q3, q4⟩ := Chain.joined hK det (a := a) (b := b) ht ha' hb' (by omega)
      have i1 : (c :: cs).idxOf a = cs.idxOf a + 1 := by rw [idx_ne (Ne.symm e)]
      refine ⟨l, m, h, q1, q2, by rw [i1]; simpa using q3, fun h1 h3 => ?_⟩
      rw [i1]
      simp only [List.eraseIdx_cons_succ]
      exact ⟨h3 c _ _ (by simp) (Ne.symm e) (Ne.symm eb) hc, q4 h1 fun d l h hd => h3 d l h (by simp [hd])⟩
  | [], [], _, _, h, _, _, _ => h.elim
  | [], _ :: _ :: _, _, _, h, _, _, _ => h.elim
  | _ :: _, [], _, _, h, _, _, _ => h.elim
end
theorem Kid.det {f : Int → Option Pg} {g : Gh} {v : Nat} (c l h l' h' : Int) (a : Kid f g v c l h) (b : Kid f g v c l' h') : l = l' ∧ h = h' := by
  obtain ⟨_, _, a1, a2, _⟩ := a
  obtain ⟨_, _, b1, b2, _⟩ := b
  exact ⟨by omega, by omega⟩

/-! ### the forest's changes keep the tree -/
abbrev FoOk (F : Fo) (g : Gh) : Prop := TreeOk F.pages F.root F.last g
/-- the keys of all leaves -/
def Has (F : Fo) (k : Int) : Prop := ∃ n p, F.pages n = some p ∧ p.kids = [] ∧ k ∈ p.row
section
variable {f f' : Int → Option Pg} {g g' : Gh} {S : Int → Prop}
theorem Kid.out (O : Out f f' g g' S) {v : Nat} {c l h : Int} (k : Kid f g v c l h) (hc : ¬ S c) : Kid f' g' v c l h := by
  obtain ⟨⟨q, k1⟩, k2, k3, k4, k5⟩ := k
  have a := O.lo c hc
  have b := O.hi c hc
  have d := O.lv c hc
  exact ⟨⟨q, by rw [O.pg c hc]; exact k1⟩, by omega, by omega, by omega, k5⟩
theorem NextOk.out (O : Out f f' g g' S) {h : Int} {o : Option Int} (k : NextOk f g h o) (hc : ∀ m, o = some m → ¬ S m) : NextOk f' g' h o := by
  cases o with
  | none => exact k
  | some m =>
    have hm := hc m rfl
    obtain ⟨⟨q, k1⟩, k2, k3⟩ := k
    have a := O.lo m hm
    have d := O.lv m hm
    exact ⟨⟨q, by rw [O.pg m hm]; exact k1⟩, by omega, by omega⟩
end
/-- a full page, told by its parts -/
theorem halves {f : Int → Option Pg} {g : Gh} {root n : Int} {p : Pg} (P : PageOk f g root n p) (h3 : p.row.length = 3) : ∃ a b c, p.row = [a, b, c] ∧ g.lo n < b ∧ b < g.hi n ∧
    ((p.kids = [] ∧ g.lv n = 0 ∧ g.lo n ≤ a ∧ a < b ∧ b < c ∧ c < g.hi n ∧ NextOk f g (g.hi n) p.nxt) ∨
      ∃ v k0 k1 k2 k3, p.kids = [k0, k1, k2, k3] ∧ g.lv n = v + 1 ∧ p.nxt = none ∧ Kid f g v k0 (g.lo n) a ∧ Kid f g v k1 a b ∧ Kid f g v k2 b c ∧ Kid f g v k3 c (g.hi n)) := by
  obtain ⟨row, kids, nxt⟩ := p
  match row, h3 with
  | [a, b, c], _ =>
    refine ⟨a, b, c, rfl, ?_⟩
    rcases P.body with ⟨h0, h1, ⟨h2, h3⟩, h4⟩ | ⟨v, h0, h1, h2, h3⟩
    · have ha := h3 a (by simp)
      have hb := h3 b (by simp)
      have hc := h3 c (by simp)
      simp only [List.pairwise_cons, List.mem_cons, List.not_mem_nil] at h2
      have hab := h2.1 b (by simp)
      have hbc := h2.2.1 c (by simp)
      exact ⟨by omega, by omega, .inl ⟨h1, h0, by omega, hab, hbc, by omega, h4⟩⟩
    · have hl := h3.len
      match kids, hl with
      | [k0, k1, k2, k3], _ =>
        obtain ⟨c0, c1, c2, c3⟩ := h3
        have l0 := Kid.lt _ _ _ c0
        have l1 := Kid.lt _ _ _ c1
        have l2 := Kid.lt _ _ _ c2
        have l3 := Kid.lt _ _ _ c3
        exact ⟨by omega, by omega, .inr ⟨v, k0, k1, k2, k3, rfl, h0, h2, c0, c1, c2, c3⟩⟩
/-- a leaf's keys changed -/
theorem leafRow_ok {F : Fo} {g : Gh} (T : FoOk F g) {n : Int} {p : Pg} (hp : F.pages n = some p) (hk : p.kids = []) {row : List Int} (h3 : row.length ≤ 3) (h1 : n ≠ F.root → 1 ≤ row.length) (hr : LeafRow (g.lo n) row (g.hi n)) :
    FoOk (F.set n { p with row := row }) g ∧ Out F.pages (F.set n { p with row := row }).pages g g (fun x => x = n) := by
  have O : Out F.pages (F.set n { p with row := row }).pages g g (fun x => x = n) := ⟨fun m hm => setP_ne hm, fun _ _ => rfl, fun _ _ => rfl, fun _ _ => rfl⟩
  have P := T.page n p hp
  have e0 : (F.set n { p with row := row }).pages n = some { p with row := row } := setP_same
  have back : ∀ m q, (F.set n { p with row := row }).pages m = some q → ∃ q', F.pages m = some q' := fun m q hq => by
    by_cases z : m = n
    · rw [z]; exact ⟨p, hp⟩
    · exact ⟨q, by rw [← O.pg m z]; exact hq⟩
  have forth : ∀ m q, F.pages m = some q → ∃ q', (F.set n { p with row := row }).pages m = some q' := fun m q hq => by
    by_cases z : m = n
    · rw [z]; exact ⟨_, e0⟩
    · exact ⟨q, by rw [O.pg m z]; exact hq⟩
  refine ⟨?_, O⟩
  have hlv := P.leaf_iff.mp hk
  obtain ⟨_, _, hx⟩ := P.leaf hlv
  refine T.upd O (Int.le_refl _) (.inl rfl) ?_ T.rlo T.rhi (fun m q hm hq => ?_) (fun c m q hc hm hcm hs => ?_) (fun m x q hm hx0 hv hn hs => ?_) (fun x y q q' hx0 hx hy ne e => ?_) (fun m q hq => ?_)
  · obtain ⟨q, hq⟩ := T.rt
    exact forth _ _ hq
  · subst hm
    rw [e0] at hq
    cases hq
    refine ⟨⟨P.pos, P.ne, P.low, P.high, h3, h1, .inl ⟨hlv, hk, hr, ?_⟩⟩, T.last _ _ hp⟩
    refine NextOk.out O hx fun m hm z => ?_
    rw [hm] at hx
    obtain ⟨_, _, h⟩ := hx
    have := P.ne
    rw [z] at h
    omega
  · subst hc
    exact ⟨⟨_, e0⟩, rfl, rfl, rfl⟩
  · subst hm
    exact ⟨⟨_, e0⟩, hlv, rfl⟩
  · obtain ⟨a, ha⟩ := back _ _ hx
    obtain ⟨b, hb⟩ := back _ _ hy
    exact T.dis x y a b ha hb ne e
  · obtain ⟨a, ha⟩ := back _ _ hq
    exact T.top m a ha

/-! ### a split keeps the tree -/
/-- what a split does to the ghosts -/
def splitG (F : Fo) (g : Gh) (above n : Int) (b : Int) : Gh :=
  let g1 := (g.put n (g.lo n) b (g.lv n)).put (F.last + 1) b (g.hi n) (g.lv n)
  if above = 0 then g1.put (F.last + 2) (-1) 100 (g.lv n + 1) else g1
def splitS (F : Fo) (above n : Int) (x : Int) : Prop := x = n ∨ x = F.last + 1 ∨ (above = 0 ∧ x = F.last + 2) ∨ (above ≠ 0 ∧ x = above)
theorem halfL_leaf {p : Pg} {a b c new : Int} (hr : p.row = [a, b, c]) (hk : p.kids = []) : halfL p new = ⟨[a], [], some new⟩ := by unfold halfL; rw [if_pos hk, hr]; rfl
theorem halfR_leaf {p : Pg} {a b c : Int} (hr : p.row = [a, b, c]) (hk : p.kids = []) : halfR p = ⟨[b, c], [], p.nxt⟩ := by unfold halfR; rw [if_pos hk, hr]; rfl
theorem halfL_inner {p : Pg} {a b c new k0 k1 k2 k3 : Int} (hr : p.row = [a, b, c]) (hk : p.kids = [k0, k1, k2, k3]) : halfL p new = ⟨[a], [k0, k1], p.nxt⟩ := by unfold halfL; rw [if_neg (by rw [hk]; simp), hr, hk]; rfl
theorem halfR_inner {p : Pg} {a b c k0 k1 k2 k3 : Int} (hr : p.row = [a, b, c]) (hk : p.kids = [k0, k1, k2, k3]) : halfR p = ⟨[c], [k2, k3], none⟩ := by unfold halfR; rw [if_neg (by rw [hk]; simp), hr, hk]; rfl
structure SplitOk (F : Fo) (g : Gh) (above n : Int) (b : Int) : Prop where
  ok : FoOk (F.split above n) (splitG F g above n b)
  out : Out F.pages (F.split above n).pages g (splitG F g above n b) (splitS F above n)
  has : ∀ k, Has (F.split above n) k ↔ Has F k
/-- the two halves are pages again -/
theorem halves_ok {F : Fo} {g : Gh} (T : FoOk F g) (h0 : 0 ≤ F.last) {n : Int} {p : Pg} (hp : F.pages n = some p) (h3 : p.row.length = 3) {f' : Int → Option Pg} {g' : Gh} {root' b : Int} {S : Int → Prop} (hb : p.row.getD 1 0 = b)
    (O : Out F.pages f' g g' S) (hS : ∀ x, S x → x = n ∨ F.last < x ∨ g.lv x = g.lv n + 1) (e1 : f' n = some (halfL p (F.last + 1))) (e2 : f' (F.last + 1) = some (halfR p))
    (l1 : g'.lo n = g.lo n) (l2 : g'.hi n = b) (l3 : g'.lv n = g.lv n) (l4 : g'.lo (F.last + 1) = b) (l5 : g'.hi (F.last + 1) = g.hi n) (l6 : g'.lv (F.last + 1) = g.lv n) :
    g.lo n < b ∧ b < g.hi n ∧ PageOk f' g' root' n (halfL p (F.last + 1)) ∧ PageOk f' g' root' (F.last + 1) (halfR p) ∧
    (∀ k, (p.kids = [] → (k ∈ p.row ↔ k ∈ (halfL p (F.last + 1)).row ∨ k ∈ (halfR p).row)) ∧ (p.kids = [] ↔ (halfL p (F.last + 1)).kids = []) ∧ (p.kids = [] ↔ (halfR p).kids = [])) := by
  have P := T.page n p hp
  obtain ⟨a, b', c, hr, q1, q2, q3⟩ := halves P h3
  have : b' = b := by rw [← hb, hr]; rfl
  subst this
  refine ⟨q1, q2, ?_⟩
  have old : ∀ x q, F.pages x = some q → g.lv x ≤ g.lv n → x ≠ n → ¬ S x := fun x q hx hl hn hs => by
    rcases hS x hs with h | h | h
    · exact hn h
    · have := T.last x q hx; omega
    · omega
  rcases q3 with ⟨hk, hv, a1, a2, a3, a4, hx⟩ | ⟨v, k0, k1, k2, k3, hk, hv, hx, c0, c1, c2, c3⟩
  · rw [halfL_leaf hr hk] at e1 ⊢
    rw [halfR_leaf hr hk] at e2 ⊢
    refine ⟨⟨P.pos, by omega, by rw [l1]; exact P.low, by have := P.high; omega, by show 1 ≤ 3; omega, fun _ => Nat.le_refl _, .inl ⟨by omega, rfl, ⟨by simp, fun k hk => ?_⟩, ⟨⟨_, e2⟩, by omega, by omega⟩⟩⟩,
      ⟨by omega, by omega, by have := P.low; omega, by rw [l5]; exact P.high, by show 2 ≤ 3; omega, fun _ => by show 1 ≤ 2; omega, .inl ⟨by omega, rfl, ⟨by simp; omega, fun k hk => ?_⟩, ?_⟩⟩, fun k => ⟨fun _ => ?_, by rw [hk], by rw [hk]⟩⟩
    · have : k = a := by simpa using hk
      omega
    · have : k = b' ∨ k = c := by simpa using hk
      omega
    · rw [l5]
      refine hx.out O fun m hm => ?_
      rw [hm] at hx
      obtain ⟨⟨q, h1⟩, h2, h3⟩ := hx
      exact old m q h1 (by omega) fun z => by rw [z] at h3; have := P.ne; omega
    · rw [hr]; simp
  · rw [halfL_inner hr hk] at e1 ⊢
    rw [halfR_inner hr hk] at e2 ⊢
    have kd : ∀ {k l h}, Kid F.pages g v k l h → Kid f' g' v k l h := fun {k l h} z => by
      have z' := z
      obtain ⟨⟨q, z1⟩, z2, _⟩ := z'
      exact z.out O (old k q z1 (by omega) fun e => by rw [e] at z2; omega)
    refine ⟨⟨P.pos, by omega, by rw [l1]; exact P.low, by have := P.high; omega, by show 1 ≤ 3; omega, fun _ => Nat.le_refl _, .inr ⟨v, by omega, Nat.le_refl _, hx, by rw [l1, l2]; exact ⟨kd c0, kd c1⟩⟩⟩,
      ⟨by omega, by omega, by have := P.low; omega, by rw [l5]; exact P.high, by show 1 ≤ 3; omega, fun _ => Nat.le_refl _, .inr ⟨v, by omega, Nat.le_refl _, rfl, by rw [l4, l5]; exact ⟨kd c2, kd c3⟩⟩⟩, fun k => ⟨fun z => by rw [hk] at z; simp at z, by rw [hk]; simp, by rw [hk]; simp⟩⟩
theorem split_gate {F : Fo} {g : Gh} (T : FoOk F g) (h0 : 0 ≤ F.last) {p : Pg} (hp : F.pages F.root = some p) (h3 : p.row.length = 3) : SplitOk F g 0 F.root (p.row.getD 1 0) := by
  have hrl := T.last _ _ hp
  have hpg : F.pg F.root = p := Fo.pg_some hp
  generalize hb : p.row.getD 1 0 = b
  have eF : F.split 0 F.root = { pages := setP (setP (setP F.pages (F.last + 1) (halfR p)) F.root (halfL p (F.last + 1))) (F.last + 2) ⟨[b], [F.root, F.last + 1], none⟩, last := F.last + 2, root := F.last + 2 } := by
    unfold Fo.split
    simp only [hpg, hb, if_pos]
    unfold Fo.add Fo.set
    simp only [Fo.mk.injEq]
    have : F.last + 1 + 1 = F.last + 2 := by omega
    rw [this]
    exact ⟨rfl, rfl, trivial⟩
  have n1 : F.root ≠ F.last + 1 := by omega
  have n2 : F.root ≠ F.last + 2 := by omega
  have n3 : F.last + 1 ≠ F.last + 2 := by omega
  have e1 : (F.split 0 F.root).pages F.root = some (halfL p (F.last + 1)) := by rw [eF]; show setP _ _ _ _ = _; rw [setP_ne n2, setP_same]
  have e2 : (F.split 0 F.root).pages (F.last + 1) = some (halfR p) := by rw [eF]; show setP _ _ _ _ = _; rw [setP_ne n3, setP_ne (Ne.symm n1), setP_same]
  have e3 : (F.split 0 F.root).pages (F.last + 2) = some ⟨[b], [F.root, F.last + 1], none⟩ := by rw [eF]; exact setP_same
  have l1 : (splitG F g 0 F.root b).lo F.root = g.lo F.root := by simp [splitG, Gh.put, n1, n2]
  have l2 : (splitG F g 0 F.root b).hi F.root = b := by simp [splitG, Gh.put, n1, n2]
  have l3 : (splitG F g 0 F.root b).lv F.root = g.lv F.root := by simp [splitG, Gh.put, n1, n2]
  have l4 : (splitG F g 0 F.root b).lo (F.last + 1) = b := by simp [splitG, Gh.put, n3]
  have l5 : (splitG F g 0 F.root b).hi (F.last + 1) = g.hi F.root := by simp [splitG, Gh.put, n3]
  have l6 : (splitG F g 0 F.root b).lv (F.last + 1) = g.lv F.root := by simp [splitG, Gh.put, n3]
  have l7 : (splitG F g 0 F.root b).lo (F.last + 2) = -1 := by simp [splitG, Gh.put]
  have l8 : (splitG F g 0 F.root b).hi (F.last + 2) = 100 := by simp [splitG, Gh.put]
  have l9 : (splitG F g 0 F.root b).lv (F.last + 2) = g.lv F.root + 1 := by simp [splitG, Gh.put]
  have O : Out F.pages (F.split 0 F.root).pages g (splitG F g 0 F.root b) (splitS F 0 F.root) := by
    refine ⟨fun x hx => ?_, fun x hx => ?_, fun x hx => ?_, fun x hx => ?_⟩ <;> unfold splitS at hx <;> simp only [not_or, true_and, ne_eq, not_true_eq_false, false_and, not_false_eq_true, and_true] at hx
    · rw [eF]; show setP _ _ _ _ = _; rw [setP_ne hx.2.2, setP_ne hx.1, setP_ne hx.2.1]
    · simp [splitG, Gh.put, hx.1, hx.2.1, hx.2.2]
    · simp [splitG, Gh.put, hx.1, hx.2.1, hx.2.2]
    · simp [splitG, Gh.put, hx.1, hx.2.1, hx.2.2]
  generalize hg : splitG F g 0 F.root b = g' at *
  have hroot : (F.split 0 F.root).root = F.last + 2 := by rw [eF]
  have hlast : (F.split 0 F.root).last = F.last + 2 := by rw [eF]
  obtain ⟨q1, q2, P1, P2, hh⟩ := halves_ok (root' := (F.split 0 F.root).root) T h0 hp h3 hb O (fun x hx => by
    rcases hx with h | h | h | h
    · exact .inl h
    · exact .inr (.inl (by omega))
    · exact .inr (.inl (by omega))
    · exact absurd rfl h.1) e1 e2 l1 l2 l3 l4 l5 l6
  have hlo := T.rlo
  have hhi := T.rhi
  have P := T.page _ _ hp
  have cs : ∀ x q, (F.split 0 F.root).pages x = some q → x = F.root ∨ x = F.last + 1 ∨ x = F.last + 2 ∨ (F.pages x = some q ∧ x ≠ F.root ∧ x ≤ F.last ∧ g'.lo x = g.lo x ∧ g'.hi x = g.hi x ∧ g'.lv x = g.lv x ∧ g.lv x < g.lv F.root) := fun x q hq => by
    by_cases hx : splitS F 0 F.root x
    · rcases hx with h | h | h | h
      · exact .inl h
      · exact .inr (.inl h)
      · exact .inr (.inr (.inl h.2))
      · exact absurd rfl h.1
    · have hx0 : F.pages x = some q := by rw [← O.pg x hx]; exact hq
      have hne : x ≠ F.root := fun z => hx (.inl z)
      exact .inr (.inr (.inr ⟨hx0, hne, T.last _ _ hx0, O.lo x hx, O.hi x hx, O.lv x hx, (T.top _ _ hx0).resolve_left hne⟩))
  refine (fun (z : FoOk (F.split 0 F.root) g' ∧ Out F.pages (F.split 0 F.root).pages g g' (splitS F 0 F.root) ∧ ∀ k, Has (F.split 0 F.root) k ↔ Has F k) => ⟨by rw [hg]; exact z.1, by rw [hg]; exact z.2.1, z.2.2⟩) ⟨?_, O, fun k => ⟨fun ⟨x, q, hx, hk, hm⟩ => ?_, fun ⟨x, q, hx, hk, hm⟩ => ?_⟩⟩
  · refine T.upd O (by rw [hlast]; omega) (.inr (.inl rfl)) (by rw [hroot]; exact ⟨_, e3⟩) (by rw [hroot]; exact l7) (by rw [hroot]; exact l8) (fun x q hx hq => ?_) (fun c x q hc hx hcx hs => ?_) (fun m x q hm hx0 hv hn hs => ?_) (fun x y q q' hx0 hx hy ne e => ?_) (fun x q hq => ?_)
    · rcases hx with h | h | h | h
      · subst h
        rw [e1] at hq
        cases hq
        exact ⟨P1, by rw [hlast]; omega⟩
      · subst h
        rw [e2] at hq
        cases hq
        exact ⟨P2, by rw [hlast]; omega⟩
      · obtain ⟨_, h⟩ := h
        subst h
        rw [e3] at hq
        cases hq
        refine ⟨⟨by omega, by omega, by omega, by omega, by show 1 ≤ 3; omega, fun _ => Nat.le_refl _, .inr ⟨g.lv F.root, by omega, Nat.le_refl _, rfl, ?_⟩⟩, by rw [hlast]; omega⟩
        rw [l7, l8]
        exact ⟨⟨⟨_, e1⟩, by omega, by omega, by omega, by omega⟩, ⟨⟨_, e2⟩, by omega, by omega, by omega, by omega⟩⟩
      · exact absurd rfl h.1
    · rcases hc with h | h | h | h
      · exact absurd h (T.kid_ne_root hx hcx)
      · obtain ⟨_, z, _⟩ := T.kid hx hcx
        have := T.last _ _ z; omega
      · obtain ⟨_, z, _⟩ := T.kid hx hcx
        have := T.last _ _ z; omega
      · exact absurd rfl h.1
    · have hN := ((T.page _ _ hx0).leaf hv).2.2
      rw [hn] at hN
      obtain ⟨⟨z, h1⟩, h2, h3'⟩ := hN
      have := T.last _ _ h1
      rcases hm with h | h | h | h
      · subst h
        exact ⟨⟨_, e1⟩, by omega, by omega⟩
      · omega
      · omega
      · exact absurd rfl h.1
    · rcases cs x q hx with h | h | h | h <;> rcases cs y q' hy with h' | h' | h' | h' <;> first
        | (exfalso; omega)
        | (subst h; subst h'; omega)
        | (subst h; omega)
        | (subst h'; omega)
        | skip
      · have := T.dis x y q q' h.1 h'.1 ne (by omega)
        omega
    · rw [hroot]
      rcases cs x q hq with h | h | h | h
      · subst h; exact .inr (by omega)
      · subst h; exact .inr (by omega)
      · exact .inl h
      · exact .inr (by omega)
  · rcases cs x q hx with h | h | h | h
    · subst h
      rw [e1] at hx
      cases hx
      have hk0 := ((hh k).2.1).mpr hk
      exact ⟨_, p, hp, hk0, (((hh k).1 hk0).mpr (.inl hm))⟩
    · subst h
      rw [e2] at hx
      cases hx
      have hk0 := ((hh k).2.2).mpr hk
      exact ⟨_, p, hp, hk0, (((hh k).1 hk0).mpr (.inr hm))⟩
    · subst h
      rw [e3] at hx
      cases hx
      simp at hk
    · exact ⟨x, q, h.1, hk, hm⟩
  · by_cases hxr : x = F.root
    · subst hxr
      rw [hp] at hx
      cases hx
      rcases ((hh k).1 hk).mp hm with h | h
      · exact ⟨_, _, e1, ((hh k).2.1).mp hk, h⟩
      · exact ⟨_, _, e2, ((hh k).2.2).mp hk, h⟩
    · have hlx := T.last _ _ hx
      refine ⟨x, q, ?_, hk, hm⟩
      rw [O.pg x (fun z => ?_)]
      · exact hx
      · rcases z with h | h | h | h
        · exact hxr h
        · omega
        · omega
        · exact absurd rfl h.1

theorem split_below {F : Fo} {g : Gh} (T : FoOk F g) (h0 : 0 ≤ F.last) {above n : Int} {p u : Pg} (ha : above ≠ 0) (hp : F.pages n = some p) (h3 : p.row.length = 3) (hu : F.pages above = some u) (hm : n ∈ u.kids) (h2 : u.row.length ≤ 2) : SplitOk F g above n (p.row.getD 1 0) := by
  have hnl := T.last _ _ hp
  have hul := T.last _ _ hu
  obtain ⟨_, hn', hlv, hk1, hk2, _⟩ := T.kid hu hm
  have hpg : F.pg n = p := Fo.pg_some hp
  have hpu : F.pg above = u := Fo.pg_some hu
  have hne : above ≠ n := fun z => by rw [z] at hlv; omega
  have hnr := T.kid_ne_root hu hm
  generalize hb : p.row.getD 1 0 = b
  have eF : F.split above n = { pages := setP (setP (setP F.pages (F.last + 1) (halfR p)) n (halfL p (F.last + 1))) above (HH.beside u n b (F.last + 1)), last := F.last + 1, root := F.root } := by
    unfold Fo.split
    simp only [hpg, hb, hpu, if_neg ha]
    rfl
  have n1 : n ≠ F.last + 1 := by omega
  have n2 : above ≠ F.last + 1 := by omega
  have e1 : (F.split above n).pages n = some (halfL p (F.last + 1)) := by rw [eF]; show setP _ _ _ _ = _; rw [setP_ne (Ne.symm hne), setP_same]
  have e2 : (F.split above n).pages (F.last + 1) = some (halfR p) := by rw [eF]; show setP _ _ _ _ = _; rw [setP_ne (Ne.symm n2), setP_ne (Ne.symm n1), setP_same]
  have e3 : (F.split above n).pages above = some (HH.beside u n b (F.last + 1)) := by rw [eF]; exact setP_same
  have l1 : (splitG F g above n b).lo n = g.lo n := by simp [splitG, Gh.put, n1, ha]
  have l2 : (splitG F g above n b).hi n = b := by simp [splitG, Gh.put, n1, ha]
  have l3 : (splitG F g above n b).lv n = g.lv n := by simp [splitG, Gh.put, n1, ha]
  have l4 : (splitG F g above n b).lo (F.last + 1) = b := by simp [splitG, Gh.put, ha]
  have l5 : (splitG F g above n b).hi (F.last + 1) = g.hi n := by simp [splitG, Gh.put, ha]
  have l6 : (splitG F g above n b).lv (F.last + 1) = g.lv n := by simp [splitG, Gh.put, ha]
  have l7 : (splitG F g above n b).lo above = g.lo above := by simp [splitG, Gh.put, ha, hne, n2]
  have l8 : (splitG F g above n b).hi above = g.hi above := by simp [splitG, Gh.put, ha, hne, n2]
  have l9 : (splitG F g above n b).lv above = g.lv above := by simp [splitG, Gh.put, ha, hne, n2]
  have O : Out F.pages (F.split above n).pages g (splitG F g above n b) (splitS F above n) := by
    refine ⟨fun x hx => ?_, fun x hx => ?_, fun x hx => ?_, fun x hx => ?_⟩ <;> unfold splitS at hx <;> simp only [not_or, ha, false_and, not_false_eq_true, true_and, ne_eq] at hx
    · rw [eF]; show setP _ _ _ _ = _; rw [setP_ne hx.2.2, setP_ne hx.1, setP_ne hx.2.1]
    · simp [splitG, Gh.put, ha, hx.1, hx.2.1]
    · simp [splitG, Gh.put, ha, hx.1, hx.2.1]
    · simp [splitG, Gh.put, ha, hx.1, hx.2.1]
  generalize hg : splitG F g above n b = g' at *
  have hroot : (F.split above n).root = F.root := by rw [eF]
  have hlast : (F.split above n).last = F.last + 1 := by rw [eF]
  have sS : ∀ x, splitS F above n x → x = n ∨ x = F.last + 1 ∨ x = above := fun x hx => by
    rcases hx with h | h | h | h
    · exact .inl h
    · exact .inr (.inl h)
    · exact absurd h.1 ha
    · exact .inr (.inr h.2)
  obtain ⟨q1, q2, P1, P2, hh⟩ := halves_ok (root' := (F.split above n).root) T h0 hp h3 hb O (fun x hx => by
    rcases sS x hx with h | h | h
    · exact .inl h
    · exact .inr (.inl (by omega))
    · exact .inr (.inr (by rw [h]; omega))) e1 e2 l1 l2 l3 l4 l5 l6
  have PU := T.page _ _ hu
  have cs : ∀ x q, (F.split above n).pages x = some q → x = n ∨ x = F.last + 1 ∨ x = above ∨ (F.pages x = some q ∧ x ≠ n ∧ x ≠ above ∧ x ≤ F.last ∧ g'.lo x = g.lo x ∧ g'.hi x = g.hi x ∧ g'.lv x = g.lv x) := fun x q hq => by
    by_cases hx : splitS F above n x
    · rcases sS x hx with h | h | h
      · exact .inl h
      · exact .inr (.inl h)
      · exact .inr (.inr (.inl h))
    · have hx0 : F.pages x = some q := by rw [← O.pg x hx]; exact hq
      exact .inr (.inr (.inr ⟨hx0, fun z => hx (.inl z), fun z => hx (.inr (.inr (.inr ⟨ha, z⟩))), T.last _ _ hx0, O.lo x hx, O.hi x hx, O.lv x hx⟩))
  have hukid : u.kids ≠ [] := fun z => by rw [z] at hm; simp at hm
  have hulv : ∃ v, g.lv above = v + 1 := ⟨g.lv n, hlv.symm⟩
  refine (fun (z : FoOk (F.split above n) g' ∧ Out F.pages (F.split above n).pages g g' (splitS F above n) ∧ ∀ k, Has (F.split above n) k ↔ Has F k) => ⟨by rw [hg]; exact z.1, by rw [hg]; exact z.2.1, z.2.2⟩) ⟨?_, O, fun k => ⟨fun ⟨x, q, hx, hk, hm⟩ => ?_, fun ⟨x, q, hx, hk, hm⟩ => ?_⟩⟩
  · have rt' : (∃ p, (F.split above n).pages F.root = some p) ∧ g'.lo F.root = -1 ∧ g'.hi F.root = 100 ∧ g'.lv F.root = g.lv F.root := by
      obtain ⟨pr, hpr⟩ := T.rt
      have a1 := T.rlo
      have a2 := T.rhi
      have a3 := T.last _ _ hpr
      by_cases z : F.root = above
      · rw [z] at a1 a2 ⊢
        exact ⟨⟨_, e3⟩, by omega, by omega, by omega⟩
      · have hS : ¬ splitS F above n F.root := fun h => by
          rcases sS _ h with h | h | h
          · exact hnr h.symm
          · omega
          · exact z h
        have b1 := O.lo _ hS
        have b2 := O.hi _ hS
        exact ⟨⟨pr, by rw [O.pg _ hS]; exact hpr⟩, by omega, by omega, O.lv _ hS⟩
    refine T.upd O (by rw [hlast]; omega) (.inl hroot) (by rw [hroot]; exact rt'.1) (by rw [hroot]; exact rt'.2.1) (by rw [hroot]; exact rt'.2.2.1) (fun x q hx hq => ?_) (fun c x q hc hx hcx hs => ?_) (fun m x q hm hx0 hv hn hs => ?_) (fun x y q q' hx0 hx hy ne e => ?_) (fun x q hq => ?_)
    · rcases sS x hx with h | h | h
      · subst h
        rw [e1] at hq
        cases hq
        exact ⟨P1, by rw [hlast]; omega⟩
      · subst h
        rw [e2] at hq
        cases hq
        exact ⟨P2, by rw [hlast]; omega⟩
      · subst h
        rw [e3] at hq
        cases hq
        obtain ⟨v, hv⟩ := hulv
        obtain ⟨i1, i2, ch⟩ := PU.inner hv
        obtain ⟨l, h, k1, k2⟩ := ch.beside (K' := Kid (F.split x n).pages g' v) Kid.lt Kid.det (n := n) (key := b) (new := F.last + 1) hm
        obtain ⟨_, k4, k5, k6, k7⟩ := k1
        have ch' := k2 ⟨⟨_, e1⟩, by omega, by omega, by omega, by omega⟩ ⟨⟨_, e2⟩, by omega, by omega, by omega, by omega⟩ (fun c l h hc hcn kc => by
          have kc' := kc
          obtain ⟨⟨qc, c1⟩, c2, _⟩ := kc'
          refine kc.out O fun z => ?_
          have := T.last _ _ c1
          rcases sS c z with w | w | w
          · exact hcn w
          · omega
          · rw [w] at c2; omega)
        refine ⟨⟨PU.pos, by rw [l7, l8]; exact PU.ne, by rw [l7]; exact PU.low, by rw [l8]; exact PU.high, ?_, fun _ => ?_, .inr ⟨v, by omega, ?_, i2, by rw [l7, l8]; exact ch'⟩⟩, by rw [hlast]; omega⟩
        · show (u.row.take _ ++ b :: u.row.drop _).length ≤ 3
          rw [List.length_append, List.length_cons, List.length_take, List.length_drop]
          omega
        · show 1 ≤ (u.row.take _ ++ b :: u.row.drop _).length
          rw [List.length_append, List.length_cons]
          omega
        · show 1 ≤ (u.row.take _ ++ b :: u.row.drop _).length
          rw [List.length_append, List.length_cons]
          omega
    · obtain ⟨_, z, _⟩ := T.kid hx hcx
      have := T.last _ _ z
      rcases sS c hc with h | h | h
      · subst h
        exact absurd (T.parent hx hu hcx hm) fun w => hs (.inr (.inr (.inr ⟨ha, w⟩)))
      · omega
      · subst h
        exact ⟨⟨_, e3⟩, l7, l8, l9⟩
    · have hN := ((T.page _ _ hx0).leaf hv).2.2
      rw [hn] at hN
      obtain ⟨⟨z, h1⟩, h2, h3'⟩ := hN
      have := T.last _ _ h1
      rcases sS m hm with h | h | h
      · subst h
        exact ⟨⟨_, e1⟩, by omega, by omega⟩
      · omega
      · subst h; omega
    · have uu := PU.ne
      rcases cs x q hx with h | h | h | h <;> rcases cs y q' hy with h' | h' | h' | h' <;> first
        | (exfalso; omega)
        | (subst h; subst h'; omega)
        | skip
      · subst h
        have := T.dis x y p q' hp h'.1 (Ne.symm h'.2.1) (by omega)
        omega
      · subst h
        have := T.dis n y p q' hp h'.1 (Ne.symm h'.2.1) (by omega)
        omega
      · subst h
        have := T.dis x y u q' hu h'.1 (Ne.symm h'.2.2.1) (by omega)
        omega
      · subst h'
        have := T.dis x y q p h.1 hp h.2.1 (by omega)
        omega
      · subst h'
        have := T.dis x n q p h.1 hp h.2.1 (by omega)
        omega
      · subst h'
        have := T.dis x y q u h.1 hu h.2.2.1 (by omega)
        omega
      · have := T.dis x y q q' h.1 h'.1 ne (by omega)
        omega
    · rw [hroot]
      have r3 := rt'.2.2.2
      rcases cs x q hq with h | h | h | h
      · subst h
        have := (T.top _ _ hp).resolve_left hnr
        exact .inr (by omega)
      · subst h
        have := (T.top _ _ hp).resolve_left hnr
        exact .inr (by omega)
      · subst h
        rcases T.top _ _ hu with w | w
        · exact .inl w
        · exact .inr (by omega)
      · rcases T.top _ _ h.1 with w | w
        · exact .inl w
        · exact .inr (by omega)
  · rcases cs x q hx with h | h | h | h
    · subst h
      rw [e1] at hx
      cases hx
      have hk0 := ((hh k).2.1).mpr hk
      exact ⟨_, p, hp, hk0, (((hh k).1 hk0).mpr (.inl hm))⟩
    · subst h
      rw [e2] at hx
      cases hx
      have hk0 := ((hh k).2.2).mpr hk
      exact ⟨_, p, hp, hk0, (((hh k).1 hk0).mpr (.inr hm))⟩
    · subst h
      rw [e3] at hx
      cases hx
      simp [HH.beside] at hk
    · exact ⟨x, q, h.1, hk, hm⟩
  · by_cases hxr : x = n
    · subst hxr
      rw [hp] at hx
      cases hx
      rcases ((hh k).1 hk).mp hm with h | h
      · exact ⟨_, _, e1, ((hh k).2.1).mp hk, h⟩
      · exact ⟨_, _, e2, ((hh k).2.2).mp hk, h⟩
    · have hlx := T.last _ _ hx
      refine ⟨x, q, ?_, hk, hm⟩
      rw [O.pg x (fun z => ?_)]
      · exact hx
      · rcases sS x z with h | h | h
        · exact hxr h
        · omega
        · subst h
          rw [hu] at hx
          cases hx
          exact hukid hk

/-! ### a key moved between neighbours -/
def movedG (g : Gh) (a b key : Int) : Gh := (g.put a (g.lo a) key (g.lv a)).put b key (g.hi b) (g.lv b)
def movedS (above a b : Int) (x : Int) : Prop := x = a ∨ x = b ∨ x = above
structure Pair (F : Fo) (g : Gh) (above a b : Int) (u p1 p2 : Pg) (m : Int) : Prop where
  hu : F.pages above = some u
  ha : F.pages a = some p1
  hb : F.pages b = some p2
  ma : a ∈ u.kids
  mb : b ∈ u.kids
  adj : u.kids.idxOf a + 1 = u.kids.idxOf b
  la : g.lv a + 1 = g.lv above
  lb : g.lv b + 1 = g.lv above
  nab : a ≠ b
  nau : a ≠ above
  nbu : b ≠ above
  mid : g.hi a = m
  mid2 : g.lo b = m
  sep : u.row[u.kids.idxOf a]? = some m
  lt1 : g.lo a < m
  lt2 : m < g.hi b
theorem pair_of {F : Fo} {g : Gh} (T : FoOk F g) {above a b : Int} {u : Pg} (hu : F.pages above = some u) (ma : a ∈ u.kids) (mb : b ∈ u.kids) (adj : u.kids.idxOf a + 1 = u.kids.idxOf b) :
    ∃ p1 p2 m, Pair F g above a b u p1 p2 m := by
  obtain ⟨p1, h1, h2, h3, h4, h5⟩ := T.kid hu ma
  obtain ⟨p2, k1, k2, k3, k4, k5⟩ := T.kid hu mb
  obtain ⟨_, _, ch⟩ := (T.page _ _ hu).inner h2.symm
  obtain ⟨l, m, h, c1, c2, c3, _⟩ := ch.parting (K' := fun _ _ _ => True) (key := 0) Kid.lt Kid.det ma mb adj
  obtain ⟨_, a1, a2, a3, a4⟩ := c1
  obtain ⟨_, b1, b2, b3, b4⟩ := c2
  refine ⟨p1, p2, m, hu, h1, k1, ma, mb, adj, h2, k2, fun z => ?_, fun z => ?_, fun z => ?_, a3, b2, c3, by omega, by omega⟩
  · rw [z] at adj; omega
  · rw [z] at h2; omega
  · rw [z] at k2; omega
section
variable {F : Fo} {g : Gh} {above a b m : Int} {u p1 p2 : Pg}
theorem Pair.nxt (T : FoOk F g) (P : Pair F g above a b u p1 p2 m) (h0 : g.lv a = 0) : p1.nxt = some b := by
  have hN := ((T.page _ _ P.ha).leaf h0).2.2
  have h1 := P.lt2
  have h2 := (T.page _ _ P.hb).high
  have h3 := P.mid
  have h4 := P.mid2
  have h5 := P.la
  have h6 := P.lb
  cases e : p1.nxt with
  | none => rw [e] at hN; have : g.hi a = 100 := hN; omega
  | some x =>
    rw [e] at hN
    obtain ⟨⟨q, k1⟩, k2, k3⟩ := hN
    rw [T.same_lo k1 P.hb (by omega) (by omega)]
/-- what both neighbours and the page above may become -/
structure MoveIn (F : Fo) (g : Gh) (above a b key : Int) (u p1 p2 q1 q2 : Pg) : Prop where
  k1 : g.lo a < key
  k2 : key < g.hi b
  ok : ∀ f' g', Out F.pages f' g g' (movedS above a b) → f' a = some q1 → f' b = some q2 → g'.lo a = g.lo a → g'.hi a = key → g'.lv a = g.lv a → g'.lo b = key → g'.hi b = g.hi b → g'.lv b = g.lv b → PageOk f' g' F.root a q1 ∧ PageOk f' g' F.root b q2
  lf : (p1.kids = [] ↔ q1.kids = []) ∧ (p1.kids = [] ↔ q2.kids = []) ∧ (p1.kids = [] ↔ p2.kids = [])
  has : p1.kids = [] → ∀ k, (k ∈ p1.row ∨ k ∈ p2.row ↔ k ∈ q1.row ∨ k ∈ q2.row)
structure MovedOk (F F' : Fo) (g : Gh) (above a b key : Int) : Prop where
  ok : FoOk F' (movedG g a b key)
  out : Out F.pages F'.pages g (movedG g a b key) (movedS above a b)
  has : ∀ k, Has F' k ↔ Has F k
  root : F'.root = F.root
  last : F'.last = F.last
theorem moved_core (T : FoOk F g) (P : Pair F g above a b u p1 p2 m) {key : Int} {q1 q2 : Pg} (I : MoveIn F g above a b key u p1 p2 q1 q2) :
    MovedOk F (((F.set a q1).set b q2).set above { u with row := u.row.set (u.kids.idxOf a) key }) g above a b key := by
  obtain ⟨hu, ha, hb, ma, mb, adj, la, lb, nab, nau, nbu, mid, mid2, sep, lt1, lt2⟩ := P
  generalize hF : (((F.set a q1).set b q2).set above { u with row := u.row.set (u.kids.idxOf a) key }) = F'
  have eF : F'.pages = setP (setP (setP F.pages a q1) b q2) above { u with row := u.row.set (u.kids.idxOf a) key } := by rw [← hF]; rfl
  have hroot : F'.root = F.root := by rw [← hF]; rfl
  have hlast : F'.last = F.last := by rw [← hF]; rfl
  have e1 : F'.pages a = some q1 := by rw [eF, setP_ne nau, setP_ne nab, setP_same]
  have e2 : F'.pages b = some q2 := by rw [eF, setP_ne nbu, setP_same]
  have e3 : F'.pages above = some { u with row := u.row.set (u.kids.idxOf a) key } := by rw [eF, setP_same]
  have l1 : (movedG g a b key).lo a = g.lo a := by simp [movedG, Gh.put, nab]
  have l2 : (movedG g a b key).hi a = key := by simp [movedG, Gh.put, nab]
  have l3 : (movedG g a b key).lv a = g.lv a := by simp [movedG, Gh.put, nab]
  have l4 : (movedG g a b key).lo b = key := by simp [movedG, Gh.put]
  have l5 : (movedG g a b key).hi b = g.hi b := by simp [movedG, Gh.put]
  have l6 : (movedG g a b key).lv b = g.lv b := by simp [movedG, Gh.put]
  have l7 : (movedG g a b key).lo above = g.lo above := by simp [movedG, Gh.put, Ne.symm nau, Ne.symm nbu]
  have l8 : (movedG g a b key).hi above = g.hi above := by simp [movedG, Gh.put, Ne.symm nau, Ne.symm nbu]
  have l9 : (movedG g a b key).lv above = g.lv above := by simp [movedG, Gh.put, Ne.symm nau, Ne.symm nbu]
  have O : Out F.pages F'.pages g (movedG g a b key) (movedS above a b) := by
    refine ⟨fun x hx => ?_, fun x hx => ?_, fun x hx => ?_, fun x hx => ?_⟩ <;> unfold movedS at hx <;> simp only [not_or] at hx
    · rw [eF, setP_ne hx.2.2, setP_ne hx.2.1, setP_ne hx.1]
    · simp [movedG, Gh.put, hx.1, hx.2.1]
    · simp [movedG, Gh.put, hx.1, hx.2.1]
    · simp [movedG, Gh.put, hx.1, hx.2.1]
  generalize hg : movedG g a b key = g' at *
  obtain ⟨Pa, Pb⟩ := I.ok _ _ O e1 e2 l1 l2 l3 l4 l5 l6
  have k1 := I.k1
  have k2 := I.k2
  have PU := T.page _ _ hu
  have PA := T.page _ _ ha
  have PB := T.page _ _ hb
  have hukid : u.kids ≠ [] := fun z => by rw [z] at ma; simp at ma
  have cs : ∀ x q, F'.pages x = some q → x = a ∨ x = b ∨ x = above ∨ (F.pages x = some q ∧ x ≠ a ∧ x ≠ b ∧ x ≠ above ∧ x ≤ F.last ∧ g'.lo x = g.lo x ∧ g'.hi x = g.hi x ∧ g'.lv x = g.lv x) := fun x q hq => by
    by_cases hx : movedS above a b x
    · rcases hx with h | h | h
      · exact .inl h
      · exact .inr (.inl h)
      · exact .inr (.inr (.inl h))
    · have hx0 : F.pages x = some q := by rw [← O.pg x hx]; exact hq
      exact .inr (.inr (.inr ⟨hx0, fun z => hx (.inl z), fun z => hx (.inr (.inl z)), fun z => hx (.inr (.inr z)), T.last _ _ hx0, O.lo x hx, O.hi x hx, O.lv x hx⟩))
  have rt' : (∃ p, F'.pages F.root = some p) ∧ g'.lo F.root = -1 ∧ g'.hi F.root = 100 ∧ g'.lv F.root = g.lv F.root := by
    obtain ⟨pr, hpr⟩ := T.rt
    have a1 := T.rlo
    have a2 := T.rhi
    by_cases z : F.root = above
    · rw [z] at a1 a2 ⊢
      exact ⟨⟨_, e3⟩, by omega, by omega, by omega⟩
    · have hS : ¬ movedS above a b F.root := fun h => by
        rcases h with h | h | h
        · exact T.kid_ne_root hu ma h.symm
        · exact T.kid_ne_root hu mb h.symm
        · exact z h
      have b1 := O.lo _ hS
      have b2 := O.hi _ hS
      exact ⟨⟨pr, by rw [O.pg _ hS]; exact hpr⟩, by omega, by omega, O.lv _ hS⟩
  refine (fun (z : FoOk F' g' ∧ Out F.pages F'.pages g g' (movedS above a b) ∧ ∀ k, Has F' k ↔ Has F k) => ⟨by rw [hg]; exact z.1, by rw [hg]; exact z.2.1, z.2.2, hroot, hlast⟩) ⟨?_, O, fun k => ⟨fun ⟨x, q, hx, hk, hm⟩ => ?_, fun ⟨x, q, hx, hk, hm⟩ => ?_⟩⟩
  · refine T.upd O (by rw [hlast]; omega) (.inl hroot) (by rw [hroot]; exact rt'.1) (by rw [hroot]; exact rt'.2.1) (by rw [hroot]; exact rt'.2.2.1) (fun x q hx hq => ?_) (fun c x q hc hx hcx hs => ?_) (fun y x q hm hx0 hv hn hs => ?_) (fun x y q q' hx0 hx hy ne e => ?_) (fun x q hq => ?_)
    · rw [hroot, hlast]
      rcases hx with h | h | h
      · subst h
        rw [e1] at hq
        cases hq
        exact ⟨Pa, T.last _ _ ha⟩
      · subst h
        rw [e2] at hq
        cases hq
        exact ⟨Pb, T.last _ _ hb⟩
      · subst h
        rw [e3] at hq
        cases hq
        obtain ⟨i1, i2, ch⟩ := PU.inner la.symm
        obtain ⟨l, m', h, c1, c2, _, c4⟩ := ch.parting (K' := Kid F'.pages g' (g.lv a)) (key := key) Kid.lt Kid.det ma mb adj
        obtain ⟨_, a1, a2, a3, a4⟩ := c1
        obtain ⟨_, b1, b2, b3, b4⟩ := c2
        have ch' := c4 ⟨⟨_, e1⟩, by omega, by omega, by omega, by omega⟩ ⟨⟨_, e2⟩, by omega, by omega, by omega, by omega⟩ (fun c l h hc hca hcb kc => by
          have kc' := kc
          obtain ⟨⟨qc, c1⟩, c2, _⟩ := kc'
          refine kc.out O fun z => ?_
          rcases z with w | w | w
          · exact hca w
          · exact hcb w
          · rw [w] at c2; omega)
        exact ⟨⟨PU.pos, by rw [l7, l8]; exact PU.ne, by rw [l7]; exact PU.low, by rw [l8]; exact PU.high, by show (u.row.set _ _).length ≤ 3; rw [List.length_set]; exact PU.most, fun _ => by show 1 ≤ (u.row.set _ _).length; rw [List.length_set]; exact i1,
          .inr ⟨g.lv a, by omega, by show 1 ≤ (u.row.set _ _).length; rw [List.length_set]; exact i1, i2, by rw [l7, l8]; exact ch'⟩⟩, T.last _ _ hu⟩
    · rcases hc with h | h | h
      · subst h
        exact absurd (T.parent hx hu hcx ma) fun w => hs (.inr (.inr w))
      · subst h
        exact absurd (T.parent hx hu hcx mb) fun w => hs (.inr (.inr w))
      · subst h
        exact ⟨⟨_, e3⟩, l7, l8, l9⟩
    · have hN := ((T.page _ _ hx0).leaf hv).2.2
      rw [hn] at hN
      obtain ⟨⟨z, h1⟩, h2, h3'⟩ := hN
      rcases hm with h | h | h
      · subst h
        exact ⟨⟨_, e1⟩, by omega, by omega⟩
      · subst h
        exact absurd (T.same_hi hx0 ha (by omega) (by omega)) fun w => hs (.inl w)
      · subst h; omega
    · have u1 := PU.ne
      have u2 := PA.ne
      have u3 := PB.ne
      rcases cs x q hx with h | h | h | h <;> rcases cs y q' hy with h' | h' | h' | h' <;> first
        | (exfalso; omega)
        | (subst h; subst h'; omega)
        | skip
      · subst h
        have := T.dis x y p1 q' ha h'.1 (Ne.symm h'.2.1) (by omega)
        have := T.dis b y p2 q' hb h'.1 (Ne.symm h'.2.2.1) (by omega)
        have := (T.page _ _ h'.1).ne
        omega
      · subst h
        have := T.dis a y p1 q' ha h'.1 (Ne.symm h'.2.1) (by omega)
        have := T.dis x y p2 q' hb h'.1 (Ne.symm h'.2.2.1) (by omega)
        have := (T.page _ _ h'.1).ne
        omega
      · subst h
        have := T.dis x y u q' hu h'.1 (Ne.symm h'.2.2.2.1) (by omega)
        omega
      · subst h'
        have := T.dis x y q p1 h.1 ha h.2.1 (by omega)
        have := T.dis x b q p2 h.1 hb h.2.2.1 (by omega)
        have := (T.page _ _ h.1).ne
        omega
      · subst h'
        have := T.dis x a q p1 h.1 ha h.2.1 (by omega)
        have := T.dis x y q p2 h.1 hb h.2.2.1 (by omega)
        have := (T.page _ _ h.1).ne
        omega
      · subst h'
        have := T.dis x y q u h.1 hu h.2.2.2.1 (by omega)
        omega
      · have := T.dis x y q q' h.1 h'.1 ne (by omega)
        omega
    · rw [hroot]
      have r3 := rt'.2.2.2
      rcases cs x q hq with h | h | h | h
      · subst h
        have := (T.top _ _ ha).resolve_left (T.kid_ne_root hu ma)
        exact .inr (by omega)
      · subst h
        have := (T.top _ _ hb).resolve_left (T.kid_ne_root hu mb)
        exact .inr (by omega)
      · subst h
        rcases T.top _ _ hu with w | w
        · exact .inl w
        · exact .inr (by omega)
      · rcases T.top _ _ h.1 with w | w
        · exact .inl w
        · exact .inr (by omega)
  · rcases cs x q hx with h | h | h | h
    · subst h
      rw [e1] at hx
      cases hx
      have hk0 := I.lf.1.mpr hk
      rcases (I.has hk0 k).mpr (.inl hm) with w | w
      · exact ⟨_, p1, ha, hk0, w⟩
      · exact ⟨_, p2, hb, I.lf.2.2.mp hk0, w⟩
    · subst h
      rw [e2] at hx
      cases hx
      have hk0 := I.lf.2.1.mpr hk
      rcases (I.has hk0 k).mpr (.inr hm) with w | w
      · exact ⟨_, p1, ha, hk0, w⟩
      · exact ⟨_, p2, hb, I.lf.2.2.mp hk0, w⟩
    · subst h
      rw [e3] at hx
      cases hx
      exact absurd hk hukid
    · exact ⟨x, q, h.1, hk, hm⟩
  · by_cases hxa : x = a
    · subst hxa
      rw [ha] at hx
      cases hx
      rcases (I.has hk k).mp (.inl hm) with w | w
      · exact ⟨_, q1, e1, I.lf.1.mp hk, w⟩
      · exact ⟨_, q2, e2, I.lf.2.1.mp hk, w⟩
    · by_cases hxb : x = b
      · subst hxb
        rw [hb] at hx
        cases hx
        have hk0 := I.lf.2.2.mpr hk
        rcases (I.has hk0 k).mp (.inr hm) with w | w
        · exact ⟨_, q1, e1, I.lf.1.mp hk0, w⟩
        · exact ⟨_, q2, e2, I.lf.2.1.mp hk0, w⟩
      · refine ⟨x, q, ?_, hk, hm⟩
        rw [O.pg x (fun z => ?_)]
        · exact hx
        · rcases z with h | h | h
          · exact hxa h
          · exact hxb h
          · subst h
            rw [hu] at hx
            cases hx
            exact hukid hk
end

/-! ### the four ways to move a key -/
theorem getD_some {l : List Int} {i : Nat} {x d : Int} (h : l[i]? = some x) : l.getD i d = x := by rw [List.getD_eq_getElem?_getD, h]; rfl
theorem last_mem {l : List Int} (h : l ≠ []) : l.getLastD 0 ∈ l := by
  rw [List.getLastD_eq_getLast?, List.getLast?_eq_some_getLast h]
  exact List.getLast_mem h
theorem last_split {l : List Int} (h : l ≠ []) : l = l.dropLast ++ [l.getLastD 0] := by
  rw [List.getLastD_eq_getLast?, List.getLast?_eq_some_getLast h]
  exact (List.dropLast_concat_getLast h).symm
section
variable {F : Fo} {g : Gh} {above a b m : Int} {u p1 p2 : Pg}
theorem Pair.kidsOut (P : Pair F g above a b u p1 p2 m) {f' : Int → Option Pg} {g' : Gh} (O : Out F.pages f' g g' (movedS above a b)) {v : Nat} (hv : g.lv a = v + 1) {r cs : List Int} {lo hi : Int} (h : Chain (Kid F.pages g v) lo r cs hi) : Chain (Kid f' g' v) lo r cs hi :=
  h.mono fun c l h _ k => k.out O fun z => by
    obtain ⟨_, k2, _⟩ := k
    have := P.la
    have := P.lb
    rcases z with w | w | w
    · rw [w] at k2; omega
    · rw [w] at k2; omega
    · rw [w] at k2; omega
theorem Pair.nxtOut (T : FoOk F g) (P : Pair F g above a b u p1 p2 m) {f' : Int → Option Pg} {g' : Gh} (O : Out F.pages f' g g' (movedS above a b)) (h0 : g.lv a = 0) {o : Option Int} (h : NextOk F.pages g (g.hi b) o) : NextOk f' g' (g.hi b) o := by
  refine h.out O fun x hx z => ?_
  rw [hx] at h
  obtain ⟨⟨q, h1⟩, h2, h3⟩ := h
  have := P.lt1
  have := P.lt2
  have := P.mid2
  have := P.la
  rcases z with w | w | w
  · rw [w] at h3; omega
  · rw [w] at h3; omega
  · rw [w] at h2; omega
theorem Pair.leafs (T : FoOk F g) (P : Pair F g above a b u p1 p2 m) : p1.kids = [] ↔ p2.kids = [] := by
  rw [(T.page _ _ P.ha).leaf_iff, (T.page _ _ P.hb).leaf_iff]
  have := P.la
  have := P.lb
  omega
theorem moveL_leaf (T : FoOk F g) (P : Pair F g above a b u p1 p2 m) (hk : p1.kids = []) (h1 : p1.row.length = 1) (h2 : 2 ≤ p2.row.length) :
    MoveIn F g above a b (p2.row.getD 1 0) u p1 p2 (movedL u p1 p2 (u.kids.idxOf a)) (movedLo p2 p1) := by
  have hk2 := (P.leafs T).mp hk
  have v1 := (T.page _ _ P.ha).leaf_iff.mp hk
  have v2 := (T.page _ _ P.hb).leaf_iff.mp hk2
  obtain ⟨_, ⟨r1, r2⟩, r3⟩ := (T.page _ _ P.ha).leaf v1
  obtain ⟨_, ⟨s1, s2⟩, s3⟩ := (T.page _ _ P.hb).leaf v2
  have hn := P.nxt T v1
  have PA := T.page _ _ P.ha
  have PB := T.page _ _ P.hb
  obtain ⟨row2, kids2, nxt2⟩ := p2
  match row2, h2 with
  | b0 :: b1 :: r, _ =>
    have em : movedL u p1 ⟨b0 :: b1 :: r, kids2, nxt2⟩ (u.kids.idxOf a) = { p1 with row := p1.row ++ [b0] } := by unfold movedL; rw [if_pos hk]; rfl
    have en : movedLo ⟨b0 :: b1 :: r, kids2, nxt2⟩ p1 = ⟨b1 :: r, kids2, nxt2⟩ := by unfold movedLo; rw [if_pos hk]; rfl
    rw [em, en]
    show MoveIn F g above a b b1 u p1 _ _ _
    have lf : p1.kids = [] ↔ kids2 = [] := P.leafs T
    simp only [List.pairwise_cons, List.mem_cons] at s1
    have x0 := s2 b0 (by simp)
    have x1 := s2 b1 (by simp)
    have x2 := s1.1 b1 (.inl rfl)
    have q1 := P.mid
    have q2 := P.mid2
    have q3 := P.lt1
    have q4 := P.lt2
    refine ⟨by omega, by omega, fun f' g' O e1 e2 l1 l2 l3 l4 l5 l6 => ⟨⟨PA.pos, by omega, by rw [l1]; exact PA.low, by have := PB.high; omega, by show (p1.row ++ [b0]).length ≤ 3; simp [h1], fun _ => by show 1 ≤ (p1.row ++ [b0]).length; simp,
        .inl ⟨by omega, hk, ⟨List.pairwise_append.mpr ⟨r1, by simp, fun x hx y hy => ?_⟩, fun x hx => ?_⟩, ?_⟩⟩,
      ⟨PB.pos, by omega, by have := PA.low; omega, by rw [l5]; exact PB.high, by have := PB.most; show (b1 :: r).length ≤ 3; simp only [List.length_cons] at this ⊢; omega, fun _ => by show 1 ≤ (b1 :: r).length; simp,
        .inl ⟨by omega, hk2, ⟨List.pairwise_cons.mpr s1.2, fun x hx => ?_⟩, ?_⟩⟩⟩, ⟨Iff.rfl, lf, lf⟩, fun _ k => ?_⟩
    · have := r2 x hx
      have : y = b0 := by simpa using hy
      omega
    · rcases List.mem_append.mp hx with w | w
      · have := r2 x w; omega
      · have : x = b0 := by simpa using w
        omega
    · show NextOk f' g' (g'.hi a) p1.nxt
      rw [hn]
      exact ⟨⟨_, e2⟩, by omega, by omega⟩
    · have := s2 x (by simp only [List.mem_cons] at hx ⊢; exact .inr hx)
      rcases List.mem_cons.mp hx with w | w
      · omega
      · have := s1.2.1 x w; omega
    · rw [l5]
      exact P.nxtOut T O v1 s3
    · simp only [List.mem_append, List.mem_cons, List.not_mem_nil, or_false]
      constructor
      · rintro (w | w | w | w)
        · exact .inl (.inl w)
        · exact .inl (.inr w)
        · exact .inr (.inl w)
        · exact .inr (.inr w)
      · rintro ((w | w) | w | w)
        · exact .inl w
        · exact .inr (.inl w)
        · exact .inr (.inr (.inl w))
        · exact .inr (.inr (.inr w))
theorem moveL_inner (T : FoOk F g) (P : Pair F g above a b u p1 p2 m) (hk : p1.kids ≠ []) (h1 : p1.row.length = 1) (h2 : 2 ≤ p2.row.length) :
    MoveIn F g above a b (p2.row.getD 0 0) u p1 p2 (movedL u p1 p2 (u.kids.idxOf a)) (movedLo p2 p1) := by
  have hk2 : p2.kids ≠ [] := fun z => hk ((P.leafs T).mpr z)
  have PA := T.page _ _ P.ha
  have PB := T.page _ _ P.hb
  obtain ⟨v, hv⟩ : ∃ v, g.lv a = v + 1 := ⟨g.lv a - 1, by have : g.lv a ≠ 0 := fun z => hk (PA.leaf_iff.mpr z); omega⟩
  have hvb : g.lv b = v + 1 := by have := P.la; have := P.lb; omega
  obtain ⟨a1, a2, a3⟩ := PA.inner hv
  obtain ⟨b1, b2, b3⟩ := PB.inner hvb
  have hs : u.row.getD (u.kids.idxOf a) 0 = m := getD_some P.sep
  have q1 := P.mid
  have q2 := P.mid2
  have q3 := P.lt1
  have q4 := P.lt2
  obtain ⟨row2, kids2, nxt2⟩ := p2
  match row2, kids2, h2, b3 with
  | b0 :: b1' :: r, c0 :: cs, _, b3 =>
    have em : movedL u p1 ⟨b0 :: b1' :: r, c0 :: cs, nxt2⟩ (u.kids.idxOf a) = { p1 with row := p1.row ++ [m], kids := p1.kids ++ [c0] } := by unfold movedL; rw [if_neg hk, hs]; rfl
    have en : movedLo ⟨b0 :: b1' :: r, c0 :: cs, nxt2⟩ p1 = ⟨b1' :: r, cs, nxt2⟩ := by unfold movedLo; rw [if_neg hk]; rfl
    rw [em, en]
    show MoveIn F g above a b b0 u p1 _ _ _
    obtain ⟨c1, c2⟩ := b3
    have x0 := Kid.lt _ _ _ c1
    have x1 := Chain.lt Kid.lt c2
    have hcs : cs ≠ [] := fun z => by have := c2.len; rw [z] at this; simp at this
    refine ⟨by omega, by omega, fun f' g' O e1 e2 l1 l2 l3 l4 l5 l6 => ⟨⟨PA.pos, by omega, by rw [l1]; exact PA.low, by have := PB.high; omega, by show (p1.row ++ [m]).length ≤ 3; simp [h1], fun _ => by show 1 ≤ (p1.row ++ [m]).length; simp,
        .inr ⟨v, by omega, by show 1 ≤ (p1.row ++ [m]).length; simp, a2, ?_⟩⟩,
      ⟨PB.pos, by omega, by have := PA.low; omega, by rw [l5]; exact PB.high, by have := PB.most; show (b1' :: r).length ≤ 3; simp only [List.length_cons] at this ⊢; omega, fun _ => by show 1 ≤ (b1' :: r).length; simp,
        .inr ⟨v, by omega, by show 1 ≤ (b1' :: r).length; simp, b2, ?_⟩⟩⟩, ⟨⟨fun z => absurd z hk, fun z => by simp at z⟩, ⟨fun z => absurd z hk, fun z => absurd z hcs⟩, P.leafs T⟩, fun z => absurd z hk⟩
    · rw [l1, l2]
      refine P.kidsOut O hv ?_
      rw [q1] at a3
      refine Chain.app a3 ?_
      rw [← q2]
      exact c1
    · rw [l4, l5]
      exact P.kidsOut O hv c2
  | _ :: _ :: _, [], _, b3 => exact b3.elim
theorem moveR_leaf (T : FoOk F g) (P : Pair F g above a b u p1 p2 m) (hk : p1.kids = []) (h1 : 2 ≤ p1.row.length) (h2 : p2.row.length = 1) :
    MoveIn F g above a b (p1.row.getLastD 0) u p1 p2 (movedRo p1) (movedR u p1 p2 (u.kids.idxOf a)) := by
  have hk2 := (P.leafs T).mp hk
  have v1 := (T.page _ _ P.ha).leaf_iff.mp hk
  have v2 := (T.page _ _ P.hb).leaf_iff.mp hk2
  obtain ⟨_, ⟨r1, r2⟩, r3⟩ := (T.page _ _ P.ha).leaf v1
  obtain ⟨_, ⟨s1, s2⟩, s3⟩ := (T.page _ _ P.hb).leaf v2
  have hn := P.nxt T v1
  have PA := T.page _ _ P.ha
  have PB := T.page _ _ P.hb
  have q1 := P.mid
  have q2 := P.mid2
  have q3 := P.lt1
  have q4 := P.lt2
  have em : movedRo p1 = { p1 with row := p1.row.dropLast } := by unfold movedRo; rw [if_pos hk]
  have en : movedR u p1 p2 (u.kids.idxOf a) = { p2 with row := p1.row.getLastD 0 :: p2.row } := by unfold movedR; rw [if_pos hk]
  rw [em, en]
  have lf : p1.kids = [] ↔ p2.kids = [] := P.leafs T
  have hsp := last_split (l := p1.row) (fun z => by rw [z] at h1; simp at h1)
  have hpm := PA.most
  generalize p1.row.getLastD 0 = z at *
  generalize p1.row.dropLast = r at *
  have hlen : p1.row.length = r.length + 1 := by rw [hsp]; simp
  obtain ⟨x, hx⟩ : ∃ x, x ∈ r := by
    cases r with
    | nil => simp at hlen; omega
    | cons x _ => exact ⟨x, by simp⟩
  rw [hsp] at r1 r2
  rw [List.pairwise_append] at r1
  obtain ⟨t1, _, t3⟩ := r1
  have hzx := t3 x hx z (by simp)
  have hx2 := r2 x (by simp [hx])
  have hz2 := r2 z (by simp)
  refine ⟨by omega, by omega, fun f' g' O e1 e2 l1 l2 l3 l4 l5 l6 => ⟨⟨PA.pos, by omega, by rw [l1]; exact PA.low, by have := PB.high; omega, by show r.length ≤ 3; omega, fun _ => by show 1 ≤ r.length; omega,
        .inl ⟨by omega, hk, ⟨t1, fun y hy => ?_⟩, ?_⟩⟩,
      ⟨PB.pos, by omega, by have := PA.low; omega, by rw [l5]; exact PB.high, by show (z :: p2.row).length ≤ 3; rw [List.length_cons, h2]; decide, fun _ => by show 1 ≤ (z :: p2.row).length; simp,
        .inl ⟨by omega, hk2, ⟨List.pairwise_cons.mpr ⟨fun y hy => ?_, s1⟩, fun y hy => ?_⟩, ?_⟩⟩⟩, ⟨Iff.rfl, lf, lf⟩, fun _ k => ?_⟩
  · have := t3 y hy z (by simp)
    have := r2 y (by simp [hy])
    omega
  · show NextOk f' g' (g'.hi a) p1.nxt
    rw [hn]
    exact ⟨⟨_, e2⟩, by omega, by omega⟩
  · have := s2 y hy; omega
  · rcases List.mem_cons.mp hy with w | w
    · omega
    · have := s2 y w; omega
  · rw [l5]
    exact P.nxtOut T O v1 s3
  · show (k ∈ p1.row ∨ k ∈ p2.row) ↔ (k ∈ r ∨ k ∈ z :: p2.row)
    rw [hsp]
    simp only [List.mem_append, List.mem_cons, List.not_mem_nil, or_false, or_assoc]
theorem moveR_inner (T : FoOk F g) (P : Pair F g above a b u p1 p2 m) (hk : p1.kids ≠ []) (h1 : 2 ≤ p1.row.length) (h2 : p2.row.length = 1) :
    MoveIn F g above a b (p1.row.getLastD 0) u p1 p2 (movedRo p1) (movedR u p1 p2 (u.kids.idxOf a)) := by
  have hk2 : p2.kids ≠ [] := fun z => hk ((P.leafs T).mpr z)
  have PA := T.page _ _ P.ha
  have PB := T.page _ _ P.hb
  obtain ⟨v, hv⟩ : ∃ v, g.lv a = v + 1 := ⟨g.lv a - 1, by have : g.lv a ≠ 0 := fun z => hk (PA.leaf_iff.mpr z); omega⟩
  have hvb : g.lv b = v + 1 := by have := P.la; have := P.lb; omega
  obtain ⟨a1, a2, a3⟩ := PA.inner hv
  obtain ⟨b1, b2, b3⟩ := PB.inner hvb
  have hs : u.row.getD (u.kids.idxOf a) 0 = m := getD_some P.sep
  have q1 := P.mid
  have q2 := P.mid2
  have q3 := P.lt1
  have q4 := P.lt2
  have em : movedRo p1 = { p1 with row := p1.row.dropLast, kids := p1.kids.dropLast } := by unfold movedRo; rw [if_neg hk]
  have en : movedR u p1 p2 (u.kids.idxOf a) = { p2 with row := m :: p2.row, kids := p1.kids.getLastD 0 :: p2.kids } := by unfold movedR; rw [if_neg hk, hs]
  rw [em, en]
  have hsp := last_split (l := p1.row) (fun z => by rw [z] at h1; simp at h1)
  have hsk := last_split hk
  have hpm := PA.most
  have hkl := a3.len
  generalize p1.row.getLastD 0 = z at *
  generalize p1.row.dropLast = r at *
  generalize p1.kids.getLastD 0 = c at *
  generalize p1.kids.dropLast = ks at *
  have hlen : p1.row.length = r.length + 1 := by rw [hsp]; simp
  have hlek : p1.kids.length = ks.length + 1 := by rw [hsk]; simp
  rw [hsp, hsk] at a3
  obtain ⟨c1, c2⟩ := a3.cut (by omega)
  have x1 := Chain.lt Kid.lt c1
  have x2 := Kid.lt _ _ _ c2
  have hks : ks ≠ [] := fun z => by rw [z] at hlek; simp at hlek; omega
  refine ⟨by omega, by omega, fun f' g' O e1 e2 l1 l2 l3 l4 l5 l6 => ⟨⟨PA.pos, by omega, by rw [l1]; exact PA.low, by have := PB.high; omega, by show r.length ≤ 3; omega, fun _ => by show 1 ≤ r.length; omega,
        .inr ⟨v, by omega, by show 1 ≤ r.length; omega, a2, ?_⟩⟩,
      ⟨PB.pos, by omega, by have := PA.low; omega, by rw [l5]; exact PB.high, by show (m :: p2.row).length ≤ 3; rw [List.length_cons, h2]; decide, fun _ => by show 1 ≤ (m :: p2.row).length; simp,
        .inr ⟨v, by omega, by show 1 ≤ (m :: p2.row).length; simp, b2, ?_⟩⟩⟩, ⟨⟨fun z => absurd z hk, fun z => absurd z hks⟩, ⟨fun z => absurd z hk, fun z => by simp at z⟩, P.leafs T⟩, fun z => absurd z hk⟩
  · rw [l1, l2]
    exact P.kidsOut O hv c1
  · rw [l4, l5]
    refine P.kidsOut O hv ⟨?_, ?_⟩
    · rw [← q1]; exact c2
    · rw [← q2]; exact b3
/-- a key moved -/
theorem moved_ok (T : FoOk F g) (P : Pair F g above a b u p1 p2 m) (toLeft : Bool) (h : if toLeft = true then p1.row.length = 1 ∧ 2 ≤ p2.row.length else 2 ≤ p1.row.length ∧ p2.row.length = 1) :
    ∃ key, g.lo a < key ∧ key < g.hi b ∧ MovedOk F (F.moved above a b toLeft) g above a b key ∧ ∃ q1 q2, (F.moved above a b toLeft).pages a = some q1 ∧ (F.moved above a b toLeft).pages b = some q2 ∧ (if toLeft = true then 2 = q1.row.length else 2 = q2.row.length) ∧ (F.moved above a b toLeft).pages above = some { u with row := u.row.set (u.kids.idxOf a) key } ∧
      (toLeft = true → m < key) ∧ (toLeft = false → key < m) ∧ (q1.kids = [] ↔ p1.kids = []) ∧ (q2.kids = [] ↔ p1.kids = []) := by
  have E : ∀ q1 q2 u', (((F.set a q1).set b q2).set above u').pages a = some q1 ∧ (((F.set a q1).set b q2).set above u').pages b = some q2 ∧ (((F.set a q1).set b q2).set above u').pages above = some u' := fun q1 q2 u' =>
    ⟨by show setP (setP (setP _ _ _) _ _) _ _ _ = _; rw [setP_ne P.nau, setP_ne P.nab, setP_same], by show setP (setP (setP _ _ _) _ _) _ _ _ = _; rw [setP_ne P.nbu, setP_same], setP_same⟩
  have lt := P.leafs T
  have PA := T.page _ _ P.ha
  have PB := T.page _ _ P.hb
  cases toLeft with
  | true =>
    rw [if_pos rfl] at h
    by_cases hk : p1.kids = []
    · have I := moveL_leaf T P hk h.1 h.2
      have eF : F.moved above a b true = ((F.set a (movedL u p1 p2 (u.kids.idxOf a))).set b (movedLo p2 p1)).set above { u with row := u.row.set (u.kids.idxOf a) (p2.row.getD 1 0) } := by
        unfold Fo.moved; simp only [Fo.pg_some P.hu, Fo.pg_some P.ha, Fo.pg_some P.hb, if_pos, movedLu, hk]
      rw [eF]
      obtain ⟨x1, x2, x3⟩ := E (movedL u p1 p2 (u.kids.idxOf a)) (movedLo p2 p1) { u with row := u.row.set (u.kids.idxOf a) (p2.row.getD 1 0) }
      refine ⟨_, I.k1, I.k2, moved_core T P I, _, _, x1, x2, ?_, x3, fun _ => ?_, (fun z => by cases z), I.lf.1.symm, I.lf.2.1.symm⟩
      · rw [if_pos rfl]; unfold movedL; rw [if_pos hk]; show 2 = (p1.row ++ [_]).length; rw [List.length_append, h.1]; rfl
      · have v2 := PB.leaf_iff.mp (lt.mp hk)
        obtain ⟨_, ⟨s1, s2⟩, _⟩ := PB.leaf v2
        have h2 := h.2
        have := P.mid2
        match hr : p2.row, h2 with
        | b0 :: b1 :: r, _ =>
          rw [hr] at s1 s2
          simp only [List.pairwise_cons, List.mem_cons] at s1
          have := s2 b0 (by simp)
          have := s1.1 b1 (.inl rfl)
          show m < b1
          omega
    · have I := moveL_inner T P hk h.1 h.2
      have eF : F.moved above a b true = ((F.set a (movedL u p1 p2 (u.kids.idxOf a))).set b (movedLo p2 p1)).set above { u with row := u.row.set (u.kids.idxOf a) (p2.row.getD 0 0) } := by
        unfold Fo.moved; simp only [Fo.pg_some P.hu, Fo.pg_some P.ha, Fo.pg_some P.hb, if_pos, movedLu, if_neg hk]
      rw [eF]
      obtain ⟨x1, x2, x3⟩ := E (movedL u p1 p2 (u.kids.idxOf a)) (movedLo p2 p1) { u with row := u.row.set (u.kids.idxOf a) (p2.row.getD 0 0) }
      refine ⟨_, I.k1, I.k2, moved_core T P I, _, _, x1, x2, ?_, x3, fun _ => ?_, (fun z => by cases z), I.lf.1.symm, I.lf.2.1.symm⟩
      · rw [if_pos rfl]; unfold movedL; rw [if_neg hk]; show 2 = (p1.row ++ [_]).length; rw [List.length_append, h.1]; rfl
      · have hk2 : p2.kids ≠ [] := fun z => hk (lt.mpr z)
        rcases PB.body with ⟨_, z, _⟩ | ⟨v, _, _, _, ch⟩
        · exact absurd z hk2
        · have := (Chain.keys Kid.lt ch).2 (p2.row.getD 0 0) (by
            have h2 := h.2
            match p2.row, h2 with
            | b0 :: b1 :: r, _ => simp)
          have := P.mid2
          omega
  | false =>
    rw [if_neg (by decide)] at h
    by_cases hk : p1.kids = []
    · have I := moveR_leaf T P hk h.1 h.2
      have eF : F.moved above a b false = ((F.set a (movedRo p1)).set b (movedR u p1 p2 (u.kids.idxOf a))).set above { u with row := u.row.set (u.kids.idxOf a) (p1.row.getLastD 0) } := by
        unfold Fo.moved; simp only [Fo.pg_some P.hu, Fo.pg_some P.ha, Fo.pg_some P.hb, movedRu]; rfl
      rw [eF]
      obtain ⟨x1, x2, x3⟩ := E (movedRo p1) (movedR u p1 p2 (u.kids.idxOf a)) { u with row := u.row.set (u.kids.idxOf a) (p1.row.getLastD 0) }
      refine ⟨_, I.k1, I.k2, moved_core T P I, _, _, x1, x2, ?_, x3, (fun z => by cases z), fun _ => ?_, I.lf.1.symm, I.lf.2.1.symm⟩
      · rw [if_neg (by decide)]; unfold movedR; rw [if_pos hk]; show 2 = (_ :: p2.row).length; rw [List.length_cons, h.2]
      · have v1 := PA.leaf_iff.mp hk
        obtain ⟨_, ⟨s1, s2⟩, _⟩ := PA.leaf v1
        have := s2 (p1.row.getLastD 0) (last_mem fun z => by rw [z] at h; simp at h)
        have := P.mid
        omega
    · have I := moveR_inner T P hk h.1 h.2
      have eF : F.moved above a b false = ((F.set a (movedRo p1)).set b (movedR u p1 p2 (u.kids.idxOf a))).set above { u with row := u.row.set (u.kids.idxOf a) (p1.row.getLastD 0) } := by
        unfold Fo.moved; simp only [Fo.pg_some P.hu, Fo.pg_some P.ha, Fo.pg_some P.hb, movedRu]; rfl
      rw [eF]
      obtain ⟨x1, x2, x3⟩ := E (movedRo p1) (movedR u p1 p2 (u.kids.idxOf a)) { u with row := u.row.set (u.kids.idxOf a) (p1.row.getLastD 0) }
      refine ⟨_, I.k1, I.k2, moved_core T P I, _, _, x1, x2, ?_, x3, (fun z => by cases z), fun _ => ?_, I.lf.1.symm, I.lf.2.1.symm⟩
      · rw [if_neg (by decide)]; unfold movedR; rw [if_neg hk]; show 2 = (_ :: p2.row).length; rw [List.length_cons, h.2]
      · rcases PA.body with ⟨_, z, _⟩ | ⟨v, _, _, _, ch⟩
        · exact absurd z hk
        · have := (Chain.keys Kid.lt ch).2 (p1.row.getLastD 0) (last_mem fun z => by rw [z] at h; simp at h)
          have := P.mid
          omega
end

/-! ### two neighbours joined -/
def joinG (g : Gh) (a b : Int) : Gh := g.put a (g.lo a) (g.hi b) (g.lv a)
structure JoinOk (F F' : Fo) (g : Gh) (above a b : Int) : Prop where
  ok : FoOk F' (joinG g a b)
  out : Out F.pages F'.pages g (joinG g a b) (movedS above a b)
  has : ∀ k, Has F' k ↔ Has F k
  last : F'.last = F.last
section
variable {F : Fo} {g : Gh} {above a b m : Int} {u p1 p2 : Pg}
theorem joinL_ok (T : FoOk F g) (P : Pair F g above a b u p1 p2 m) (h1 : p1.row.length = 1) (h2 : p2.row.length = 1) {f' : Int → Option Pg} {g' : Gh} {root' : Int} (O : Out F.pages f' g g' (movedS above a b))
    (l1 : g'.lo a = g.lo a) (l2 : g'.hi a = g.hi b) (l3 : g'.lv a = g.lv a) :
    PageOk f' g' root' a (joinL u p1 p2 (u.kids.idxOf a)) ∧ 2 ≤ (joinL u p1 p2 (u.kids.idxOf a)).row.length ∧ ((joinL u p1 p2 (u.kids.idxOf a)).kids = [] ↔ p1.kids = []) ∧ (p1.kids = [] → (joinL u p1 p2 (u.kids.idxOf a)).row = p1.row ++ p2.row) := by
  have PA := T.page _ _ P.ha
  have PB := T.page _ _ P.hb
  have lt := P.leafs T
  have q1 := P.mid
  have q2 := P.mid2
  have q3 := P.lt1
  have q4 := P.lt2
  by_cases hk : p1.kids = []
  · have hk2 := lt.mp hk
    have v1 := PA.leaf_iff.mp hk
    have v2 := PB.leaf_iff.mp hk2
    obtain ⟨_, ⟨r1, r2⟩, r3⟩ := PA.leaf v1
    obtain ⟨_, ⟨s1, s2⟩, s3⟩ := PB.leaf v2
    have em : joinL u p1 p2 (u.kids.idxOf a) = { p1 with row := p1.row ++ p2.row, nxt := p2.nxt } := by unfold joinL; rw [if_pos hk]
    rw [em]
    refine ⟨⟨PA.pos, by omega, by rw [l1]; exact PA.low, by rw [l2]; exact PB.high, by show (p1.row ++ p2.row).length ≤ 3; rw [List.length_append]; omega, fun _ => by show 1 ≤ (p1.row ++ p2.row).length; rw [List.length_append]; omega,
      .inl ⟨by omega, hk, ⟨List.pairwise_append.mpr ⟨r1, s1, fun x hx y hy => ?_⟩, fun x hx => ?_⟩, ?_⟩⟩, by show 2 ≤ (p1.row ++ p2.row).length; rw [List.length_append]; omega, Iff.rfl, fun _ => rfl⟩
    · have := r2 x hx
      have := s2 y hy
      omega
    · rcases List.mem_append.mp hx with w | w
      · have := r2 x w; omega
      · have := s2 x w; omega
    · rw [l2]
      exact P.nxtOut T O v1 s3
  · have hk2 : p2.kids ≠ [] := fun z => hk (lt.mpr z)
    obtain ⟨v, hv⟩ : ∃ v, g.lv a = v + 1 := ⟨g.lv a - 1, by have : g.lv a ≠ 0 := fun z => hk (PA.leaf_iff.mpr z); omega⟩
    have hvb : g.lv b = v + 1 := by have := P.la; have := P.lb; omega
    obtain ⟨a1, a2, a3⟩ := PA.inner hv
    obtain ⟨b1, b2, b3⟩ := PB.inner hvb
    have hs : u.row.getD (u.kids.idxOf a) 0 = m := getD_some P.sep
    have em : joinL u p1 p2 (u.kids.idxOf a) = { p1 with row := p1.row ++ m :: p2.row, kids := p1.kids ++ p2.kids } := by unfold joinL; rw [if_neg hk, hs]
    rw [em]
    refine ⟨⟨PA.pos, by omega, by rw [l1]; exact PA.low, by rw [l2]; exact PB.high, by show (p1.row ++ m :: p2.row).length ≤ 3; rw [List.length_append, List.length_cons]; omega, fun _ => by show 1 ≤ (p1.row ++ m :: p2.row).length; rw [List.length_append]; omega,
      .inr ⟨v, by omega, by show 1 ≤ (p1.row ++ m :: p2.row).length; rw [List.length_append]; omega, a2, ?_⟩⟩, by show 2 ≤ (p1.row ++ m :: p2.row).length; rw [List.length_append, List.length_cons]; omega, ⟨fun z => ?_, fun z => absurd z hk⟩, fun z => absurd z hk⟩
    · rw [l1, l2]
      refine P.kidsOut O hv (Chain.app ?_ ?_)
      · rw [← q1]; exact a3
      · rw [← q2]; exact b3
    · exact absurd (List.append_eq_nil_iff.mp z).1 hk
theorem join_out (P : Pair F g above a b u p1 p2 m) {F' : Fo} (h : ∀ x, x ≠ a → x ≠ b → x ≠ above → F'.pages x = F.pages x) : Out F.pages F'.pages g (joinG g a b) (movedS above a b) := by
  refine ⟨fun x hx => ?_, fun x hx => ?_, fun x hx => ?_, fun x hx => ?_⟩ <;> unfold movedS at hx <;> simp only [not_or] at hx
  · exact h x hx.1 hx.2.1 hx.2.2
  · simp [joinG, Gh.put, hx.1]
  · simp [joinG, Gh.put, hx.1]
  · simp [joinG, Gh.put, hx.1]
theorem join_has (T : FoOk F g) (P : Pair F g above a b u p1 p2 m) {F' : Fo} {q : Pg} (O : Out F.pages F'.pages g (joinG g a b) (movedS above a b)) (e1 : F'.pages a = some q) (e2 : F'.pages b = none) (e3 : ∀ p, F'.pages above = some p → p.kids ≠ []) (hq : q.kids = [] ↔ p1.kids = []) (hr : p1.kids = [] → q.row = p1.row ++ p2.row) (k : Int) : Has F' k ↔ Has F k := by
  have lt := P.leafs T
  have hukid : u.kids ≠ [] := fun z => by have := P.ma; rw [z] at this; simp at this
  constructor
  · rintro ⟨x, p, hx, hk, hm⟩
    by_cases z1 : x = a
    · subst z1
      rw [e1] at hx
      cases hx
      have hk0 := hq.mp hk
      rw [hr hk0] at hm
      rcases List.mem_append.mp hm with w | w
      · exact ⟨_, p1, P.ha, hk0, w⟩
      · exact ⟨_, p2, P.hb, lt.mp hk0, w⟩
    · by_cases z2 : x = b
      · subst z2; rw [e2] at hx; cases hx
      · by_cases z3 : x = above
        · subst z3; exact absurd hk (e3 _ hx)
        · exact ⟨x, p, by rw [← O.pg x (fun w => by rcases w with w | w | w; exact z1 w; exact z2 w; exact z3 w)]; exact hx, hk, hm⟩
  · rintro ⟨x, p, hx, hk, hm⟩
    by_cases z1 : x = a
    · subst z1
      rw [P.ha] at hx
      cases hx
      exact ⟨_, q, e1, hq.mpr hk, by rw [hr hk]; exact List.mem_append_left _ hm⟩
    · by_cases z2 : x = b
      · subst z2
        rw [P.hb] at hx
        cases hx
        have hk0 := lt.mpr hk
        exact ⟨_, q, e1, hq.mpr hk0, by rw [hr hk0]; exact List.mem_append_right _ hm⟩
      · by_cases z3 : x = above
        · subst z3
          rw [P.hu] at hx
          cases hx
          exact absurd hk hukid
        · exact ⟨x, p, by rw [O.pg x (fun w => by rcases w with w | w | w; exact z1 w; exact z2 w; exact z3 w)]; exact hx, hk, hm⟩
theorem joined_pages (P : Pair F g above a b u p1 p2 m) : (F.joined above a b).pages = delP (setP (setP F.pages a (joinL u p1 p2 (u.kids.idxOf a))) above (joinU u (u.kids.idxOf a))) b := by
  unfold Fo.joined; simp only [Fo.pg_some P.hu, Fo.pg_some P.ha, Fo.pg_some P.hb]; rfl
theorem joined_ok (T : FoOk F g) (P : Pair F g above a b u p1 p2 m) (h1 : p1.row.length = 1) (h2 : p2.row.length = 1) (h3 : 2 ≤ u.row.length) :
    JoinOk F (F.joined above a b) g above a b ∧ (F.joined above a b).root = F.root ∧ (F.joined above a b).pages above = some (joinU u (u.kids.idxOf a)) ∧ (F.joined above a b).pages b = none ∧ ∃ q, (F.joined above a b).pages a = some q ∧ 2 ≤ q.row.length ∧ (q.kids = [] ↔ p1.kids = []) := by
  have eF := joined_pages P
  have hroot : (F.joined above a b).root = F.root := rfl
  have hlast : (F.joined above a b).last = F.last := rfl
  generalize F.joined above a b = F' at *
  have hu := P.hu
  have ha := P.ha
  have hb := P.hb
  have la := P.la
  have lb := P.lb
  have nab := P.nab
  have nau := P.nau
  have nbu := P.nbu
  have e1 : F'.pages a = some (joinL u p1 p2 (u.kids.idxOf a)) := by rw [eF, delP_ne nab, setP_ne nau, setP_same]
  have e2 : F'.pages b = none := by rw [eF, delP_same]
  have e3 : F'.pages above = some (joinU u (u.kids.idxOf a)) := by rw [eF, delP_ne (Ne.symm nbu), setP_same]
  have l1 : (joinG g a b).lo a = g.lo a := by simp [joinG, Gh.put]
  have l2 : (joinG g a b).hi a = g.hi b := by simp [joinG, Gh.put]
  have l3 : (joinG g a b).lv a = g.lv a := by simp [joinG, Gh.put]
  have l7 : (joinG g a b).lo above = g.lo above := by simp [joinG, Gh.put, Ne.symm nau]
  have l8 : (joinG g a b).hi above = g.hi above := by simp [joinG, Gh.put, Ne.symm nau]
  have l9 : (joinG g a b).lv above = g.lv above := by simp [joinG, Gh.put, Ne.symm nau]
  have O := join_out P (F' := F') fun x x1 x2 x3 => by rw [eF, delP_ne x2, setP_ne x3, setP_ne x1]
  obtain ⟨Pa, hq2, hqk, hr⟩ := joinL_ok (root' := F'.root) T P h1 h2 O l1 l2 l3
  have k1 := P.lt1
  have k2 := P.lt2
  have mid := P.mid
  have mid2 := P.mid2
  have PU := T.page _ _ hu
  have PA := T.page _ _ ha
  have PB := T.page _ _ hb
  obtain ⟨i1, i2, ch⟩ := PU.inner la.symm
  obtain ⟨l, m', h, c1, c2, _, c4⟩ := ch.joined (K' := Kid F'.pages (joinG g a b) (g.lv a)) Kid.lt Kid.det P.ma P.mb P.adj
  have ch' := c4 (by
    obtain ⟨_, a1, a2, a3, a4⟩ := c1
    obtain ⟨_, b1, b2, b3, b4⟩ := c2
    exact ⟨⟨_, e1⟩, by omega, by omega, by omega, by omega⟩) (fun c l h hc hca hcb kc => by
      have kc' := kc
      obtain ⟨⟨qc, c1⟩, c2, _⟩ := kc'
      refine kc.out O fun z => ?_
      rcases z with w | w | w
      · exact hca w
      · exact hcb w
      · rw [w] at c2; omega)
  have hul : (joinU u (u.kids.idxOf a)).row.length = u.row.length - 1 := by
    show (u.row.eraseIdx _).length = _
    obtain ⟨hh, _⟩ := List.getElem?_eq_some_iff.mp P.sep
    rw [List.length_eraseIdx_of_lt hh]
  have hukn : (joinU u (u.kids.idxOf a)).kids ≠ [] := fun z => by
    have := Chain.len ch'
    have z' : u.kids.eraseIdx (u.kids.idxOf a + 1) = [] := z
    rw [z'] at this
    simp at this
  have hms := PU.most
  have cs : ∀ x q, F'.pages x = some q → x = a ∨ x = above ∨ (F.pages x = some q ∧ x ≠ a ∧ x ≠ b ∧ x ≠ above ∧ x ≤ F.last ∧ (joinG g a b).lo x = g.lo x ∧ (joinG g a b).hi x = g.hi x ∧ (joinG g a b).lv x = g.lv x) := fun x q hq => by
    by_cases hx : movedS above a b x
    · rcases hx with h | h | h
      · exact .inl h
      · subst h; rw [e2] at hq; cases hq
      · exact .inr (.inl h)
    · have hx0 : F.pages x = some q := by rw [← O.pg x hx]; exact hq
      exact .inr (.inr ⟨hx0, fun z => hx (.inl z), fun z => hx (.inr (.inl z)), fun z => hx (.inr (.inr z)), T.last _ _ hx0, O.lo x hx, O.hi x hx, O.lv x hx⟩)
  have rt' : (∃ p, F'.pages F.root = some p) ∧ (joinG g a b).lo F.root = -1 ∧ (joinG g a b).hi F.root = 100 ∧ (joinG g a b).lv F.root = g.lv F.root := by
    obtain ⟨pr, hpr⟩ := T.rt
    have a1 := T.rlo
    have a2 := T.rhi
    by_cases z : F.root = above
    · rw [z] at a1 a2 ⊢
      exact ⟨⟨_, e3⟩, by omega, by omega, by omega⟩
    · have hS : ¬ movedS above a b F.root := fun h => by
        rcases h with h | h | h
        · exact T.kid_ne_root hu P.ma h.symm
        · exact T.kid_ne_root hu P.mb h.symm
        · exact z h
      have b1 := O.lo _ hS
      have b2 := O.hi _ hS
      exact ⟨⟨pr, by rw [O.pg _ hS]; exact hpr⟩, by omega, by omega, O.lv _ hS⟩
  refine ⟨⟨?_, O, fun k => join_has T P O e1 e2 (fun p hp => by rw [e3] at hp; cases hp; exact hukn) hqk hr k, hlast⟩, hroot, e3, e2, _, e1, hq2, hqk⟩
  generalize joinG g a b = g' at *
  refine T.upd O (by rw [hlast]; omega) (.inl hroot) (by rw [hroot]; exact rt'.1) (by rw [hroot]; exact rt'.2.1) (by rw [hroot]; exact rt'.2.2.1) (fun x q hx hq => ?_) (fun c x q hc hx hcx hs => ?_) (fun y x q hm hx0 hv hn hs => ?_) (fun x y q q' hx0 hx hy ne e => ?_) (fun x q hq => ?_)
  · rw [hlast]
    rcases hx with h | h | h
    · subst h
      rw [e1] at hq
      cases hq
      exact ⟨Pa, T.last _ _ ha⟩
    · subst h
      rw [e2] at hq
      cases hq
    · subst h
      rw [e3] at hq
      cases hq
      exact ⟨⟨PU.pos, by rw [l7, l8]; exact PU.ne, by rw [l7]; exact PU.low, by rw [l8]; exact PU.high, by omega, fun _ => by omega,
        .inr ⟨g.lv a, by omega, by omega, i2, by rw [l7, l8]; exact ch'⟩⟩, T.last _ _ hu⟩
  · rcases hc with h | h | h
    · subst h
      exact absurd (T.parent hx hu hcx P.ma) fun w => hs (.inr (.inr w))
    · subst h
      exact absurd (T.parent hx hu hcx P.mb) fun w => hs (.inr (.inr w))
    · subst h
      exact ⟨⟨_, e3⟩, l7, l8, l9⟩
  · have hN := ((T.page _ _ hx0).leaf hv).2.2
    rw [hn] at hN
    obtain ⟨⟨z, h1⟩, h2, h3'⟩ := hN
    rcases hm with h | h | h
    · subst h
      exact ⟨⟨_, e1⟩, by omega, by omega⟩
    · subst h
      exact absurd (T.same_hi hx0 ha (by omega) (by omega)) fun w => hs (.inl w)
    · subst h; omega
  · have u1 := PU.ne
    have u2 := PA.ne
    have u3 := PB.ne
    rcases cs x q hx with h | h | h <;> rcases cs y q' hy with h' | h' | h' <;> first
      | (exfalso; omega)
      | (subst h; subst h'; omega)
      | skip
    · subst h
      have := T.dis x y p1 q' ha h'.1 (Ne.symm h'.2.1) (by omega)
      have := T.dis b y p2 q' hb h'.1 (Ne.symm h'.2.2.1) (by omega)
      have := (T.page _ _ h'.1).ne
      omega
    · subst h
      have := T.dis x y u q' hu h'.1 (Ne.symm h'.2.2.2.1) (by omega)
      omega
    · subst h'
      have := T.dis x y q p1 h.1 ha h.2.1 (by omega)
      have := T.dis x b q p2 h.1 hb h.2.2.1 (by omega)
      have := (T.page _ _ h.1).ne
      omega
    · subst h'
      have := T.dis x y q u h.1 hu h.2.2.2.1 (by omega)
      omega
    · have := T.dis x y q q' h.1 h'.1 ne (by omega)
      omega
  · rw [hroot]
    have r3 := rt'.2.2.2
    rcases cs x q hq with h | h | h
    · subst h
      have := (T.top _ _ ha).resolve_left (T.kid_ne_root hu P.ma)
      exact .inr (by omega)
    · subst h
      rcases T.top _ _ hu with w | w
      · exact .inl w
      · exact .inr (by omega)
    · rcases T.top _ _ h.1 with w | w
      · exact .inl w
      · exact .inr (by omega)
/-- the root's last two kids joined: the tree grows lower -/
theorem joined_root (T : FoOk F g) (P : Pair F g above a b u p1 p2 m) (h1 : p1.row.length = 1) (h2 : p2.row.length = 1) (h3 : u.row.length = 1) (hr0 : above = F.root) {F' : Fo} (hF : F' = { (F.joined above a b).del above with root := a }) :
    JoinOk F F' g above a b ∧ F'.root = a ∧ F'.pages above = none ∧ F'.pages b = none ∧ ∃ q, F'.pages a = some q ∧ 2 ≤ q.row.length ∧ (q.kids = [] ↔ p1.kids = []) := by
  have eF : F'.pages = delP (delP (setP (setP F.pages a (joinL u p1 p2 (u.kids.idxOf a))) above (joinU u (u.kids.idxOf a))) b) above := by rw [hF, ← joined_pages P]; rfl
  have hroot : F'.root = a := by rw [hF]
  have hlast : F'.last = F.last := by rw [hF]; rfl
  clear hF
  have hu := P.hu
  have ha := P.ha
  have hb := P.hb
  have la := P.la
  have lb := P.lb
  have nab := P.nab
  have nau := P.nau
  have nbu := P.nbu
  have e1 : F'.pages a = some (joinL u p1 p2 (u.kids.idxOf a)) := by rw [eF, delP_ne nau, delP_ne nab, setP_ne nau, setP_same]
  have e2 : F'.pages b = none := by rw [eF, delP_ne nbu, delP_same]
  have e3 : F'.pages above = none := by rw [eF, delP_same]
  have l1 : (joinG g a b).lo a = g.lo a := by simp [joinG, Gh.put]
  have l2 : (joinG g a b).hi a = g.hi b := by simp [joinG, Gh.put]
  have l3 : (joinG g a b).lv a = g.lv a := by simp [joinG, Gh.put]
  have O := join_out P (F' := F') fun x x1 x2 x3 => by rw [eF, delP_ne x3, delP_ne x2, setP_ne x3, setP_ne x1]
  obtain ⟨Pa, hq2, hqk, hr⟩ := joinL_ok (root' := F'.root) T P h1 h2 O l1 l2 l3
  have k1 := P.lt1
  have k2 := P.lt2
  have mid := P.mid
  have mid2 := P.mid2
  have PU := T.page _ _ hu
  have PA := T.page _ _ ha
  have PB := T.page _ _ hb
  obtain ⟨i1, i2, ch⟩ := PU.inner la.symm
  have bounds : g.lo a = -1 ∧ g.hi b = 100 := by
    have a1 := T.rlo
    have a2 := T.rhi
    rw [← hr0] at a1 a2
    have hl := ch.len
    have hma := P.ma
    have hmb := P.mb
    have hadj := P.adj
    match hrw : u.row, h3 with
    | [k], _ =>
      rw [hrw] at ch hl
      match hkd : u.kids, hl with
      | [x, y], _ =>
        rw [hkd] at ch hma hmb hadj
        obtain ⟨⟨_, _, c1, c2, _⟩, ⟨_, _, d1, d2, _⟩⟩ := ch
        have hx : a = x ∧ b = y := by
          have ma' : a = x ∨ a = y := by simpa using hma
          have mb' : b = x ∨ b = y := by simpa using hmb
          rcases ma' with w | w
          · rcases mb' with w' | w'
            · exact absurd (w.trans w'.symm) nab
            · exact ⟨w, w'⟩
          · rcases mb' with w' | w'
            · subst w; subst w'
              rw [List.idxOf_cons_self, idx_ne nab.symm] at hadj
              omega
            · exact absurd (w.trans w'.symm) nab
        obtain ⟨w1, w2⟩ := hx
        subst w1; subst w2
        exact ⟨by omega, by omega⟩
  have cs : ∀ x q, F'.pages x = some q → x = a ∨ (F.pages x = some q ∧ x ≠ a ∧ x ≠ b ∧ x ≠ above ∧ x ≤ F.last ∧ (joinG g a b).lo x = g.lo x ∧ (joinG g a b).hi x = g.hi x ∧ (joinG g a b).lv x = g.lv x) := fun x q hq => by
    by_cases hx : movedS above a b x
    · rcases hx with h | h | h
      · exact .inl h
      · subst h; rw [e2] at hq; cases hq
      · subst h; rw [e3] at hq; cases hq
    · have hx0 : F.pages x = some q := by rw [← O.pg x hx]; exact hq
      exact .inr ⟨hx0, fun z => hx (.inl z), fun z => hx (.inr (.inl z)), fun z => hx (.inr (.inr z)), T.last _ _ hx0, O.lo x hx, O.hi x hx, O.lv x hx⟩
  refine ⟨⟨?_, O, fun k => join_has T P O e1 e2 (fun p hp => by rw [e3] at hp; cases hp) hqk hr k, hlast⟩, hroot, e3, e2, _, e1, hq2, hqk⟩
  generalize joinG g a b = g' at *
  refine T.upd O (by rw [hlast]; omega) (.inr (.inr (.inr hr0.symm))) (by rw [hroot]; exact ⟨_, e1⟩) (by rw [hroot]; omega) (by rw [hroot]; omega) (fun x q hx hq => ?_) (fun c x q hc hx hcx hs => ?_) (fun y x q hm hx0 hv hn hs => ?_) (fun x y q q' hx0 hx hy ne e => ?_) (fun x q hq => ?_)
  · rw [hlast]
    rcases hx with h | h | h
    · subst h
      rw [e1] at hq
      cases hq
      exact ⟨Pa, T.last _ _ ha⟩
    · subst h
      rw [e2] at hq
      cases hq
    · subst h
      rw [e3] at hq
      cases hq
  · rcases hc with h | h | h
    · subst h
      exact absurd (T.parent hx hu hcx P.ma) fun w => hs (.inr (.inr w))
    · subst h
      exact absurd (T.parent hx hu hcx P.mb) fun w => hs (.inr (.inr w))
    · exact absurd (h.trans hr0) (T.kid_ne_root hx hcx)
  · have hN := ((T.page _ _ hx0).leaf hv).2.2
    rw [hn] at hN
    obtain ⟨⟨z, h1⟩, h2, h3'⟩ := hN
    rcases hm with h | h | h
    · subst h
      exact ⟨⟨_, e1⟩, by omega, by omega⟩
    · subst h
      exact absurd (T.same_hi hx0 ha (by omega) (by omega)) fun w => hs (.inl w)
    · subst h; omega
  · rcases cs x q hx with h | h <;> rcases cs y q' hy with h' | h' <;> first
      | (exfalso; omega)
      | skip
    · subst h
      have := T.dis x y p1 q' ha h'.1 (Ne.symm h'.2.1) (by omega)
      have := T.dis b y p2 q' hb h'.1 (Ne.symm h'.2.2.1) (by omega)
      have := (T.page _ _ h'.1).ne
      omega
    · subst h'
      have := T.dis x y q p1 h.1 ha h.2.1 (by omega)
      have := T.dis x b q p2 h.1 hb h.2.2.1 (by omega)
      have := (T.page _ _ h.1).ne
      omega
    · have := T.dis x y q q' h.1 h'.1 ne (by omega)
      omega
  · rw [hroot]
    rcases cs x q hq with h | h
    · exact .inl h
    · have h1 := (T.top _ _ h.1).resolve_left (fun w => h.2.2.2.1 (w.trans hr0.symm))
      rw [← hr0] at h1
      by_cases e : g.lv x = g.lv a
      · have := T.dis x a q p1 h.1 ha h.2.1 (by omega)
        have := T.dis x b q p2 h.1 hb h.2.2.1 (by omega)
        have := (T.page _ _ h.1).ne
        have := (T.page _ _ h.1).low
        have := (T.page _ _ h.1).high
        exfalso; omega
      · exact .inr (by omega)
end

/-! ### the hands' shapes -/
def Inn (g : Gh) (p k : Int) : Prop := g.lo p ≤ k ∧ k < g.hi p
def Top (F : Fo) (pre : List Int) (p : Int) : Prop := pre = [] ∨ (pre = [0] ∧ p = F.root)
def Adj (left : Bool) (cs : List Int) (a b : Int) : Prop := cs.idxOf a + 1 = cs.idxOf b ∨ (left = false ∧ cs.idxOf b + 1 = cs.idxOf a)
def Two (pre : List Int) (u c : Pg) : Deed → Prop
  | .put _ => u.row.length ≤ 2 ∨ c.row.length ≤ 2
  | .take _ => pre = [0] ∨ 2 ≤ u.row.length ∨ 2 ≤ c.row.length
  | _ => True
def One (pre : List Int) (u : Pg) : Deed → Prop
  | .put _ => u.row.length ≤ 2
  | .take _ => pre = [0] ∨ 2 ≤ u.row.length
  | _ => True
def needs (c : Pg) : Deed → Nat
  | .put _ => if c.row.length = 3 then 10 else 0
  | .take _ => if c.row.length = 1 then 10 else 0
  | _ => 0
/-- leaves one behind another -/
def Leafs (F : Fo) : List Int → Prop
  | [] => False
  | [l] => ∃ q, F.pages l = some q ∧ q.kids = []
  | l :: m :: r => (∃ q, F.pages l = some q ∧ q.kids = [] ∧ q.nxt = some m) ∧ Leafs F (m :: r)
/-- what a hand holds and wants in a deed, with a bound of its further steps -/
inductive Sh (F : Fo) (g : Gh) (left : Bool) (d : Deed) (al : Int → Prop) : List Int → Option Int → Option Int → Nat → Prop
  | idle : Sh F g left d al [] none none 900
  | begins : Sh F g left d al [] (some 0) none 899
  | gate : Sh F g left d al [0] none none 898
  | gateW {r : Int} : r = F.root → Sh F g left d al [0] (some r) none 897
  | one {r : Int} : r = F.root → Sh F g left d al [0, r] none none (20 * g.lv r + 262)
  | oneW {pre : List Int} {p c : Int} {u : Pg} (t : Top F pre p) (hu : F.pages p = some u) (hc : c ∈ u.kids) (hi : Inn g c d.key) (ok : One pre u d) : Sh F g left d al (pre ++ [p]) (some c) none (20 * g.lv p + 255)
  | two {pre : List Int} {p c : Int} {u q : Pg} (t : Top F pre p) (hu : F.pages p = some u) (hc : c ∈ u.kids) (hq : F.pages c = some q) (hi : Inn g c d.key) (ok : Two pre u q d) : Sh F g left d al (pre ++ [p, c]) none none (20 * g.lv p + 240 + needs q d)
  | nb {pre : List Int} {p c n k : Int} {u q : Pg} (t : Top F pre p) (hu : F.pages p = some u) (hc : c ∈ u.kids) (hn : n ∈ u.kids) (hq : F.pages c = some q) (h1 : q.row.length = 1) (hi : Inn g c k) (hd : d = .take k) (ok : pre = [0] ∨ 2 ≤ u.row.length) (adj : Adj left u.kids c n) :
      Sh F g left d al (pre ++ [p, c]) (some n) none (20 * g.lv p + 249)
  | nbA {pre : List Int} {p c n k : Int} {u q : Pg} (t : Top F pre p) (hu : F.pages p = some u) (hc : c ∈ u.kids) (hn : n ∈ u.kids) (hq : F.pages c = some q) (h1 : q.row.length = 1) (hi : Inn g c k) (hd : d = .take k) (ok : pre = [0] ∨ 2 ≤ u.row.length) (hl : left = true) (adj : u.kids.idxOf n + 1 = u.kids.idxOf c) (hal : al c) :
      Sh F g left d al (pre ++ [p]) (some n) (some c) (20 * g.lv p + 249)
  | nbB {pre : List Int} {p c n k : Int} {u q : Pg} (t : Top F pre p) (hu : F.pages p = some u) (hc : c ∈ u.kids) (hn : n ∈ u.kids) (hq : F.pages c = some q) (h1 : q.row.length = 1) (hi : Inn g c k) (hd : d = .take k) (ok : pre = [0] ∨ 2 ≤ u.row.length) (hl : left = true) (adj : u.kids.idxOf n + 1 = u.kids.idxOf c) (hal : al c) :
      Sh F g left d al (pre ++ [p, n]) (some c) none (20 * g.lv p + 248)
  | three {pre : List Int} {p a b c k : Int} {u q : Pg} (t : Top F pre p) (hu : F.pages p = some u) (ma : a ∈ u.kids) (mb : b ∈ u.kids) (hc : c = a ∨ c = b) (hq : F.pages c = some q) (h1 : q.row.length = 1) (hi : Inn g c k) (hd : d = .take k) (ok : pre = [0] ∨ 2 ≤ u.row.length) (adj : Adj left u.kids a b) :
      Sh F g left d al (pre ++ [p, a, b]) none none (20 * g.lv p + 246)
  | leafs {l : Int} {ls : List Int} {lo hi : Int} (hd : d = .walk lo hi) (ch : Leafs F (l :: ls)) (h0 : g.lo l ≤ lo) : Sh F g left d al (l :: ls) none none (2 * (100 - g.hi ((l :: ls).getLastD 0)).toNat + 1)
  | leafsW {l : Int} {ls : List Int} {lo hi n : Int} {q : Pg} (hd : d = .walk lo hi) (ch : Leafs F (l :: ls)) (h0 : g.lo l ≤ lo) (hq : F.pages ((l :: ls).getLastD 0) = some q) (hn : q.nxt = some n) : Sh F g left d al (l :: ls) (some n) none (2 * (100 - g.hi ((l :: ls).getLastD 0)).toNat)
theorem Chain.same {f f' : Int → Option Pg} {g g' : Gh} {v : Nat} : ∀ {r cs : List Int} {lo hi : Int}, Chain (Kid f g v) lo r cs hi → Chain (Kid f' g' v) lo r cs hi → ∀ c ∈ cs, g'.lo c = g.lo c ∧ g'.hi c = g.hi c ∧ g'.lv c = g.lv c
  | [], [c], _, _, h, h', d, hd => by
    have : d = c := by simpa using hd
    subst this
    obtain ⟨_, a1, a2, a3, _⟩ := h
    obtain ⟨_, b1, b2, b3, _⟩ := h'
    exact ⟨by omega, by omega, by omega⟩
  | k :: r, c :: cs, _, _, h, h', d, hd => by
    rcases List.mem_cons.mp hd with w | w
    · subst w
      obtain ⟨_, a1, a2, a3, _⟩ := h.1
      obtain ⟨_, b1, b2, b3, _⟩ := h'.1
      exact ⟨by omega, by omega, by omega⟩
    · exact Chain.same h.2 h'.2 d w
  | [], [], _, _, h, _, _, _ => h.elim
  | [], _ :: _ :: _, _, _, h, _, _, _ => h.elim
  | _ :: _, [], _, _, h, _, _, _ => h.elim
/-- a page as it was, with its ghosts -/
structure Asw (F F' : Fo) (g g' : Gh) (p : Int) : Prop where
  pg : F'.pages p = F.pages p
  lo : g'.lo p = g.lo p
  hi : g'.hi p = g.hi p
  lv : g'.lv p = g.lv p
theorem kids_same {F F' : Fo} {g g' : Gh} (T : FoOk F g) (T' : FoOk F' g') {p : Int} {u : Pg} (hu : F.pages p = some u) (s : Asw F F' g g' p) {c : Int} (hc : c ∈ u.kids) : g'.lo c = g.lo c ∧ g'.hi c = g.hi c ∧ g'.lv c = g.lv c := by
  obtain ⟨_, _, h, _⟩ := T.kid hu hc
  have hu' : F'.pages p = some u := by rw [s.pg]; exact hu
  obtain ⟨_, _, h', _⟩ := T'.kid hu' hc
  have hl := s.lv
  obtain ⟨_, _, ch⟩ := (T.page _ _ hu).inner (v := g.lv c) (by omega)
  obtain ⟨_, _, ch'⟩ := (T'.page _ _ hu').inner (v := g.lv c) (by omega)
  rw [s.lo, s.hi] at ch'
  exact ch.same ch' c hc
theorem Leafs.frame {F F' : Fo} : ∀ {ls : List Int}, Leafs F ls → (∀ p ∈ ls, F'.pages p = F.pages p) → Leafs F' ls
  | [], h, _ => h
  | [l], ⟨q, h1, h2⟩, e => ⟨q, by rw [e l (by simp)]; exact h1, h2⟩
  | l :: m :: r, ⟨⟨q, h1, h2, h3⟩, h⟩, e => ⟨⟨q, by rw [e l (by simp)]; exact h1, h2, h3⟩, Leafs.frame h fun p hp => e p (by simp at hp ⊢; exact .inr hp)⟩
theorem Leafs.pages {F : Fo} : ∀ {ls : List Int}, Leafs F ls → ∀ p ∈ ls, ∃ q, F.pages p = some q ∧ q.kids = []
  | [], h, _, _ => h.elim
  | [l], ⟨q, h1, h2⟩, p, hp => by
    have : p = l := by simpa using hp
    subst this
    exact ⟨q, h1, h2⟩
  | l :: m :: r, ⟨⟨q, h1, h2, h3⟩, h⟩, p, hp => by
    rcases List.mem_cons.mp hp with w | w
    · subst w; exact ⟨q, h1, h2⟩
    · exact Leafs.pages h p w
theorem Leafs.snoc {F : Fo} {n : Int} {q : Pg} (hq : F.pages n = some q) (hk : q.kids = []) : ∀ {ls : List Int}, Leafs F ls → (∃ p, F.pages (ls.getLastD 0) = some p ∧ p.nxt = some n) → Leafs F (ls ++ [n])
  | [], h, _ => h.elim
  | [l], ⟨p, h1, h2⟩, ⟨p', e1, e2⟩ => by
    have e1' : F.pages l = some p' := e1
    rw [h1] at e1'
    cases e1'
    exact ⟨⟨p, h1, h2, e2⟩, ⟨q, hq, hk⟩⟩
  | l :: m :: r, ⟨h1, h⟩, e => ⟨h1, Leafs.snoc hq hk h (by simpa [List.getLastD] using e)⟩
theorem lastD_mem {l : Int} {ls : List Int} : (l :: ls).getLastD 0 ∈ l :: ls := last_mem (by simp)
/-- each page that is held is there -/
theorem Sh.held {F : Fo} {g : Gh} {left : Bool} {d : Deed} {al : Int → Prop} {held : List Int} {want again : Option Int} {k : Nat} (T : FoOk F g) (s : Sh F g left d al held want again k) : ∀ p ∈ held, p = 0 ∨ ∃ q, F.pages p = some q := by
  have tp : ∀ {pre : List Int} {p : Int}, Top F pre p → ∀ x ∈ pre, x = 0 := fun {pre p} t x hx => by
    rcases t with t | ⟨t, _⟩
    · rw [t] at hx; simp at hx
    · rw [t] at hx; simpa using hx
  have kd : ∀ {p c : Int} {u : Pg}, F.pages p = some u → c ∈ u.kids → ∃ q, F.pages c = some q := fun {p c u} hu hc => by
    obtain ⟨q, h, _⟩ := T.kid hu hc
    exact ⟨q, h⟩
  intro x hx
  cases s with
  | idle => simp at hx
  | begins => simp at hx
  | gate => left; simpa using hx
  | gateW _ => left; simpa using hx
  | one hr =>
    rcases List.mem_cons.mp hx with w | w
    · exact .inl w
    · right
      rw [List.mem_singleton.mp w, hr]
      exact T.rt
  | oneW t hu hc hi ok =>
    rcases List.mem_append.mp hx with w | w
    · exact .inl (tp t x w)
    · rw [List.mem_singleton.mp w]; exact .inr ⟨_, hu⟩
  | two t hu hc hq hi ok =>
    rcases List.mem_append.mp hx with w | w
    · exact .inl (tp t x w)
    · rcases List.mem_cons.mp w with w | w
      · rw [w]; exact .inr ⟨_, hu⟩
      · rw [List.mem_singleton.mp w]; exact .inr ⟨_, hq⟩
  | nb t hu hc hn hq h1 hi hd ok adj =>
    rcases List.mem_append.mp hx with w | w
    · exact .inl (tp t x w)
    · rcases List.mem_cons.mp w with w | w
      · rw [w]; exact .inr ⟨_, hu⟩
      · rw [List.mem_singleton.mp w]; exact .inr ⟨_, hq⟩
  | nbA t hu hc hn hq h1 hi hd ok hl adj hal =>
    rcases List.mem_append.mp hx with w | w
    · exact .inl (tp t x w)
    · rw [List.mem_singleton.mp w]; exact .inr ⟨_, hu⟩
  | nbB t hu hc hn hq h1 hi hd ok hl adj hal =>
    rcases List.mem_append.mp hx with w | w
    · exact .inl (tp t x w)
    · rcases List.mem_cons.mp w with w | w
      · rw [w]; exact .inr ⟨_, hu⟩
      · rw [List.mem_singleton.mp w]; exact .inr (kd hu hn)
  | three t hu ma mb hc hq h1 hi hd ok adj =>
    rcases List.mem_append.mp hx with w | w
    · exact .inl (tp t x w)
    · rcases List.mem_cons.mp w with w | w
      · rw [w]; exact .inr ⟨_, hu⟩
      · rcases List.mem_cons.mp w with w | w
        · rw [w]; exact .inr (kd hu ma)
        · rw [List.mem_singleton.mp w]; exact .inr (kd hu mb)
  | leafs hd ch h0 =>
    obtain ⟨q, h, _⟩ := ch.pages x hx
    exact .inr ⟨q, h⟩
  | leafsW hd ch h0 hq hn =>
    obtain ⟨q, h, _⟩ := ch.pages x hx
    exact .inr ⟨q, h⟩
/-- another hand's step leaves the shape -/
theorem Sh.frame {F F' : Fo} {g g' : Gh} {left : Bool} {d : Deed} {al al' : Int → Prop} {held : List Int} {want again : Option Int} {k : Nat} (T : FoOk F g) (T' : FoOk F' g') (s : Sh F g left d al held want again k)
    (hp : ∀ p ∈ held, (∃ q, F.pages p = some q) → Asw F F' g g' p) (hr : 0 ∈ held → F'.root = F.root) (ha : ∀ c p u, p ∈ held → F.pages p = some u → c ∈ u.kids → al c → al' c) (hc' : ∀ c q, al c → F.pages c = some q → F'.pages c = F.pages c) : Sh F' g' left d al' held want again k := by
  have tp : ∀ {pre rest : List Int} {p : Int}, (0 ∈ pre ++ rest → F'.root = F.root) → Top F pre p → Top F' pre p := fun {pre rest p} h t => by
    rcases t with t | ⟨t, e⟩
    · exact .inl t
    · exact .inr ⟨t, by rw [h (by rw [t]; simp)]; exact e⟩
  have inn : ∀ {p c k : Int} {u : Pg}, F.pages p = some u → Asw F F' g g' p → c ∈ u.kids → Inn g c k → Inn g' c k := fun {p c k u} hu a hc h => by
    obtain ⟨e1, e2, _⟩ := kids_same T T' hu a hc
    exact ⟨by rw [e1]; exact h.1, by rw [e2]; exact h.2⟩
  cases s with
  | idle => exact .idle
  | begins => exact .begins
  | gate => exact .gate
  | gateW e => exact .gateW (by rw [hr (by simp)]; exact e)
  | @one r e =>
    have := hp r (by simp) (by rw [e]; exact T.rt)
    rw [← this.lv]
    exact .one (by rw [hr (by simp)]; exact e)
  | oneW t hu hc hi ok =>
    have a := hp _ (by simp) ⟨_, hu⟩
    rw [← a.lv]
    exact .oneW (tp hr t) (by rw [a.pg]; exact hu) hc (inn hu a hc hi) ok
  | two t hu hc hq hi ok =>
    have a := hp _ (by simp) ⟨_, hu⟩
    have b := hp _ (by simp) ⟨_, hq⟩
    rw [← a.lv]
    exact .two (tp hr t) (by rw [a.pg]; exact hu) hc (by rw [b.pg]; exact hq) (inn hu a hc hi) ok
  | nb t hu hc hn hq h1 hi hd ok adj =>
    have a := hp _ (by simp) ⟨_, hu⟩
    have b := hp _ (by simp) ⟨_, hq⟩
    rw [← a.lv]
    exact .nb (tp hr t) (by rw [a.pg]; exact hu) hc hn (by rw [b.pg]; exact hq) h1 (inn hu a hc hi) hd ok adj
  | nbA t hu hc hn hq h1 hi hd ok hl adj hal =>
    have a := hp _ (by simp) ⟨_, hu⟩
    rw [← a.lv]
    exact .nbA (tp hr t) (by rw [a.pg]; exact hu) hc hn (by rw [hc' _ _ hal hq]; exact hq) h1 (inn hu a hc hi) hd ok hl adj (ha _ _ _ (by simp) hu hc hal)
  | nbB t hu hc hn hq h1 hi hd ok hl adj hal =>
    have a := hp _ (by simp) ⟨_, hu⟩
    rw [← a.lv]
    exact .nbB (tp hr t) (by rw [a.pg]; exact hu) hc hn (by rw [hc' _ _ hal hq]; exact hq) h1 (inn hu a hc hi) hd ok hl adj (ha _ _ _ (by simp) hu hc hal)
  | @three pre p a b c k u q t hu ma mb hc hq h1 hi hd ok adj =>
    have w := hp _ (by simp) ⟨_, hu⟩
    have z := hp c (by rcases hc with e | e <;> rw [e] <;> simp) ⟨_, hq⟩
    rw [← w.lv]
    refine .three (tp hr t) (by rw [w.pg]; exact hu) ma mb hc (by rw [z.pg]; exact hq) h1 (inn hu w ?_ hi) hd ok adj
    rcases hc with e | e <;> rw [e] <;> assumption
  | @leafs l ls lo hi hd ch h0 =>
    have a := hp l (by simp) (by obtain ⟨q, h, _⟩ := ch.pages l (by simp); exact ⟨q, h⟩)
    have b := hp _ lastD_mem (by obtain ⟨q, h, _⟩ := ch.pages _ lastD_mem; exact ⟨q, h⟩)
    rw [← b.hi]
    exact .leafs hd (ch.frame fun p hm => (hp p hm (by obtain ⟨q, h, _⟩ := ch.pages p hm; exact ⟨q, h⟩)).pg) (by rw [a.lo]; exact h0)
  | @leafsW l ls lo hi n q hd ch h0 hq hn =>
    have a := hp l (by simp) (by obtain ⟨q, h, _⟩ := ch.pages l (by simp); exact ⟨q, h⟩)
    have b := hp _ lastD_mem ⟨_, hq⟩
    rw [← b.hi]
    exact .leafsW hd (ch.frame fun p hm => (hp p hm (by obtain ⟨q, h, _⟩ := ch.pages p hm; exact ⟨q, h⟩)).pg) (by rw [a.lo]; exact h0) (by rw [b.pg]; exact hq) hn

/-! ### the machine's invariant -/
def DeedOk (d : Deed) : Prop := 0 ≤ d.key ∧ d.key ≤ 99 ∧ ∀ lo hi, d = .walk lo hi → lo ≤ hi ∧ hi ≤ 99
def isWalk (d : Deed) : Prop := ∃ lo hi, d = .walk lo hi
def al (M : Mc) (i : Nat) (c : Int) : Prop := ∀ j, j < M.n → j ≠ i → c ∈ (M.ha j).held → isWalk (M.deed j)
structure HandOk (M : Mc) (g : Gh) (h : Nat) (m : Nat) : Prop where
  le : (M.ha h).at_ ≤ (M.ha h).prog.length
  rest : (M.ha h).at_ = (M.ha h).prog.length → (M.ha h).held = [] ∧ (M.ha h).want = none ∧ (M.ha h).again = none ∧ m = 0
  go : (M.ha h).at_ < (M.ha h).prog.length → ∃ k, m = 1000 * ((M.ha h).prog.length - (M.ha h).at_ - 1) + k ∧ k ≤ 900 ∧ Sh M.fo g M.left (M.deed h) (al M h) (M.ha h).held (M.ha h).want (M.ha h).again k
def sumN (n : Nat) (f : Nat → Nat) : Nat := ((List.range n).map f).sum
theorem sumN_succ {n : Nat} {f : Nat → Nat} : sumN (n + 1) f = sumN n f + f n := by unfold sumN; rw [List.range_succ, List.map_append, List.sum_append]; simp
theorem sumN_congr : ∀ {n : Nat} {f f' : Nat → Nat}, (∀ i, i < n → f i = f' i) → sumN n f = sumN n f'
  | 0, _, _, _ => rfl
  | n + 1, f, f', h => by rw [sumN_succ, sumN_succ, sumN_congr (fun i hi => h i (by omega)), h n (by omega)]
theorem sumN_put : ∀ {n : Nat} {f : Nat → Nat} {h m : Nat}, h < n → sumN n (fun i => if i = h then m else f i) + f h = sumN n f + m
  | n + 1, f, h, m, hn => by
    rw [sumN_succ, sumN_succ]
    by_cases e : h = n
    · subst e
      rw [if_pos rfl, sumN_congr (f' := f) (fun i hi => if_neg (by omega))]
      omega
    · have := sumN_put (f := f) (m := m) (show h < n by omega)
      rw [if_neg (show ¬ n = h by omega)]
      omega
theorem sumN_le : ∀ {n : Nat} {f : Nat → Nat} {h : Nat}, h < n → f h ≤ sumN n f
  | n + 1, f, h, hn => by
    rw [sumN_succ]
    by_cases e : h = n
    · subst e; omega
    · have := sumN_le (f := f) (show h < n by omega); omega
structure INV (M : Mc) (g : Gh) (mu : Nat → Nat) : Prop where
  tree : FoOk M.fo g
  last0 : 0 ≤ M.fo.last
  bound : M.fo.last + 2 * (sumN M.n mu : Nat) ≤ 700000
  lks : ∀ p h, M.locks p = some h ↔ h < M.n ∧ p ∈ (M.ha h).held
  nd : ∀ h, h < M.n → (M.ha h).held.Nodup
  hand : ∀ h, h < M.n → HandOk M g h (mu h)
  deeds : ∀ h, h < M.n → ∀ d ∈ (M.ha h).prog, DeedOk d
  said : ∀ h, h < M.n → (M.ha h).said.length = (M.ha h).at_
  plen : ∀ h, h < M.n → (M.ha h).prog.length ≤ 40
  ends : M.ends.length = sumN M.n fun h => (M.ha h).at_
  n4 : M.n ≤ 4
theorem deed_mem {M : Mc} {h : Nat} (e : (M.ha h).at_ < (M.ha h).prog.length) : (M.ha h).prog[(M.ha h).at_]? = some (M.deed h) ∧ M.deed h ∈ (M.ha h).prog := by
  have e1 : (M.ha h).prog[(M.ha h).at_]? = some (M.ha h).prog[(M.ha h).at_] := List.getElem?_eq_getElem e
  have e2 : M.deed h = (M.ha h).prog[(M.ha h).at_] := by unfold Mc.deed; rw [List.getD_eq_getElem?_getD, e1]; rfl
  rw [e2]
  exact ⟨e1, List.getElem_mem e⟩
/-- one page has one hand -/
theorem INV.one {M : Mc} {g : Gh} {mu : Nat → Nat} (I : INV M g mu) {p : Int} {i j : Nat} (hi : i < M.n) (hj : j < M.n) (h1 : p ∈ (M.ha i).held) (h2 : p ∈ (M.ha j).held) : i = j := by
  have a := (I.lks p i).mpr ⟨hi, h1⟩
  have b := (I.lks p j).mpr ⟨hj, h2⟩
  rw [a] at b
  exact Option.some.inj b
/-- what a step does to its hand -/
structure Eff (M M' : Mc) (h : Nat) : Prop where
  left : M'.left = M.left
  n : M'.n = M.n
  oth : ∀ j, j ≠ h → M'.ha j = M.ha j
  prog : (M'.ha h).prog = (M.ha h).prog
  lks : ∀ p, M'.locks p = if p ∈ (M'.ha h).held then some h else if p ∈ (M.ha h).held then none else M.locks p
/-- whether a deed ended by the step -/
def Went (M M' : Mc) (h : Nat) : Prop := ((M'.ha h).at_ = (M.ha h).at_ ∧ (M'.ha h).said = (M.ha h).said ∧ M'.ends = M.ends) ∨
  ∃ a, (M'.ha h).at_ = (M.ha h).at_ + 1 ∧ (M'.ha h).said = (M.ha h).said ++ [a] ∧ M'.ends = M.ends ++ [(h, (M.ha h).at_)]
/-- who wants the kid of a page that another one has: a walker -/
theorem INV.wants_walk {M : Mc} {g : Gh} {mu : Nat → Nat} (I : INV M g mu) {i h : Nat} (hi : i < M.n) (hh : h < M.n) (ne : h ≠ i) {p c : Int} {u : Pg} (hp : p ∈ (M.ha i).held) (hu : M.fo.pages p = some u) (hc : c ∈ u.kids) (hw : (M.ha h).want = some c) : isWalk (M.deed h) := by
  have T := I.tree
  have H := I.hand h hh
  have lt : (M.ha h).at_ < (M.ha h).prog.length := by
    rcases Nat.lt_or_ge (M.ha h).at_ (M.ha h).prog.length with w | w
    · exact w
    · have := (H.rest (Nat.le_antisymm H.le w)).2.1
      rw [hw] at this
      cases this
  obtain ⟨k, _, _, s⟩ := H.go lt
  have no : ∀ {p' : Int} {u' : Pg}, p' ∈ (M.ha h).held → M.fo.pages p' = some u' → c ∈ u'.kids → False := fun {p' u'} h1 h2 h3 => by
    have := T.parent h2 hu h3 hc
    rw [this] at h1
    exact ne (I.one hh hi h1 hp)
  obtain ⟨qc, hqc, _⟩ := T.kid hu hc
  have pos := (T.page _ _ hqc).pos
  generalize hhe : (M.ha h).held = held at *
  generalize hag : (M.ha h).again = again at *
  rw [hw] at s
  cases s with
  | begins => omega
  | gateW e => exact absurd e (T.kid_ne_root hu hc)
  | oneW t hu' hc' hi ok => exact (no (by simp) hu' hc').elim
  | nb t hu' hc' hn hq h1 hi hd ok adj => exact (no (by simp) hu' hn).elim
  | nbA t hu' hc' hn hq h1 hi hd ok hl adj hal => exact (no (by simp) hu' hn).elim
  | nbB t hu' hc' hn hq h1 hi hd ok hl adj hal => exact (no (by simp) hu' hc').elim
  | leafsW hd ch h0 hq hn => exact ⟨_, _, hd⟩
theorem INV.step {M M' : Mc} {g g' : Gh} {mu : Nat → Nat} {h m' : Nat} (I : INV M g mu) (hh : h < M.n) (E : Eff M M' h) (T' : FoOk M'.fo g') (O : Out M.fo.pages M'.fo.pages g g' (fun p => p ∈ (M.ha h).held ∨ M.fo.last < p)) (hr : 0 ∉ (M.ha h).held → M'.fo.root = M.fo.root) (hl : M.fo.last ≤ M'.fo.last)
    (hb : M'.fo.last + 2 * (m' : Nat) ≤ M.fo.last + 2 * (mu h : Nat)) (nd : (M'.ha h).held.Nodup) (hd : HandOk M' g' h m') (hw : isWalk (M.deed h) → M'.fo = M.fo) (sm : (M'.ha h).held ≠ [] → (M'.ha h).at_ = (M.ha h).at_)
    (fr : ∀ p ∈ (M'.ha h).held, p ∉ (M.ha h).held → M.locks p = none ∧ (M.fo.last < p ∨ (M.ha h).want = some p)) (wt : Went M M' h) : INV M' g' (fun i => if i = h then m' else mu i) := by
  have T := I.tree
  have held_some : ∀ i, i < M.n → ∀ p ∈ (M.ha i).held, p = 0 ∨ ∃ q, M.fo.pages p = some q := fun i hi p hp => by
    have H := I.hand i hi
    rcases Nat.lt_or_ge (M.ha i).at_ (M.ha i).prog.length with w | w
    · obtain ⟨k, _, _, s⟩ := H.go w
      exact s.held T p hp
    · have := (H.rest (Nat.le_antisymm H.le w)).1
      rw [this] at hp
      simp at hp
  have deed' : (M'.ha h).held ≠ [] → M'.deed h = M.deed h := fun z => by unfold Mc.deed; rw [sm z, E.prog]
  have deedo : ∀ j, j ≠ h → M'.deed j = M.deed j := fun j hj => by unfold Mc.deed; rw [E.oth j hj]
  refine ⟨T', by have := I.last0; omega, ?_, fun p j => ?_, fun j hj => ?_, fun j hj => ?_, fun j hj => ?_, fun j hj => ?_, fun j hj => ?_, ?_, by rw [E.n]; exact I.n4⟩
  · have := I.bound
    have e := sumN_put (f := mu) (m := m') hh
    rw [E.n]
    omega
  · rw [E.lks, E.n]
    by_cases h1 : p ∈ (M'.ha h).held
    · rw [if_pos h1]
      constructor
      · intro z
        cases z
        exact ⟨hh, h1⟩
      · rintro ⟨hj, hp⟩
        by_cases e : j = h
        · rw [e]
        · rw [E.oth j e] at hp
          by_cases h2 : p ∈ (M.ha h).held
          · exact absurd (I.one hj hh hp h2) e
          · have := (fr p h1 h2).1
            rw [(I.lks p j).mpr ⟨hj, hp⟩] at this
            cases this
    · rw [if_neg h1]
      by_cases h2 : p ∈ (M.ha h).held
      · rw [if_pos h2]
        constructor
        · intro z; cases z
        · rintro ⟨hj, hp⟩
          by_cases e : j = h
          · rw [e] at hp; exact absurd hp h1
          · rw [E.oth j e] at hp
            exact absurd (I.one hj hh hp h2) e
      · rw [if_neg h2, I.lks p j]
        by_cases e : j = h
        · rw [e]
          exact ⟨fun z => absurd z.2 h2, fun z => absurd z.2 h1⟩
        · rw [E.oth j e]
  · rw [E.n] at hj
    by_cases e : j = h
    · rw [e]; exact nd
    · rw [E.oth j e]; exact I.nd j hj
  · rw [E.n] at hj
    show HandOk M' g' j (if j = h then m' else mu j)
    by_cases e : j = h
    · rw [if_pos e, e]; exact hd
    · rw [if_neg e]
      have H := I.hand j hj
      have ej := E.oth j e
      refine ⟨by rw [ej]; exact H.le, fun z => by rw [ej] at z ⊢; exact H.rest z, fun z => ?_⟩
      rw [ej] at z ⊢
      obtain ⟨k, hk1, hk2, s⟩ := H.go z
      refine ⟨k, hk1, hk2, ?_⟩
      rw [deedo j e, E.left]
      have out : ∀ p ∈ (M.ha j).held, ¬ ((p ∈ (M.ha h).held ∨ M.fo.last < p) ∧ ∃ q, M.fo.pages p = some q) := fun p hp z => by
        obtain ⟨z1 | z1, q, hq⟩ := z
        · exact e (I.one hj hh hp z1)
        · have := T.last _ _ hq; omega
      refine s.frame T T' (fun p hp hq => ?_) (fun h0 => hr fun z => e (I.one hj hh h0 z)) (fun c p u hp hu hc ha j' hj' hne hcj => ?_) (fun c q ha hq => ?_)
      · have : ¬ (p ∈ (M.ha h).held ∨ M.fo.last < p) := fun z => out p hp ⟨z, hq⟩
        exact ⟨O.pg p this, O.lo p this, O.hi p this, O.lv p this⟩
      · rw [E.n] at hj'
        by_cases e' : j' = h
        · rw [e'] at hcj ⊢
          have hne' : (M'.ha h).held ≠ [] := fun w => by rw [w] at hcj; simp at hcj
          rw [deed' hne']
          by_cases hco : c ∈ (M.ha h).held
          · exact ha h hh (Ne.symm e) hco
          · obtain ⟨_, w | w⟩ := fr c hcj hco
            · obtain ⟨q, hq, _⟩ := T.kid hu hc
              have := T.last _ _ hq
              omega
            · exact I.wants_walk hj hh (Ne.symm e) hp hu hc w
        · rw [deedo j' e']
          rw [E.oth j' e'] at hcj
          exact ha j' hj' hne hcj
      · by_cases hco : c ∈ (M.ha h).held
        · rw [hw (ha h hh (Ne.symm e) hco)]
        · exact O.pg c fun z => by
            rcases z with z | z
            · exact hco z
            · have := T.last _ _ hq; omega
  · rw [E.n] at hj
    by_cases e : j = h
    · rw [e, E.prog]; exact I.deeds h hh
    · rw [E.oth j e]; exact I.deeds j hj
  · rw [E.n] at hj
    by_cases e : j = h
    · rw [e]
      have := I.said h hh
      rcases wt with ⟨w1, w2, _⟩ | ⟨a, w1, w2, _⟩
      · rw [w1, w2]; exact this
      · rw [w1, w2, List.length_append, this]; rfl
    · rw [E.oth j e]; exact I.said j hj
  · rw [E.n] at hj
    by_cases e : j = h
    · rw [e, E.prog]; exact I.plen h hh
    · rw [E.oth j e]; exact I.plen j hj
  · have e0 : ∀ x, (M'.ha h).at_ = x → sumN M'.n (fun i => (M'.ha i).at_) + (M.ha h).at_ = sumN M.n (fun i => (M.ha i).at_) + x := fun x hx => by
      rw [E.n, sumN_congr (f' := fun i => if i = h then x else (M.ha i).at_) (fun i hi => by
        by_cases e : i = h
        · rw [if_pos e, e]; exact hx
        · rw [if_neg e, E.oth i e])]
      exact sumN_put (f := fun i => (M.ha i).at_) hh
    have := I.ends
    rcases wt with ⟨w1, _, w3⟩ | ⟨a, w1, _, w3⟩
    · have := e0 _ w1
      rw [w3]; omega
    · have := e0 _ w1
      rw [w3, List.length_append]
      simp only [List.length_cons, List.length_nil]
      omega

/-! ### what the hand's own step makes of a machine -/
def Mc.to (M : Mc) (h : Nat) (F : Fo) (x : Ha) (e : List (Nat × Nat)) : Mc :=
  { M with fo := F, ha := fun i => if i = h then x else M.ha i, locks := fun p => if p ∈ x.held then some h else if p ∈ (M.ha h).held then none else M.locks p, ends := e }
theorem to_ha {M : Mc} {h : Nat} {F : Fo} {x : Ha} {e : List (Nat × Nat)} : (M.to h F x e).ha h = x := if_pos rfl
theorem to_eff {M : Mc} {h : Nat} {F : Fo} {x : Ha} {e : List (Nat × Nat)} (hp : x.prog = (M.ha h).prog) : Eff M (M.to h F x e) h :=
  ⟨rfl, rfl, fun _ hj => if_neg hj, by rw [to_ha]; exact hp, fun p => by rw [to_ha]; rfl⟩
theorem ha_eta {M : Mc} {h : Nat} : (fun i => if i = h then M.ha h else M.ha i) = M.ha := funext fun i => by
  by_cases e : i = h
  · rw [if_pos e, e]
  · rw [if_neg e]
theorem setHa_eq {M : Mc} {h : Nat} {x y : Ha} : (fun i => if i = h then x else if i = h then y else M.ha i) = fun i => if i = h then x else M.ha i := funext fun i => by
  by_cases e : i = h
  · rw [if_pos e, if_pos e]
  · rw [if_neg e, if_neg e, if_neg e]
/-- the hand's locks stand for what it holds -/
def Own (M : Mc) (h : Nat) : Prop := ∀ p ∈ (M.ha h).held, M.locks p = some h
theorem leave_to {M : Mc} {h : Nat} : ∀ {ps : List Int}, Own M h → (M.ha h).held.Nodup → (∀ p ∈ ps, p ∈ (M.ha h).held) → M.leave h ps = M.to h M.fo { M.ha h with held := (M.ha h).held.filter fun x => decide (x ∉ ps) } M.ends := by
  intro ps ow nd hs
  have gen : ∀ (ps : List Int) (M : Mc), (M.ha h).held.Nodup → (M.leave h ps).fo = M.fo ∧ (M.leave h ps).ends = M.ends ∧ (M.leave h ps).n = M.n ∧ (M.leave h ps).left = M.left ∧ (M.leave h ps).ha = (fun i => if i = h then { M.ha h with held := (M.ha h).held.filter fun x => decide (x ∉ ps) } else M.ha i) ∧ (M.leave h ps).locks = fun p => if p ∈ ps then none else M.locks p := by
    intro ps
    induction ps with
    | nil =>
      intro M _
      refine ⟨rfl, rfl, rfl, rfl, ?_, ?_⟩
      · have : (M.ha h).held.filter (fun x => decide (x ∉ ([] : List Int))) = (M.ha h).held := List.filter_eq_self.mpr (by simp)
        rw [this]
        exact ha_eta.symm
      · funext p
        simp [Mc.leave]
    | cons q r ih =>
      intro M nd
      have e : M.leave h (q :: r) = (M.leave1 h q).leave h r := rfl
      have eh : (M.leave1 h q).ha h = { M.ha h with held := (M.ha h).held.erase q } := if_pos rfl
      obtain ⟨a1, a2, a3, a4, a5, a6⟩ := ih (M.leave1 h q) (by rw [eh]; exact nd.erase q)
      rw [e]
      refine ⟨a1, a2, a3, a4, ?_, ?_⟩
      · rw [a5, eh]
        funext i
        by_cases z : i = h
        · rw [if_pos z, if_pos z]
          show ({ M.ha h with held := ((M.ha h).held.erase q).filter fun x => decide (x ∉ r) } : Ha) = _
          rw [nd.erase_eq_filter, List.filter_filter]
          have ef : (M.ha h).held.filter (fun a => decide (¬ a ∈ r) && a != q) = (M.ha h).held.filter fun x => decide (x ∉ q :: r) := List.filter_congr fun x _ => by
            by_cases h1 : x = q <;> by_cases h2 : x ∈ r <;> simp [h1, h2]
          rw [ef]
        · rw [if_neg z, if_neg z]
          exact if_neg z
      · rw [a6]
        funext p
        show (if p ∈ r then none else if p = q then none else M.locks p) = _
        by_cases h1 : p ∈ r <;> by_cases h2 : p = q <;> simp [h1, h2]
  obtain ⟨a1, a2, a3, a4, a5, a6⟩ := gen ps M nd
  generalize M.leave h ps = M1 at *
  obtain ⟨left, fo, locks, ends, n, ha⟩ := M1
  simp only at a1 a2 a3 a4 a5 a6
  subst a1 a2 a3 a4 a5 a6
  unfold Mc.to
  congr 1
  funext p
  simp only [List.mem_filter, decide_eq_true_eq]
  by_cases h1 : p ∈ ps
  · rw [if_pos h1, if_neg (fun z => z.2 h1), if_pos (hs p h1)]
  · rw [if_neg h1]
    by_cases h2 : p ∈ (M.ha h).held
    · rw [if_pos ⟨h2, h1⟩]; exact ow p h2
    · rw [if_neg (fun z => h2 z.1), if_neg h2]
theorem to_wants {M : Mc} {h : Nat} {F : Fo} {x : Ha} {e : List (Nat × Nat)} {p : Int} : (M.to h F x e).wants h p = M.to h F { x with want := some p } e := by
  unfold Mc.wants Mc.setHa
  rw [to_ha]
  unfold Mc.to
  simp only [setHa_eq]
theorem wants_to {M : Mc} {h : Nat} {p : Int} (ow : Own M h) : M.wants h p = M.to h M.fo { M.ha h with want := some p } M.ends := by
  unfold Mc.wants Mc.setHa Mc.to
  congr 1
  funext q
  show M.locks q = if q ∈ (M.ha h).held then some h else if q ∈ (M.ha h).held then none else M.locks q
  by_cases e : q ∈ (M.ha h).held
  · rw [if_pos e]; exact ow q e
  · rw [if_neg e, if_neg e]
theorem lock_to {M : Mc} {h : Nat} {p : Int} (ow : Own M h) : (M.lock h p).1 = M.to h M.fo { M.ha h with held := (M.ha h).held ++ [p], want := (M.ha h).again, again := none } M.ends := by
  have e0 : (M.lock h p).1 = { M with locks := fun x => if x = p then some h else M.locks x, ha := fun i => if i = h then { M.ha h with held := (M.ha h).held ++ [p], want := (M.ha h).again, again := none } else M.ha i } := rfl
  rw [e0]
  unfold Mc.to
  congr 1
  funext q
  show (if q = p then some h else M.locks q) = if q ∈ (M.ha h).held ++ [p] then some h else if q ∈ (M.ha h).held then none else M.locks q
  by_cases e : q = p
  · rw [if_pos e, if_pos (by rw [e]; simp)]
  · rw [if_neg e]
    by_cases e2 : q ∈ (M.ha h).held
    · rw [if_pos (by simp [e2])]; exact ow q e2
    · rw [if_neg (by simp [e, e2]), if_neg e2]
theorem to_own {M : Mc} {h : Nat} {F : Fo} {x : Ha} {e : List (Nat × Nat)} : Own (M.to h F x e) h := fun p hp => by
  rw [to_ha] at hp
  exact if_pos hp
theorem to_to {M : Mc} {h : Nat} {F F' : Fo} {x y : Ha} {e e' : List (Nat × Nat)} (hs : ∀ p ∈ x.held, p ∈ (M.ha h).held) : (M.to h F x e).to h F' y e' = M.to h F' y e' := by
  have hx : ((M.to h F x e).ha h) = x := to_ha
  unfold Mc.to at *
  simp only [setHa_eq, hx, Mc.mk.injEq, true_and, and_true]
  funext p
  by_cases h1 : p ∈ y.held
  · rw [if_pos h1, if_pos h1]
  · rw [if_neg h1, if_neg h1]
    rw [if_pos trivial]
    by_cases h2 : p ∈ x.held
    · rw [if_pos h2, if_pos (hs p h2)]
    · rw [if_neg h2, if_neg h2]
theorem ends_to {M : Mc} {h : Nat} {a : Ans} (ow : Own M h) (nd : (M.ha h).held.Nodup) : M.endsWith h a = (M.to h M.fo { M.ha h with held := [], said := (M.ha h).said ++ [a], at_ := (M.ha h).at_ + 1 } (M.ends ++ [(h, (M.ha h).at_)]), .ends a) := by
  have e := leave_to ow nd (ps := (M.ha h).held) fun p hp => hp
  have e0 : (M.ha h).held.filter (fun x => decide (x ∉ (M.ha h).held)) = [] := List.filter_eq_nil_iff.mpr (by simp)
  rw [e0] at e
  unfold Mc.endsWith
  simp only [e, to_ha]
  congr 1
  unfold Mc.setHa Mc.to
  simp only [setHa_eq]
theorem leaves_ends {M : Mc} {h : Nat} {ps : List Int} {a : Ans} (ow : Own M h) (nd : (M.ha h).held.Nodup) (hs : ∀ p ∈ ps, p ∈ (M.ha h).held) : (M.leave h ps).endsWith h a = (M.to h M.fo { M.ha h with held := [], said := (M.ha h).said ++ [a], at_ := (M.ha h).at_ + 1 } (M.ends ++ [(h, (M.ha h).at_)]), .ends a) := by
  rw [leave_to ow nd hs, ends_to to_own (by rw [to_ha]; exact nd.filter _)]
  rw [to_ha]
  congr 1
  exact to_to fun p hp => (List.mem_filter.mp hp).1
theorem leaves_goes {M : Mc} {h : Nat} {ps : List Int} {c : Int} (ow : Own M h) (nd : (M.ha h).held.Nodup) (hs : ∀ p ∈ ps, p ∈ (M.ha h).held) : (M.leave h ps).goes h c = (M.to h M.fo { M.ha h with held := (M.ha h).held.filter (fun x => decide (x ∉ ps)), want := some c } M.ends, .goes c) := by
  unfold Mc.goes
  rw [leave_to ow nd hs, to_wants]

/-! ### a step keeps the invariant -/
theorem Chain.width {K : Int → Int → Int → Prop} {w : Int} (hw : 0 ≤ w) (hK : ∀ c l h, K c l h → l + w ≤ h) : ∀ {r cs : List Int} {lo hi : Int}, Chain K lo r cs hi → lo + w * (cs.length : Int) ≤ hi
  | [], [c], _, _, h => by have := hK _ _ _ h; simp; omega
  | k :: r, c :: cs, lo, hi, h => by
    have a := hK _ _ _ h.1
    have b := Chain.width hw hK h.2
    have e : w * ((c :: cs).length : Int) = w * (cs.length : Int) + w := by
      rw [List.length_cons, Int.natCast_add, Int.mul_add]
      simp
    omega
  | [], [], _, _, h => h.elim
  | [], _ :: _ :: _, _, _, h => h.elim
  | _ :: _, [], _, _, h => h.elim
theorem width_ok {F : Fo} {g : Gh} (T : FoOk F g) : ∀ (v : Nat) (n : Int) (p : Pg), F.pages n = some p → g.lv n = v → g.lo n + ((2 ^ v : Nat) : Int) ≤ g.hi n
  | 0, n, p, hp, _ => by have := (T.page n p hp).ne; simp; omega
  | v + 1, n, p, hp, hv => by
    obtain ⟨h1, _, ch⟩ := (T.page n p hp).inner hv
    have ch' := ch.width (w := ((2 ^ v : Nat) : Int)) (Int.natCast_nonneg _) fun c l h k => by
      obtain ⟨⟨q, k1⟩, k2, k3, k4, _⟩ := k
      have := width_ok T v c q k1 k2
      omega
    have hl := ch.len
    have e : ((2 ^ (v + 1) : Nat) : Int) = ((2 ^ v : Nat) : Int) * 2 := by rw [Nat.pow_succ]; simp
    have e2 : ((2 ^ v : Nat) : Int) * 2 ≤ ((2 ^ v : Nat) : Int) * (p.kids.length : Int) := Int.mul_le_mul_of_nonneg_left (by omega) (Int.natCast_nonneg _)
    omega
theorem height_ok {F : Fo} {g : Gh} (T : FoOk F g) : g.lv F.root ≤ 6 := by
  obtain ⟨p, hp⟩ := T.rt
  have := width_ok T _ _ p hp rfl
  have a := T.rlo
  have b := T.rhi
  rcases Nat.lt_or_ge 6 (g.lv F.root) with h | h
  · have : 2 ^ 7 ≤ 2 ^ (g.lv F.root) := Nat.pow_le_pow_right (by decide) h
    omega
  · exact h
theorem Out.refl (f : Int → Option Pg) (g : Gh) (S : Int → Prop) : Out f f g g S := ⟨fun _ _ => rfl, fun _ _ => rfl, fun _ _ => rfl, fun _ _ => rfl⟩
theorem Out.mono {f f' : Int → Option Pg} {g g' : Gh} {S S' : Int → Prop} (O : Out f f' g g' S) (h : ∀ x, S x → S' x) : Out f f' g g' S' :=
  ⟨fun n z => O.pg n fun w => z (h n w), fun n z => O.lo n fun w => z (h n w), fun n z => O.hi n fun w => z (h n w), fun n z => O.lv n fun w => z (h n w)⟩
/-- what a deed tells of the keys, and the keys behind it -/
def AnsOk (F F' : Fo) : Deed → Ans → Prop
  | .put k, a => (∃ b, a = .b b ∧ (b = true ↔ ¬ Has F k)) ∧ ∀ x, Has F' x ↔ Has F x ∨ x = k
  | .take k, a => (∃ b, a = .b b ∧ (b = true ↔ Has F k)) ∧ ∀ x, Has F' x ↔ Has F x ∧ x ≠ k
  | .ask k, a => (∃ b, a = .b b ∧ (b = true ↔ Has F k)) ∧ ∀ x, Has F' x ↔ Has F x
  | .walk lo hi, a => (∃ l, a = .l l ∧ l.Pairwise (· < ·) ∧ ∀ x, x ∈ l ↔ (lo ≤ x ∧ x ≤ hi) ∧ Has F x) ∧ ∀ x, Has F' x ↔ Has F x
def Sem (M : Mc) (r : Mc × Told) (h : Nat) : Prop :=
  (∃ a, r.2 = .ends a ∧ AnsOk M.fo r.1.fo (M.deed h) a ∧ (r.1.ha h).at_ = (M.ha h).at_ + 1 ∧ (r.1.ha h).said = (M.ha h).said ++ [a] ∧ r.1.ends = M.ends ++ [(h, (M.ha h).at_)]) ∨
  ((∀ a, r.2 ≠ .ends a) ∧ (∀ x, Has r.1.fo x ↔ Has M.fo x) ∧ (r.1.ha h).at_ = (M.ha h).at_ ∧ (r.1.ha h).said = (M.ha h).said ∧ r.1.ends = M.ends)
/-- a step of a hand that neither rests nor waits -/
structure Done (M : Mc) (g : Gh) (mu : Nat → Nat) (h : Nat) (r : Mc × Told) (g' : Gh) (m' : Nat) : Prop where
  inv : INV r.1 g' fun i => if i = h then m' else mu i
  out : Out M.fo.pages r.1.fo.pages g g' fun p => p ∈ (M.ha h).held ∨ M.fo.last < p
  root : 0 ∉ (M.ha h).held → r.1.fo.root = M.fo.root
  less : m' < mu h
  eff : Eff M r.1 h
  sem : Sem M r h
  last : M.fo.last ≤ r.1.fo.last
  grow : r.1.fo.last + 2 * (m' : Nat) ≤ M.fo.last + 2 * (mu h : Nat)
def Did (M : Mc) (g : Gh) (mu : Nat → Nat) (h : Nat) (r : Mc × Told) : Prop := ∃ g' m', Done M g mu h r g' m'
structure At (M : Mc) (g : Gh) (mu : Nat → Nat) (h k : Nat) : Prop where
  inv : INV M g mu
  hh : h < M.n
  lt : (M.ha h).at_ < (M.ha h).prog.length
  mu : mu h = 1000 * ((M.ha h).prog.length - (M.ha h).at_ - 1) + k
section
variable {M : Mc} {g : Gh} {mu : Nat → Nat} {h k : Nat}
theorem At.own (a : At M g mu h k) : Own M h := fun p hp => (a.inv.lks p h).mpr ⟨a.hh, hp⟩
theorem At.nd (a : At M g mu h k) : (M.ha h).held.Nodup := a.inv.nd h a.hh
theorem at_same {x : Ha} (hp : x.prog = (M.ha h).prog) (ha : x.at_ = (M.ha h).at_) {F : Fo} {e : List (Nat × Nat)} : (M.to h F x e).deed h = M.deed h := by unfold Mc.deed; rw [to_ha, hp, ha]
theorem al_to {x : Ha} {F : Fo} {e : List (Nat × Nat)} {c : Int} (z : al M h c) : al (M.to h F x e) h c := fun j hj hne hc => by
  have e1 : (M.to h F x e).ha j = M.ha j := if_neg hne
  rw [e1] at hc
  have := z j hj hne hc
  unfold Mc.deed at this ⊢
  rw [e1]
  exact this
theorem Sh.al {F : Fo} {left : Bool} {d : Deed} {al al' : Int → Prop} {held : List Int} {want again : Option Int} {k : Nat} (s : Sh F g left d al held want again k) (ha : ∀ c, al c → al' c) : Sh F g left d al' held want again k := by
  cases s with
  | idle => exact .idle
  | begins => exact .begins
  | gate => exact .gate
  | gateW e => exact .gateW e
  | one e => exact .one e
  | oneW t hu hc hi ok => exact .oneW t hu hc hi ok
  | two t hu hc hq hi ok => exact .two t hu hc hq hi ok
  | nb t hu hc hn hq h1 hi hd ok adj => exact .nb t hu hc hn hq h1 hi hd ok adj
  | nbA t hu hc hn hq h1 hi hd ok hl adj hal => exact .nbA t hu hc hn hq h1 hi hd ok hl adj (ha _ hal)
  | nbB t hu hc hn hq h1 hi hd ok hl adj hal => exact .nbB t hu hc hn hq h1 hi hd ok hl adj (ha _ hal)
  | three t hu ma mb hc hq h1 hi hd ok adj => exact .three t hu ma mb hc hq h1 hi hd ok adj
  | leafs hd ch h0 => exact .leafs hd ch h0
  | leafsW hd ch h0 hq hn => exact .leafsW hd ch h0 hq hn
theorem At.go (a : At M g mu h k) {F' : Fo} {g' : Gh} {x : Ha} {t : Told} {k' : Nat} (T' : FoOk F' g') (O : Out M.fo.pages F'.pages g g' fun p => p ∈ (M.ha h).held ∨ M.fo.last < p) (hr : 0 ∉ (M.ha h).held → F'.root = M.fo.root) (hl : M.fo.last ≤ F'.last) (hl2 : F'.last ≤ M.fo.last + 2)
    (nd : x.held.Nodup) (hp : x.prog = (M.ha h).prog) (ha : x.at_ = (M.ha h).at_) (hs : x.said = (M.ha h).said) (hk : k' < k) (hk2 : k' ≤ 900) (sh : Sh F' g' M.left (M.deed h) (HH.al M h) x.held x.want x.again k') (hw : isWalk (M.deed h) → F' = M.fo)
    (fr : ∀ p ∈ x.held, p ∉ (M.ha h).held → M.locks p = none ∧ (M.fo.last < p ∨ (M.ha h).want = some p)) (has : ∀ y, Has F' y ↔ Has M.fo y) (ht : ∀ a, t ≠ .ends a) : Did M g mu h (M.to h F' x M.ends, t) := by
  have lt := a.lt
  have hmu := a.mu
  have E : Eff M (M.to h F' x M.ends) h := to_eff hp
  refine ⟨g', 1000 * ((M.ha h).prog.length - (M.ha h).at_ - 1) + k', ?_, O, hr, by omega, E, .inr ⟨ht, has, by rw [to_ha]; exact ha, by rw [to_ha]; exact hs, rfl⟩, hl, by show F'.last + _ ≤ _; omega⟩
  refine a.inv.step a.hh E T' O hr hl (by show F'.last + _ ≤ _; omega) (by rw [to_ha]; exact nd) ⟨by rw [to_ha, hp, ha]; omega, fun z => ?_, fun z => ?_⟩ hw (fun _ => by rw [to_ha]; exact ha) (fun p h1 h2 => ?_) (.inl ⟨by rw [to_ha]; exact ha, by rw [to_ha]; exact hs, rfl⟩)
  · rw [to_ha, hp, ha] at z; omega
  · refine ⟨k', by rw [to_ha, hp, ha], hk2, ?_⟩
    rw [at_same hp ha, to_ha]
    exact sh.al fun c z => al_to z
  · rw [to_ha] at h1
    exact fr p h1 h2
theorem At.fin (a : At M g mu h k) {F' : Fo} {an : Ans} (hk : 1 ≤ k) (T' : FoOk F' g) (O : Out M.fo.pages F'.pages g g fun p => p ∈ (M.ha h).held ∨ M.fo.last < p) (hr : F'.root = M.fo.root) (hl : F'.last = M.fo.last) (hw : isWalk (M.deed h) → F' = M.fo) (wn : (M.ha h).want = none) (an0 : (M.ha h).again = none) (ok : AnsOk M.fo F' (M.deed h) an) :
    Did M g mu h (M.to h F' { M.ha h with held := [], said := (M.ha h).said ++ [an], at_ := (M.ha h).at_ + 1 } (M.ends ++ [(h, (M.ha h).at_)]), .ends an) := by
  have lt := a.lt
  have hmu := a.mu
  generalize hx : { M.ha h with held := [], said := (M.ha h).said ++ [an], at_ := (M.ha h).at_ + 1 } = x
  have xh : x.held = [] := by rw [← hx]
  have xp : x.prog = (M.ha h).prog := by rw [← hx]
  have xa : x.at_ = (M.ha h).at_ + 1 := by rw [← hx]
  have xs : x.said = (M.ha h).said ++ [an] := by rw [← hx]
  have xw : x.want = none := by rw [← hx]; exact wn
  have xg : x.again = none := by rw [← hx]; exact an0
  have E : Eff M (M.to h F' x (M.ends ++ [(h, (M.ha h).at_)])) h := to_eff xp
  refine ⟨g, if (M.ha h).at_ + 1 = (M.ha h).prog.length then 0 else 1000 * ((M.ha h).prog.length - ((M.ha h).at_ + 1) - 1) + 900, ?_, O, fun _ => hr, by split <;> omega, E, .inl ⟨an, rfl, ok, by rw [to_ha]; exact xa, by rw [to_ha]; exact xs, rfl⟩, by show _ ≤ F'.last; omega, by show F'.last + _ ≤ _; split <;> omega⟩
  refine a.inv.step a.hh E T' O (fun _ => hr) (by show _ ≤ F'.last; omega) (by show F'.last + _ ≤ _; split <;> omega) (by rw [to_ha, xh]; exact .nil) ⟨by rw [to_ha, xp, xa]; omega, fun z => ?_, fun z => ?_⟩ hw (fun z => by rw [to_ha, xh] at z; exact absurd rfl z) (fun p h1 h2 => by rw [to_ha, xh] at h1; simp at h1) (.inr ⟨an, by rw [to_ha]; exact xa, by rw [to_ha]; exact xs, rfl⟩)
  · rw [to_ha, xp, xa] at z
    rw [to_ha]
    exact ⟨xh, xw, xg, if_pos z⟩
  · rw [to_ha, xp, xa] at z
    refine ⟨900, by rw [to_ha, xp, xa, if_neg (by omega)], Nat.le_refl _, ?_⟩
    rw [to_ha, xh, xw, xg]
    exact .idle
end

/-! ### the steps, one by one -/
theorem filt_last {xs : List Int} (hn : xs.Nodup) (h0 : xs ≠ []) : xs.filter (fun x => decide (x ∉ xs.dropLast)) = [xs.getLastD 0] := by
  have e := last_split h0
  generalize xs.getLastD 0 = z at *
  generalize xs.dropLast = ys at *
  subst e
  rw [List.nodup_append] at hn
  rw [List.filter_append, List.filter_eq_nil_iff.mpr (by simp), List.filter_cons_of_pos]
  · rfl
  · simp only [decide_eq_true_eq]
    intro hz
    exact hn.2.2 z hz z (by simp) rfl
/-- a leaf has all keys of its bounds -/
theorem leaf_has {F : Fo} {g : Gh} (T : FoOk F g) {n : Int} {p : Pg} (hp : F.pages n = some p) (hk : p.kids = []) {k : Int} (hi : Inn g n k) : Has F k ↔ k ∈ p.row := by
  constructor
  · rintro ⟨x, q, hx, hq, hm⟩
    have v1 := (T.page _ _ hx).leaf_iff.mp hq
    have v2 := (T.page _ _ hp).leaf_iff.mp hk
    obtain ⟨_, ⟨_, b⟩, _⟩ := (T.page _ _ hx).leaf v1
    have := b k hm
    have e := T.same hx hp (by omega) this.1 this.2 hi.1 hi.2
    subst e
    rw [hp] at hx
    cases hx
    exact hm
  · exact fun hm => ⟨n, p, hp, hk, hm⟩
theorem has_set {F : Fo} {n : Int} {p p' : Pg} (hp : F.pages n = some p) (hk : p.kids = []) (hk' : p'.kids = []) (x : Int) : Has (F.set n p') x ↔ x ∈ p'.row ∨ ∃ m q, m ≠ n ∧ F.pages m = some q ∧ q.kids = [] ∧ x ∈ q.row := by
  constructor
  · rintro ⟨m, q, hm, hq, hx⟩
    by_cases e : m = n
    · subst e
      rw [show (F.set m p').pages m = some p' from setP_same] at hm
      cases hm
      exact .inl hx
    · rw [show (F.set n p').pages m = F.pages m from setP_ne e] at hm
      exact .inr ⟨m, q, e, hm, hq, hx⟩
  · rintro (h | ⟨m, q, e, hm, hq, hx⟩)
    · exact ⟨n, p', setP_same, hk', h⟩
    · exact ⟨m, q, by rw [show (F.set n p').pages m = F.pages m from setP_ne e]; exact hm, hq, hx⟩
theorem has_split {F : Fo} {n : Int} {p : Pg} (hp : F.pages n = some p) (hk : p.kids = []) (x : Int) : Has F x ↔ x ∈ p.row ∨ ∃ m q, m ≠ n ∧ F.pages m = some q ∧ q.kids = [] ∧ x ∈ q.row := by
  constructor
  · rintro ⟨m, q, hm, hq, hx⟩
    by_cases e : m = n
    · subst e
      rw [hp] at hm
      cases hm
      exact .inl hx
    · exact .inr ⟨m, q, e, hm, hq, hx⟩
  · rintro (h | ⟨m, q, e, hm, hq, hx⟩)
    · exact ⟨n, p, hp, hk, h⟩
    · exact ⟨m, q, hm, hq, hx⟩
/-- another leaf has no key of a leaf's bounds -/
theorem leaf_other {F : Fo} {g : Gh} (T : FoOk F g) {n : Int} {p : Pg} (hp : F.pages n = some p) (hk : p.kids = []) {k : Int} (hi : Inn g n k) : ¬ ∃ m q, m ≠ n ∧ F.pages m = some q ∧ q.kids = [] ∧ k ∈ q.row := by
  rintro ⟨m, q, e, hm, hq, hx⟩
  have v1 := (T.page _ _ hm).leaf_iff.mp hq
  have v2 := (T.page _ _ hp).leaf_iff.mp hk
  obtain ⟨_, ⟨_, b⟩, _⟩ := (T.page _ _ hm).leaf v1
  have := b k hx
  exact e (T.same hm hp (by omega) this.1 this.2 hi.1 hi.2)
theorem mem_ins {k x : Int} : ∀ {r : List Int}, x ∈ ins k r ↔ x = k ∨ x ∈ r
  | [] => by simp [ins]
  | a :: r => by
    unfold ins
    split
    · simp
    · rw [List.mem_cons, mem_ins, List.mem_cons]
      constructor
      · rintro (h | h | h)
        · exact .inr (.inl h)
        · exact .inl h
        · exact .inr (.inr h)
      · rintro (h | h | h)
        · exact .inr (.inl h)
        · exact .inl h
        · exact .inr (.inr h)
theorem ins_len {k : Int} : ∀ {r : List Int}, (ins k r).length = r.length + 1
  | [] => rfl
  | a :: r => by
    unfold ins
    split
    · rfl
    · rw [List.length_cons, ins_len, List.length_cons]
theorem ins_lt {k : Int} : ∀ {r : List Int}, r.Pairwise (· < ·) → k ∉ r → (ins k r).Pairwise (· < ·)
  | [], _, _ => by simp [ins]
  | a :: r, h, hk => by
    rw [List.pairwise_cons] at h
    simp only [List.mem_cons, not_or] at hk
    unfold ins
    split
    · refine List.pairwise_cons.mpr ⟨fun y hy => ?_, List.pairwise_cons.mpr h⟩
      rcases List.mem_cons.mp hy with w | w
      · omega
      · have := h.1 y w; omega
    · refine List.pairwise_cons.mpr ⟨fun y hy => ?_, ins_lt h.2 hk.2⟩
      rcases mem_ins.mp hy with w | w
      · omega
      · exact h.1 y w
section
variable {M : Mc} {g : Gh} {mu : Nat → Nat} {h k : Nat}
theorem out_set {n : Int} {p : Pg} (hn : n ∈ (M.ha h).held) (g : Gh) : Out M.fo.pages (M.fo.set n p).pages g g fun p => p ∈ (M.ha h).held ∨ M.fo.last < p :=
  ⟨fun m hm => setP_ne fun z => hm (.inl (by rw [z]; exact hn)), fun _ _ => rfl, fun _ _ => rfl, fun _ _ => rfl⟩
theorem not_walk {d : Deed} {k : Int} (h : d = .put k ∨ d = .take k ∨ d = .ask k) : ¬ isWalk d := by
  rintro ⟨lo, hi, e⟩
  rcases h with h | h | h <;> rw [h] at e <;> cases e
/-- what stands when a hand works -/
structure Here (M : Mc) (g : Gh) (mu : Nat → Nat) (h k : Nat) (here : Int) (q : Pg) : Prop where
  a : At M g mu h k
  want : (M.ha h).want = none
  again : (M.ha h).again = none
  ne : (M.ha h).held ≠ []
  last : (M.ha h).held.getLastD 0 = here
  pg : M.fo.pages here = some q
  inn : Inn g here (M.deed h).key
theorem Here.mem {here : Int} {q : Pg} (H : Here M g mu h k here q) : here ∈ (M.ha h).held := by rw [← H.last]; exact last_mem H.ne
theorem Here.nz {here : Int} {q : Pg} (H : Here M g mu h k here q) : here ≠ 0 := by have := (H.a.inv.tree.page _ _ H.pg).pos; omega
theorem ask_leaf {here : Int} {q : Pg} (H : Here M g mu h k here q) {key : Int} (hd : M.deed h = .ask key) (hk : q.kids = []) (k1 : 1 ≤ k) :
    Did M g mu h ((M.leave h (M.ha h).held.dropLast).endsWith h (.b (decide (key ∈ q.row)))) := by
  rw [leaves_ends H.a.own H.a.nd (fun p hp => List.dropLast_subset _ hp)]
  refine H.a.fin k1 H.a.inv.tree (Out.refl _ _ _) rfl rfl (fun _ => rfl) H.want H.again ?_
  have hi := H.inn
  rw [hd] at hi ⊢
  refine ⟨⟨_, rfl, ?_⟩, fun _ => Iff.rfl⟩
  have hi' : Inn g here key := hi
  rw [leaf_has H.a.inv.tree H.pg hk hi']
  simp
theorem put_leaf {here : Int} {q : Pg} (H : Here M g mu h k here q) {key : Int} (hd : M.deed h = .put key) (hk : q.kids = []) (h3 : q.row.length ≠ 3) (k1 : 1 ≤ k) : Did M g mu h (M.put h key) := by
  have T := H.a.inv.tree
  have hi := H.inn
  have P := T.page _ _ H.pg
  have hm := P.most
  have hl : M.lastP h = here := H.last
  have e : M.put h key = if key ∈ q.row then M.endsWith h (.b false) else ({ M with fo := M.fo.set here { q with row := ins key q.row } }).endsWith h (.b true) := by
    unfold Mc.put
    simp only [hl, Fo.pg_some H.pg, if_neg h3]
    rw [if_neg (by simp [hk])]
  rw [e]
  have lh := leaf_has T H.pg hk hi
  rw [hd] at hi lh
  have hi' : Inn g here key := hi
  by_cases hkey : key ∈ q.row
  · rw [if_pos hkey, ends_to H.a.own H.a.nd]
    refine H.a.fin k1 T (Out.refl _ _ _) rfl rfl (fun _ => rfl) H.want H.again ?_
    rw [hd]
    have lh' : Has M.fo key := lh.mpr hkey
    exact ⟨⟨false, rfl, by simp [lh']⟩, fun x => ⟨.inl, fun z => z.elim id fun z => by rw [z]; exact lh'⟩⟩
  · rw [if_neg hkey]
    have e2 := ends_to (M := { M with fo := M.fo.set here { q with row := ins key q.row } }) (h := h) (a := .b true) H.a.own H.a.nd
    rw [e2]
    obtain ⟨_, ⟨r1, r2⟩, _⟩ := P.leaf (P.leaf_iff.mp hk)
    have hk2 := hi'
    obtain ⟨T', O⟩ := leafRow_ok T H.pg hk (row := ins key q.row) (by rw [ins_len]; omega) (fun _ => by rw [ins_len]; omega) ⟨ins_lt r1 hkey, fun x hx => by
      rcases mem_ins.mp hx with w | w
      · rw [w]; exact hk2
      · exact r2 x w⟩
    refine H.a.fin (F' := M.fo.set here { q with row := ins key q.row }) k1 T' (O.mono fun x hx => .inl (by rw [hx]; exact H.mem)) rfl rfl (fun z => absurd z (not_walk (.inl hd))) H.want H.again ?_
    rw [hd]
    have lh' : ¬ Has M.fo key := fun z => hkey (lh.mp z)
    refine ⟨⟨true, rfl, by simp [lh']⟩, fun x => ?_⟩
    rw [has_set H.pg hk (p' := { q with row := ins key q.row }) hk, has_split H.pg hk]
    show x ∈ ins key q.row ∨ _ ↔ _
    rw [mem_ins]
    constructor
    · rintro ((w | w) | w)
      · exact .inr w
      · exact .inl (.inl w)
      · exact .inl (.inr w)
    · rintro ((w | w) | w)
      · exact .inl (.inr w)
      · exact .inr w
      · exact .inl (.inl w)
/-- a take at a leaf -/
def takeLeaf (M : Mc) (h : Nat) (here : Int) (q : Pg) (key : Int) : Mc × Told := if key ∈ q.row then ({ M with fo := M.fo.set here { q with row := q.row.erase key } }).endsWith h (.b true) else M.endsWith h (.b false)
theorem take_leaf {here : Int} {q : Pg} (H : Here M g mu h k here q) {key : Int} (hd : M.deed h = .take key) (hk : q.kids = []) (h1 : here ≠ M.fo.root → q.row.length ≠ 1) (k1 : 1 ≤ k) : Did M g mu h (takeLeaf M h here q key) := by
  have T := H.a.inv.tree
  have hi := H.inn
  have P := T.page _ _ H.pg
  have hm := P.most
  unfold takeLeaf
  have lh := leaf_has T H.pg hk hi
  rw [hd] at hi lh
  have hi' : Inn g here key := hi
  by_cases hkey : key ∈ q.row
  · rw [if_pos hkey]
    have e2 := ends_to (M := { M with fo := M.fo.set here { q with row := q.row.erase key } }) (h := h) (a := .b true) H.a.own H.a.nd
    rw [e2]
    obtain ⟨_, ⟨r1, r2⟩, _⟩ := P.leaf (P.leaf_iff.mp hk)
    have ndr : q.row.Nodup := r1.imp fun {a b} w => by omega
    obtain ⟨T', O⟩ := leafRow_ok T H.pg hk (row := q.row.erase key) (by rw [List.length_erase_of_mem hkey]; omega) (fun z => by
      have := h1 z
      have := P.full1 z
      rw [List.length_erase_of_mem hkey]; omega) ⟨r1.sublist List.erase_sublist, fun x hx => r2 x (List.erase_subset hx)⟩
    refine H.a.fin (F' := M.fo.set here { q with row := q.row.erase key }) k1 T' (O.mono fun x hx => .inl (by rw [hx]; exact H.mem)) rfl rfl (fun z => absurd z (not_walk (.inr (.inl hd)))) H.want H.again ?_
    rw [hd]
    have lh' : Has M.fo key := lh.mpr hkey
    refine ⟨⟨true, rfl, by simp [lh']⟩, fun x => ?_⟩
    rw [has_set H.pg hk (p' := { q with row := q.row.erase key }) hk, has_split H.pg hk]
    show x ∈ q.row.erase key ∨ _ ↔ _
    rw [ndr.mem_erase_iff]
    constructor
    · rintro (w | w)
      · exact ⟨.inl w.2, w.1⟩
      · refine ⟨.inr w, fun z => ?_⟩
        rw [z] at w
        exact leaf_other T H.pg hk hi' w
    · rintro ⟨w | w, z⟩
      · exact .inl ⟨z, w⟩
      · exact .inr w
  · rw [if_neg hkey, ends_to H.a.own H.a.nd]
    refine H.a.fin k1 T (Out.refl _ _ _) rfl rfl (fun _ => rfl) H.want H.again ?_
    rw [hd]
    have lh' : ¬ Has M.fo key := fun z => hkey (lh.mp z)
    exact ⟨⟨false, rfl, by simp [lh']⟩, fun x => ⟨fun z => ⟨z, fun w => lh' (by rw [← w]; exact z)⟩, fun z => z.1⟩⟩
/-- a kid's page at the key -/
theorem child_at {F : Fo} {g : Gh} (T : FoOk F g) {n : Int} {p : Pg} (hp : F.pages n = some p) (hk : p.kids ≠ []) {key : Int} (hi : Inn g n key) : ∃ q, F.child n key ∈ p.kids ∧ F.pages (F.child n key) = some q ∧ Inn g (F.child n key) key ∧ g.lv (F.child n key) + 1 = g.lv n := by
  obtain ⟨c, q, h1, h2, h3, h4, h5, _⟩ := T.child hp hk hi.1 hi.2
  have hn : n ≠ 0 := by have := (T.page _ _ hp).pos; omega
  have e : F.child n key = c := by
    unfold Fo.child
    rw [if_neg hn, Fo.pg_some hp, List.getD_eq_getElem?_getD, h1]
    rfl
  rw [e]
  exact ⟨q, List.mem_of_getElem? h1, h2, ⟨h4, h5⟩, h3⟩
theorem down_ok {here : Int} {q : Pg} (H : Here M g mu h k here q) (hk : q.kids ≠ []) (ok : One [] q (M.deed h)) (hk' : 20 * g.lv here + 255 < k) : Did M g mu h (M.down h) := by
  have T := H.a.inv.tree
  have hl : M.lastP h = here := H.last
  unfold Mc.down
  rw [leaves_goes H.a.own H.a.nd (fun p hp => List.dropLast_subset _ hp), filt_last H.a.nd H.ne, hl, H.last]
  obtain ⟨qc, c1, c2, c3, c4⟩ := child_at T H.pg hk H.inn
  have hh6 := height_ok T
  have hlv := T.le_top H.pg
  refine H.a.go T (Out.refl _ _ _) (fun _ => rfl) (Int.le_refl _) (by omega) (by simp) rfl rfl rfl hk' (by omega) ?_ (fun _ => rfl) (fun p hp hn => ?_) (fun _ => Iff.rfl) (fun _ z => by cases z)
  · show Sh _ _ _ _ _ [here] (some _) (M.ha h).again _
    rw [H.again]
    exact .oneW (pre := []) (.inl rfl) H.pg c1 c3 ok
  · have : p = here := by simpa using hp
    rw [this] at hn
    exact absurd H.mem hn
end

/-! ### a lock -/
theorem snoc_last {xs : List Int} {p : Int} : (xs ++ [p]).getLastD 0 = p := by rw [List.getLastD_eq_getLast?, List.getLast?_concat]; rfl
section
variable {M : Mc} {g : Gh} {mu : Nat → Nat} {h k : Nat}
theorem lock_ok (a : At M g mu h k) {p : Int} (hw : (M.ha h).want = some p) (fr : M.locks p = none) (s : Sh M.fo g M.left (M.deed h) (al M h) (M.ha h).held (M.ha h).want (M.ha h).again k) : Did M g mu h (M.lock h p) := by
  have T := a.inv.tree
  have hh6 := height_ok T
  have e : M.lock h p = (M.to h M.fo { M.ha h with held := (M.ha h).held ++ [p], want := (M.ha h).again, again := none } M.ends, .locks p) := by
    have := lock_to (p := p) a.own
    unfold Mc.lock at this ⊢
    rw [← this]
  rw [e]
  have hp : p ∉ (M.ha h).held := fun z => by rw [a.own p z] at fr; cases fr
  have nd : ((M.ha h).held ++ [p]).Nodup := List.nodup_append.mpr ⟨a.nd, by simp, fun x hx y hy => by
    rw [List.mem_singleton.mp hy]
    exact fun z => hp (by rw [← z]; exact hx)⟩
  suffices hs : ∃ k', k' < k ∧ k' ≤ 900 ∧ Sh M.fo g M.left (M.deed h) (HH.al M h) ((M.ha h).held ++ [p]) (M.ha h).again none k' by
    obtain ⟨k', h1, h2, h3⟩ := hs
    refine a.go T (Out.refl _ _ _) (fun _ => rfl) (Int.le_refl _) (by omega) nd rfl rfl rfl h1 h2 h3 (fun _ => rfl) (fun x hx hn => ?_) (fun _ => Iff.rfl) (fun _ z => by cases z)
    rcases List.mem_append.mp hx with w | w
    · exact absurd w hn
    · rw [List.mem_singleton.mp w]
      exact ⟨fr, .inr hw⟩
  clear e nd hp
  generalize (M.ha h).held = held at *
  generalize (M.ha h).again = again at *
  rw [hw] at s
  clear hw fr
  cases s with
  | begins => exact ⟨898, by omega, by omega, .gate⟩
  | gateW e => exact ⟨_, by rw [e]; omega, by rw [e]; omega, .one e⟩
  | @oneW pre c' _ u t hu hc hi ok =>
    obtain ⟨qc, hqc, hlc, _⟩ := T.kid hu hc
    have := T.le_top hu
    have nd : needs qc (M.deed h) ≤ 10 := by unfold needs; split <;> (try split) <;> omega
    refine ⟨20 * g.lv c' + 240 + needs qc (M.deed h), by omega, by omega, ?_⟩
    rw [show pre ++ [c'] ++ [p] = pre ++ [c', p] by simp]
    refine .two t hu hc hqc hi ?_
    cases hdd : M.deed h <;> rw [hdd] at ok <;> first
      | trivial
      | exact .inl ok
      | (rcases ok with w | w
         · exact .inl w
         · exact .inr (.inl w))
  | @nb pre c' c'' _ kk u q t hu hc hn hq h1 hi hd ok adj =>
    have := T.le_top hu
    refine ⟨20 * g.lv c' + 246, by omega, by omega, ?_⟩
    rw [show pre ++ [c', c''] ++ [p] = pre ++ [c', c'', p] by simp]
    exact .three t hu hc hn (.inl rfl) hq h1 hi hd ok adj
  | @nbA pre c' c'' _ kk u q t hu hc hn hq h1 hi hd ok hl adj hal =>
    have := T.le_top hu
    refine ⟨20 * g.lv c' + 248, by omega, by omega, ?_⟩
    rw [show pre ++ [c'] ++ [p] = pre ++ [c', p] by simp]
    exact .nbB t hu hc hn hq h1 hi hd ok hl adj hal
  | @nbB pre c' _ n kk u q t hu hc hn hq h1 hi hd ok hl adj hal =>
    have := T.le_top hu
    refine ⟨20 * g.lv c' + 246, by omega, by omega, ?_⟩
    rw [show pre ++ [c', n] ++ [p] = pre ++ [c', n, p] by simp]
    exact .three t hu hn hc (.inr rfl) hq h1 hi hd ok (.inl adj)
  | @leafsW l ls lo hi _ q hd ch h0 hq hn =>
    have PQ := T.page _ _ hq
    obtain ⟨q', hq', hk'⟩ := ch.pages _ lastD_mem
    rw [hq] at hq'
    cases hq'
    obtain ⟨_, _, nx⟩ := PQ.leaf (PQ.leaf_iff.mp hk')
    rw [hn] at nx
    obtain ⟨⟨qn, n1⟩, n2, n3⟩ := nx
    have PN := T.page _ _ n1
    have b1 := PN.ne
    have b2 := PN.high
    have b3 := PQ.low
    have b4 := PQ.ne
    have el : ((l :: ls) ++ [p]).getLastD 0 = p := snoc_last
    have sh := Sh.leafs (F := M.fo) (g := g) (left := M.left) (al := HH.al M h) hd (l := l) (ls := ls ++ [p]) (ch.snoc n1 (PN.leaf_iff.mpr n2) ⟨q, hq, hn⟩) h0
    rw [show l :: (ls ++ [p]) = (l :: ls) ++ [p] from rfl, el] at sh
    exact ⟨_, by omega, by omega, sh⟩
/-! the leaves of a walk -/
theorem leafs_rows {F : Fo} {g : Gh} (T : FoOk F g) : ∀ {l : Int} {ls : List Int}, Leafs F (l :: ls) → ((l :: ls).flatMap fun p => (F.pg p).row).Pairwise (· < ·) ∧ (∀ x, (x ∈ (l :: ls).flatMap fun p => (F.pg p).row) ↔ (g.lo l ≤ x ∧ x < g.hi ((l :: ls).getLastD 0)) ∧ Has F x) ∧ g.lo l < g.hi ((l :: ls).getLastD 0)
  | l, [], ⟨q, h1, h2⟩ => by
    have P := T.page _ _ h1
    obtain ⟨_, ⟨r1, r2⟩, _⟩ := P.leaf (P.leaf_iff.mp h2)
    have e : ([l].flatMap fun p => (F.pg p).row) = q.row := by simp [Fo.pg_some h1]
    rw [e]
    refine ⟨r1, fun x => ⟨fun hx => ⟨r2 x hx, l, q, h1, h2, hx⟩, fun ⟨hx, hh⟩ => (leaf_has T h1 h2 hx).mp hh⟩, P.ne⟩
  | l, m :: r, ⟨⟨q, h1, h2, h3⟩, hl⟩ => by
    obtain ⟨i1, i2, i3⟩ := leafs_rows T hl
    have P := T.page _ _ h1
    obtain ⟨_, ⟨r1, r2⟩, nx⟩ := P.leaf (P.leaf_iff.mp h2)
    rw [h3] at nx
    obtain ⟨_, _, n3⟩ := nx
    have pn := P.ne
    have e : ((l :: m :: r).flatMap fun p => (F.pg p).row) = q.row ++ ((m :: r).flatMap fun p => (F.pg p).row) := by rw [List.flatMap_cons, Fo.pg_some h1]
    have el : (l :: m :: r).getLastD 0 = (m :: r).getLastD 0 := by simp [List.getLastD]
    rw [e, el]
    refine ⟨List.pairwise_append.mpr ⟨r1, i1, fun x hx y hy => ?_⟩, fun x => ?_, by omega⟩
    · have := r2 x hx
      have := ((i2 y).mp hy).1
      omega
    · rw [List.mem_append, i2]
      constructor
      · rintro (w | ⟨w1, w2⟩)
        · have := r2 x w
          exact ⟨⟨this.1, by omega⟩, l, q, h1, h2, w⟩
        · exact ⟨⟨by omega, w1.2⟩, w2⟩
      · rintro ⟨w1, w2⟩
        by_cases z : x < g.hi l
        · exact .inl ((leaf_has T h1 h2 ⟨w1.1, z⟩).mp w2)
        · exact .inr ⟨⟨by omega, w1.2⟩, w2⟩
theorem flatMap_filter {f : Int → List Int} {c : Int → Bool} : ∀ {ls : List Int}, (ls.flatMap fun p => (f p).filter c) = (ls.flatMap f).filter c
  | [] => rfl
  | l :: ls => by rw [List.flatMap_cons, List.flatMap_cons, List.filter_append, flatMap_filter]
structure HereW (M : Mc) (g : Gh) (mu : Nat → Nat) (h k : Nat) (here : Int) (q : Pg) : Prop where
  a : At M g mu h k
  want : (M.ha h).want = none
  again : (M.ha h).again = none
  ne : (M.ha h).held ≠ []
  last : (M.ha h).held.getLastD 0 = here
  pg : M.fo.pages here = some q
/-- a walk at a leaf: ups are left, the leaves ls stay -/
theorem walk_leafW {here : Int} {q : Pg} (H : HereW M g mu h k here q) {lo hi l : Int} {ls : List Int} (hd : M.deed h = .walk lo hi) (hf : (M.ha h).held.filter (fun x => decide (x ∉ (M.ha h).held.filter (isUpper M.fo))) = l :: ls) (hl : (l :: ls).getLastD 0 = here) (ch : Leafs M.fo (l :: ls)) (h0 : g.lo l ≤ lo)
    (hk : q.kids = []) (hk' : 2 * (100 - g.hi here).toNat < k) : Did M g mu h (M.walk h lo hi) := by
  have T := H.a.inv.tree
  have lP : M.lastP h = here := H.last
  have PQ := T.page _ _ H.pg
  have PL := PQ.leaf (PQ.leaf_iff.mp hk)
  have nx := PL.2.2
  obtain ⟨i1, i2, i3⟩ := leafs_rows T ch
  have sub : ∀ p ∈ (M.ha h).held.filter (isUpper M.fo), p ∈ (M.ha h).held := fun p hp => (List.mem_filter.mp hp).1
  have h1' : ((M.leave h ((M.ha h).held.filter (isUpper M.fo))).ha h).held = l :: ls := by
    rw [leave_to H.a.own H.a.nd sub, to_ha]
    exact hf
  have ew : M.walk h lo hi = match q.nxt with
    | some m => if q.row = [] ∨ q.row.getLastD 0 < hi then (M.leave h ((M.ha h).held.filter (isUpper M.fo))).goes h m
      else (M.leave h ((M.ha h).held.filter (isUpper M.fo))).endsWith h (.l (((l :: ls).flatMap fun p => (M.fo.pg p).row).filter fun k => decide (lo ≤ k ∧ k ≤ hi)))
    | none => (M.leave h ((M.ha h).held.filter (isUpper M.fo))).endsWith h (.l (((l :: ls).flatMap fun p => (M.fo.pg p).row).filter fun k => decide (lo ≤ k ∧ k ≤ hi))) := by
    unfold Mc.walk
    simp only [lP, Fo.pg_some H.pg, h1', flatMap_filter]
    all_goals (cases q.nxt <;> rfl)
  have fin : (∀ x, Has M.fo x → x ≤ hi → x < g.hi here) → Did M g mu h ((M.leave h ((M.ha h).held.filter (isUpper M.fo))).endsWith h (.l (((l :: ls).flatMap fun p => (M.fo.pg p).row).filter fun k => decide (lo ≤ k ∧ k ≤ hi)))) := fun hall => by
    rw [leaves_ends H.a.own H.a.nd sub]
    refine H.a.fin (by omega) T (Out.refl _ _ _) rfl rfl (fun _ => rfl) H.want H.again ?_
    rw [hd]
    refine ⟨⟨_, rfl, i1.filter _, fun x => ?_⟩, fun _ => Iff.rfl⟩
    rw [List.mem_filter, i2, hl, decide_eq_true_eq]
    constructor
    · exact fun z => ⟨z.2, z.1.2⟩
    · exact fun z => ⟨⟨⟨by omega, hall x z.2 z.1.2⟩, z.2⟩, z.1⟩
  rw [ew]
  cases en : q.nxt with
  | none =>
    refine fin fun x hx hxh => ?_
    rw [en] at nx
    have nx' : g.hi here = 100 := nx
    obtain ⟨n, p, hn, hpk, hm⟩ := hx
    have P := T.page _ _ hn
    obtain ⟨_, ⟨_, r2⟩, _⟩ := P.leaf (P.leaf_iff.mp hpk)
    have := r2 x hm
    have := P.high
    omega
  | some m =>
    by_cases hc : q.row = [] ∨ q.row.getLastD 0 < hi
    · show Did M g mu h (if q.row = [] ∨ q.row.getLastD 0 < hi then _ else _)
      rw [if_pos hc, leaves_goes H.a.own H.a.nd sub, hf]
      have ndl : (l :: ls).Nodup := by rw [← hf]; exact H.a.nd.filter _
      have b1 := PQ.low
      have b2 := PQ.ne
      refine H.a.go T (Out.refl _ _ _) (fun _ => rfl) (Int.le_refl _) (by omega) ndl rfl rfl rfl hk' (by omega) ?_ (fun _ => rfl) (fun p hp hn => ?_) (fun _ => Iff.rfl) (fun _ z => by cases z)
      · show Sh _ _ _ _ _ (l :: ls) (some m) (M.ha h).again _
        rw [H.again]
        have := Sh.leafsW (F := M.fo) (g := g) (left := M.left) (al := HH.al M h) hd ch h0 (q := q) (n := m) (by rw [hl]; exact H.pg) en
        rw [hl] at this
        exact this
      · exfalso
        have hp' : p ∈ l :: ls := hp
        rw [← hf] at hp'
        exact hn (List.mem_filter.mp hp').1
    · show Did M g mu h (if q.row = [] ∨ q.row.getLastD 0 < hi then _ else _)
      rw [if_neg hc]
      simp only [not_or] at hc
      refine fin fun x _ hxh => ?_
      have := PL.2.1.2 _ (last_mem hc.1)
      omega
theorem walk_leaf {here : Int} {q : Pg} (H : Here M g mu h k here q) {lo hi l : Int} {ls : List Int} (hd : M.deed h = .walk lo hi) (hf : (M.ha h).held.filter (fun x => decide (x ∉ (M.ha h).held.filter (isUpper M.fo))) = l :: ls) (hl : (l :: ls).getLastD 0 = here) (ch : Leafs M.fo (l :: ls)) (h0 : g.lo l ≤ lo)
    (hk : q.kids = []) (hk' : 2 * (100 - g.hi here).toNat < k) : Did M g mu h (M.walk h lo hi) := walk_leafW ⟨H.a, H.want, H.again, H.ne, H.last, H.pg⟩ hd hf hl ch h0 hk hk'
end

/-! ### splits, neighbours, mending -/
theorem idx_inj {cs : List Int} {a b : Int} (ha : a ∈ cs) (hb : b ∈ cs) (h : cs.idxOf a = cs.idxOf b) : a = b := by
  have e1 : cs[cs.idxOf a]? = some a := by rw [List.getElem?_eq_getElem (idx_lt ha), List.getElem_idxOf]
  have e2 : cs[cs.idxOf b]? = some b := by rw [List.getElem?_eq_getElem (idx_lt hb), List.getElem_idxOf]
  rw [h, e2] at e1
  exact (Option.some.inj e1).symm
theorem Chain.nodup {K : Int → Int → Int → Prop} (hK : ∀ c l h, K c l h → l < h) (det : ∀ c l h l' h', K c l h → K c l' h' → l = l' ∧ h = h') : ∀ {r cs : List Int} {lo hi : Int}, Chain K lo r cs hi → cs.Nodup
  | [], [c], _, _, _ => by simp
  | k :: r, c :: cs, lo, hi, h => by
    refine List.nodup_cons.mpr ⟨fun hc => ?_, Chain.nodup hK det h.2⟩
    obtain ⟨l, h', k1, k2, k3⟩ := h.2.mem hK hc
    have := (det _ _ _ _ _ h.1 k1).1
    have := hK _ _ _ h.1
    omega
  | [], [], _, _, h => h.elim
  | [], _ :: _ :: _, _, _, h => h.elim
  | _ :: _, [], _, _, h => h.elim
theorem kids_nodup {F : Fo} {g : Gh} (T : FoOk F g) {p : Int} {u : Pg} (hu : F.pages p = some u) : u.kids.Nodup := by
  rcases (T.page _ _ hu).body with ⟨_, h, _⟩ | ⟨v, _, _, _, ch⟩
  · rw [h]; simp
  · exact ch.nodup Kid.lt Kid.det
theorem idx_getD {cs : List Int} (nd : cs.Nodup) {i : Nat} (hi : i < cs.length) : cs.getD i 0 ∈ cs ∧ cs.idxOf (cs.getD i 0) = i := by
  have e : cs.getD i 0 = cs[i] := by rw [List.getD_eq_getElem?_getD, List.getElem?_eq_getElem hi]; rfl
  rw [e]
  exact ⟨List.getElem_mem hi, nd.idxOf_getElem i hi⟩
theorem Top.cases {F : Fo} {pre : List Int} {p : Int} (t : Top F pre p) : pre = [] ∨ (pre = [0] ∧ p = F.root) := t
section
variable {M : Mc} {g : Gh} {mu : Nat → Nat} {h k : Nat}
/-- the new half that a put goes on with is not full -/
theorem half_ok {F : Fo} {g : Gh} (T : FoOk F g) {n : Int} {p : Pg} (hp : F.pages n = some p) (h3 : p.row.length = 3) (new : Int) : (halfL p new).row.length ≤ 2 ∧ (halfR p).row.length ≤ 2 ∧ g.lo n < p.row.getD 1 0 ∧ p.row.getD 1 0 < g.hi n := by
  obtain ⟨a, b, c, hr, q1, q2, q3⟩ := halves (T.page n p hp) h3
  have e : p.row.getD 1 0 = b := by rw [hr]; rfl
  rw [e]
  unfold halfL halfR
  refine ⟨?_, ?_, q1, q2⟩
  · split <;> rw [hr] <;> simp
  · split <;> rw [hr] <;> simp
theorem needs_put {q : Pg} {d : Deed} {key : Int} (hd : d = .put key) (h : q.row.length ≤ 2) : needs q d = 0 := by
  rw [hd]
  unfold needs
  simp only
  rw [if_neg (by omega)]
theorem needs_take {q : Pg} {d : Deed} {key : Int} (hd : d = .take key) (h : q.row.length ≠ 1) : needs q d = 0 := by
  rw [hd]
  unfold needs
  simp only
  rw [if_neg h]
theorem split_gate_ok {q : Pg} (H : Here M g mu h k M.fo.root q) {key : Int} (hd : M.deed h = .put key) (h3 : q.row.length = 3) (hh : (M.ha h).held = [0, M.fo.root]) (hk : 20 * g.lv M.fo.root + 260 < k) : Did M g mu h (M.put h key) := by
  have T := H.a.inv.tree
  have l0 := H.a.inv.last0
  have own := H.a.own
  have SO := split_gate T l0 H.pg h3
  obtain ⟨w1, w2, w3, w4⟩ := half_ok T H.pg h3 (M.fo.last + 1)
  have hl : M.lastP h = M.fo.root := H.last
  have hrl := T.last _ _ H.pg
  have hrp := (T.page _ _ H.pg).pos
  have hh6 := height_ok T
  have hi := H.inn
  rw [hd] at hi
  have hi' : Inn g M.fo.root key := hi
  generalize hb : q.row.getD 1 0 = b at *
  obtain ⟨T', O, has⟩ := SO
  have hpg : M.fo.pg M.fo.root = q := Fo.pg_some H.pg
  have eF : M.fo.split 0 M.fo.root = { pages := setP (setP (setP M.fo.pages (M.fo.last + 1) (halfR q)) M.fo.root (halfL q (M.fo.last + 1))) (M.fo.last + 2) ⟨[b], [M.fo.root, M.fo.last + 1], none⟩, last := M.fo.last + 2, root := M.fo.last + 2 } := by
    unfold Fo.split
    simp only [hpg, hb, if_pos]
    unfold Fo.add Fo.set
    simp only [Fo.mk.injEq]
    have : M.fo.last + 1 + 1 = M.fo.last + 2 := by omega
    rw [this]
    exact ⟨rfl, rfl, trivial⟩
  generalize hat : (if b ≤ key then M.fo.last + 1 else M.fo.root) = at_
  have hat' : at_ = M.fo.last + 1 ∨ at_ = M.fo.root := by rw [← hat]; split; exact .inl rfl; exact .inr rfl
  have e : M.put h key = (M.to h (M.fo.split 0 M.fo.root) { M.ha h with held := [0, M.fo.last + 2, at_] } M.ends, .splits M.fo.root (M.fo.last + 1)) := by
    unfold Mc.put
    simp only [hl, hpg, if_pos h3, hh, hb, hat]
    rw [if_pos (show ([0, M.fo.root] : List Int).dropLast.getLastD 0 = 0 from rfl)]
    congr 1
    unfold Mc.to Mc.hold Mc.setHa Mc.lockP Mc.freeP
    have e12 : M.fo.last + 1 + 1 = M.fo.last + 2 := by omega
    simp only [Mc.mk.injEq, true_and, and_true, e12]
    refine ⟨rfl, ?_, ?_⟩
    · funext p
      simp only [List.mem_cons, List.not_mem_nil, or_false, hh]
      have z0 := own 0 (by rw [hh]; simp)
      have zr := own M.fo.root (by rw [hh]; simp)
      by_cases p1 : p = at_
      · simp [p1]
      · by_cases p2 : p = M.fo.last + 2
        · simp [p2]
        · by_cases p3 : p = M.fo.root
          · have : M.fo.root ≠ 0 := by omega
            simp [p3] at p1 p2 ⊢
            rw [if_neg p1, if_neg p2, if_neg]
            rintro (w | w | w)
            · exact this w
            · exact p2 w
            · exact p1 w
          · by_cases p4 : p = 0
            · subst p4
              have : (0 : Int) ≠ M.fo.last + 2 := by omega
              simp [p1, p3, this]
              exact z0
            · simp [p1, p2, p3, p4]
    · rfl
  rw [e]
  have ne1 : M.fo.root ≠ M.fo.last + 2 := by omega
  have ne2 : M.fo.last + 1 ≠ M.fo.last + 2 := by omega
  have ne3 : M.fo.last + 1 ≠ M.fo.root := by omega
  have u1 : (M.fo.split 0 M.fo.root).pages (M.fo.last + 2) = some ⟨[b], [M.fo.root, M.fo.last + 1], none⟩ := by rw [eF]; exact setP_same
  have u2 : (M.fo.split 0 M.fo.root).pages M.fo.root = some (halfL q (M.fo.last + 1)) := by rw [eF]; show setP _ _ _ _ = _; rw [setP_ne ne1, setP_same]
  have u3 : (M.fo.split 0 M.fo.root).pages (M.fo.last + 1) = some (halfR q) := by rw [eF]; show setP _ _ _ _ = _; rw [setP_ne ne2, setP_ne ne3, setP_same]
  have u4 : (M.fo.split 0 M.fo.root).root = M.fo.last + 2 := by rw [eF]
  have u5 : (M.fo.split 0 M.fo.root).last = M.fo.last + 2 := by rw [eF]
  have v1 : (splitG M.fo g 0 M.fo.root b).lv (M.fo.last + 2) = g.lv M.fo.root + 1 := by simp [splitG, Gh.put]
  have v2 : (splitG M.fo g 0 M.fo.root b).lo M.fo.root = g.lo M.fo.root ∧ (splitG M.fo g 0 M.fo.root b).hi M.fo.root = b := by
    have n1 : M.fo.root ≠ M.fo.last + 1 := by omega
    simp [splitG, Gh.put, n1, ne1]
  have v3 : (splitG M.fo g 0 M.fo.root b).lo (M.fo.last + 1) = b ∧ (splitG M.fo g 0 M.fo.root b).hi (M.fo.last + 1) = g.hi M.fo.root := by simp [splitG, Gh.put, ne2]
  refine H.a.go (k' := 20 * g.lv M.fo.root + 260) T' (O.mono fun x hx => ?_) (fun z => by rw [hh] at z; simp at z) (by omega) (by omega) ?_ rfl rfl rfl hk (by omega) ?_ (fun z => absurd z (not_walk (.inl hd))) (fun p hp hn => ?_) has (fun _ z => by cases z)
  · rw [hh]
    rcases hx with w | w | w | w
    · left; simp [w]
    · right; omega
    · right; omega
    · exact absurd rfl w.1
  · show ([0, M.fo.last + 2, at_] : List Int).Nodup
    have x1 : (0 : Int) ≠ M.fo.last + 2 := by omega
    have x2 : (0 : Int) ≠ at_ := by rcases hat' with w | w <;> omega
    have x3 : M.fo.last + 2 ≠ at_ := by rcases hat' with w | w <;> omega
    simp [x1, x2, x3]
  · show Sh _ _ _ _ _ [0, M.fo.last + 2, at_] (M.ha h).want (M.ha h).again _
    rw [H.want, H.again]
    have key2 : ∃ q', (M.fo.split 0 M.fo.root).pages at_ = some q' ∧ q'.row.length ≤ 2 ∧ Inn (splitG M.fo g 0 M.fo.root b) at_ key := by
      by_cases hbk : b ≤ key
      · rw [if_pos hbk] at hat
        subst hat
        exact ⟨_, u3, w2, by rw [v3.1]; exact hbk, by rw [v3.2]; exact hi'.2⟩
      · rw [if_neg hbk] at hat
        subst hat
        exact ⟨_, u2, w1, by rw [v2.1]; exact hi'.1, by rw [v2.2]; omega⟩
    obtain ⟨q', z1, z2, z3⟩ := key2
    have sh := Sh.two (F := M.fo.split 0 M.fo.root) (g := splitG M.fo g 0 M.fo.root b) (left := M.left) (d := M.deed h) (al := HH.al M h) (pre := [0]) (p := M.fo.last + 2) (c := at_) (.inr ⟨rfl, u4.symm⟩) u1 (by rcases hat' with w | w <;> rw [w] <;> simp) z1 (by rw [hd]; exact z3) (by rw [hd]; exact .inr z2)
    rw [needs_put hd z2, v1] at sh
    rw [show 20 * g.lv M.fo.root + 260 = 20 * (g.lv M.fo.root + 1) + 240 + 0 by omega]
    exact sh
  · have hp' : p ∈ ([0, M.fo.last + 2, at_] : List Int) := hp
    have hlk : ∀ x, M.fo.last < x → M.locks x = none := fun x hx => by
      cases hlx : M.locks x with
      | none => rfl
      | some j =>
        obtain ⟨j1, j2⟩ := (H.a.inv.lks x j).mp hlx
        have HJ := H.a.inv.hand j j1
        have : x = 0 ∨ ∃ q, M.fo.pages x = some q := by
          rcases Nat.lt_or_ge (M.ha j).at_ (M.ha j).prog.length with w | w
          · obtain ⟨kk, _, _, s⟩ := HJ.go w
            exact s.held T x j2
          · rw [(HJ.rest (Nat.le_antisymm HJ.le w)).1] at j2
            simp at j2
        rcases this with w | ⟨qq, w⟩
        · omega
        · have := T.last _ _ w; omega
    rw [hh] at hn
    simp only [List.mem_cons, List.not_mem_nil, or_false, not_or] at hp' hn
    rcases hp' with w | w | w
    · exact absurd w hn.1
    · exact ⟨hlk p (by omega), .inl (by omega)⟩
    · rcases hat' with w' | w'
      · exact ⟨hlk p (by omega), .inl (by omega)⟩
      · exact absurd (w.trans w') hn.2
theorem free_new (I : INV M g mu) {x : Int} (hx : M.fo.last < x) : M.locks x = none := by
  have T := I.tree
  have l0 := I.last0
  cases hlx : M.locks x with
  | none => rfl
  | some j =>
    obtain ⟨j1, j2⟩ := (I.lks x j).mp hlx
    have HJ := I.hand j j1
    have : x = 0 ∨ ∃ q, M.fo.pages x = some q := by
      rcases Nat.lt_or_ge (M.ha j).at_ (M.ha j).prog.length with w | w
      · obtain ⟨kk, _, _, s⟩ := HJ.go w
        exact s.held T x j2
      · rw [(HJ.rest (Nat.le_antisymm HJ.le w)).1] at j2
        simp at j2
    rcases this with w | ⟨qq, w⟩
    · omega
    · have := T.last _ _ w; omega
theorem split_below_ok {here p : Int} {q u : Pg} {pre : List Int} (H : Here M g mu h k here q) {key : Int} (hd : M.deed h = .put key) (h3 : q.row.length = 3) (hh : (M.ha h).held = pre ++ [p, here]) (t : Top M.fo pre p) (hu : M.fo.pages p = some u) (hc : here ∈ u.kids) (h2 : u.row.length ≤ 2) (hk : 20 * g.lv p + 240 < k) : Did M g mu h (M.put h key) := by
  have T := H.a.inv.tree
  have l0 := H.a.inv.last0
  have own := H.a.own
  have hnd := H.a.nd
  have p0 : p ≠ 0 := by have := (T.page _ _ hu).pos; omega
  have SO := split_below T l0 p0 H.pg h3 hu hc h2
  obtain ⟨w1, w2, w3, w4⟩ := half_ok T H.pg h3 (M.fo.last + 1)
  have hl : M.lastP h = here := H.last
  have hrl := T.last _ _ H.pg
  have hrp := (T.page _ _ H.pg).pos
  have hul := T.last _ _ hu
  have hh6 := height_ok T
  have htop := T.le_top hu
  have hi := H.inn
  rw [hd] at hi
  have hi' : Inn g here key := hi
  generalize hb : q.row.getD 1 0 = b at *
  obtain ⟨T', O, has⟩ := SO
  have hpg : M.fo.pg here = q := Fo.pg_some H.pg
  have hpu : M.fo.pg p = u := Fo.pg_some hu
  have hph : p ≠ here := fun z => by
    obtain ⟨_, _, hlv, _⟩ := T.kid hu hc
    rw [z] at hlv; omega
  have eF : M.fo.split p here = { pages := setP (setP (setP M.fo.pages (M.fo.last + 1) (halfR q)) here (halfL q (M.fo.last + 1))) p (HH.beside u here b (M.fo.last + 1)), last := M.fo.last + 1, root := M.fo.root } := by
    unfold Fo.split
    simp only [hpg, hb, hpu, if_neg p0]
    rfl
  generalize hat : (if b ≤ key then M.fo.last + 1 else here) = at_
  have hat' : at_ = M.fo.last + 1 ∨ at_ = here := by rw [← hat]; split; exact .inl rfl; exact .inr rfl
  have hdl : (pre ++ [p, here]).dropLast = pre ++ [p] := by
    rw [show pre ++ [p, here] = (pre ++ [p]) ++ [here] by simp, List.dropLast_concat]
  have hgl : (pre ++ [p]).getLastD 0 = p := snoc_last
  have e : M.put h key = (M.to h (M.fo.split p here) { M.ha h with held := pre ++ [p, at_] } M.ends, .splits here (M.fo.last + 1)) := by
    unfold Mc.put
    simp only [hl, hpg, if_pos h3, hh, hb, hat, hdl, hgl]
    rw [if_neg p0]
    congr 1
    unfold Mc.to Mc.hold Mc.setHa Mc.lockP Mc.freeP
    simp only [Mc.mk.injEq, true_and, and_true, List.append_assoc, List.cons_append, List.nil_append]
    funext x
    have zx := own x
    rw [hh] at zx ⊢
    rw [hh] at hnd
    simp only [List.mem_append, List.mem_cons, List.not_mem_nil, or_false] at zx ⊢
    have hpre : here ∉ pre := fun z => by
      rw [List.nodup_append] at hnd
      exact hnd.2.2 _ z here (by simp) rfl
    by_cases p1 : x = at_
    · simp [p1]
    · by_cases p3 : x = here
      · rw [if_neg p1, if_pos p3, if_neg, if_pos (.inr (.inr p3))]
        rintro (w | w | w)
        · rw [p3] at w; exact hpre w
        · exact hph (w.symm.trans p3)
        · exact p1 w
      · rw [if_neg p1, if_neg p3]
        by_cases p4 : x ∈ pre ∨ x = p
        · rw [if_pos (by rcases p4 with w | w; exact .inl w; exact .inr (.inl w))]
          exact zx (by rcases p4 with w | w; exact .inl w; exact .inr (.inl w))
        · simp only [not_or] at p4
          rw [if_neg, if_neg]
          · rintro (w | w | w)
            · exact p4.1 w
            · exact p4.2 w
            · exact p3 w
          · rintro (w | w | w)
            · exact p4.1 w
            · exact p4.2 w
            · exact p1 w
  rw [e]
  have ne1 : here ≠ M.fo.last + 1 := by omega
  have ne2 : M.fo.last + 1 ≠ p := by omega
  have u1 : (M.fo.split p here).pages p = some (HH.beside u here b (M.fo.last + 1)) := by rw [eF]; exact setP_same
  have u2 : (M.fo.split p here).pages here = some (halfL q (M.fo.last + 1)) := by rw [eF]; show setP _ _ _ _ = _; rw [setP_ne (Ne.symm hph), setP_same]
  have u3 : (M.fo.split p here).pages (M.fo.last + 1) = some (halfR q) := by rw [eF]; show setP _ _ _ _ = _; rw [setP_ne ne2, setP_ne (Ne.symm ne1), setP_same]
  have u4 : (M.fo.split p here).root = M.fo.root := by rw [eF]
  have u5 : (M.fo.split p here).last = M.fo.last + 1 := by rw [eF]
  have v1 : (splitG M.fo g p here b).lv p = g.lv p := by simp [splitG, Gh.put, p0, hph, Ne.symm ne2]
  have v2 : (splitG M.fo g p here b).lo here = g.lo here ∧ (splitG M.fo g p here b).hi here = b := by
    simp [splitG, Gh.put, p0, ne1]
  have v3 : (splitG M.fo g p here b).lo (M.fo.last + 1) = b ∧ (splitG M.fo g p here b).hi (M.fo.last + 1) = g.hi here := by simp [splitG, Gh.put, p0]
  have hpre2 : ∀ x ∈ pre, x = 0 := fun x hx => by
    rcases t with w | ⟨w, _⟩
    · rw [w] at hx; simp at hx
    · rw [w] at hx; simpa using hx
  refine H.a.go (k' := 20 * g.lv p + 240) T' (O.mono fun x hx => ?_) (fun _ => u4) (by omega) (by omega) ?_ rfl rfl rfl hk (by omega) ?_ (fun z => absurd z (not_walk (.inl hd))) (fun x hx hn => ?_) has (fun _ z => by cases z)
  · rw [hh]
    rcases hx with w | w | w | w
    · left; simp [w]
    · right; omega
    · exact absurd w.1 p0
    · left; simp [w.2]
  · show (pre ++ [p, at_]).Nodup
    rw [hh, List.nodup_append] at hnd
    have x3 : p ≠ at_ := by rcases hat' with w | w <;> rw [w] <;> first | omega | exact hph
    refine List.nodup_append.mpr ⟨hnd.1, by simp [x3], fun x hx y hy z => ?_⟩
    have := hpre2 x hx
    have hy' : y = p ∨ y = at_ := by simpa using hy
    rcases hy' with w | w
    · exact p0 (by rw [← w, ← z]; exact this)
    · rcases hat' with w' | w'
      · omega
      · omega
  · show Sh _ _ _ _ _ (pre ++ [p, at_]) (M.ha h).want (M.ha h).again _
    rw [H.want, H.again]
    have key2 : ∃ q', (M.fo.split p here).pages at_ = some q' ∧ q'.row.length ≤ 2 ∧ Inn (splitG M.fo g p here b) at_ key := by
      by_cases hbk : b ≤ key
      · rw [if_pos hbk] at hat
        subst hat
        exact ⟨_, u3, w2, by rw [v3.1]; exact hbk, by rw [v3.2]; exact hi'.2⟩
      · rw [if_neg hbk] at hat
        subst hat
        exact ⟨_, u2, w1, by rw [v2.1]; exact hi'.1, by rw [v2.2]; omega⟩
    obtain ⟨q', z1, z2, z3⟩ := key2
    have mk : at_ ∈ (HH.beside u here b (M.fo.last + 1)).kids := by
      show at_ ∈ u.kids.take (u.kids.idxOf here + 1) ++ (M.fo.last + 1) :: u.kids.drop (u.kids.idxOf here + 1)
      rcases hat' with w | w
      · rw [w]; simp
      · rw [w]
        refine List.mem_append_left _ ?_
        have hx := idx_lt hc
        exact List.mem_take_iff_getElem.mpr ⟨u.kids.idxOf here, by omega, List.getElem_idxOf hx⟩
    have sh := Sh.two (F := M.fo.split p here) (g := splitG M.fo g p here b) (left := M.left) (d := M.deed h) (al := HH.al M h) (pre := pre) (p := p) (c := at_) (by rcases t with w | ⟨w, w'⟩; exact .inl w; exact .inr ⟨w, by rw [u4]; exact w'⟩) u1 mk z1 (by rw [hd]; exact z3) (by rw [hd]; exact .inr z2)
    rw [needs_put hd z2, v1] at sh
    exact sh
  · have hx' : x ∈ pre ++ [p, at_] := hx
    rw [hh] at hn
    simp only [List.mem_append, List.mem_cons, List.not_mem_nil, or_false, not_or] at hx' hn
    rcases hx' with w | w | w
    · exact absurd w hn.1
    · exact absurd w hn.2.1
    · rcases hat' with w' | w'
      · exact ⟨free_new H.a.inv (by omega), .inl (by omega)⟩
      · exact absurd (w.trans w') hn.2.2
end

/-! ### neighbours, mending -/
section
variable {M : Mc} {g : Gh} {mu : Nat → Nat} {h k : Nat}
theorem nb_ok {here p : Int} {q u : Pg} {pre : List Int} (H : Here M g mu h k here q) {key : Int} (hd : M.deed h = .take key) (h1 : q.row.length = 1) (hh : (M.ha h).held = pre ++ [p, here]) (t : Top M.fo pre p) (hu : M.fo.pages p = some u) (hc : here ∈ u.kids) (ok : pre = [0] ∨ 2 ≤ u.row.length) (hk : 20 * g.lv p + 249 < k) : Did M g mu h (M.neighbour h p here) := by
  have T := H.a.inv.tree
  have hpu : M.fo.pg p = u := Fo.pg_some hu
  have ndk := kids_nodup T hu
  have hix := idx_lt hc
  have hh6 := height_ok T
  have htop := T.le_top hu
  have hi := H.inn
  rw [hd] at hi
  have hi' : Inn g here key := hi
  have PU := T.page _ _ hu
  have hlen : 2 ≤ u.kids.length := by
    rcases PU.body with ⟨_, z, _⟩ | ⟨v, _, w, _, ch⟩
    · rw [z] at hc; simp at hc
    · have := ch.len; omega
  unfold Mc.neighbour
  simp only [hpu]
  by_cases hb : u.kids.idxOf here + 1 < u.kids.length
  · rw [if_pos hb]
    obtain ⟨m1, m2⟩ := idx_getD ndk hb
    unfold Mc.goes
    rw [wants_to H.a.own]
    refine H.a.go T (Out.refl _ _ _) (fun _ => rfl) (Int.le_refl _) (by omega) H.a.nd rfl rfl rfl hk (by omega) ?_ (fun _ => rfl) (fun x hx hn => absurd hx hn) (fun _ => Iff.rfl) (fun _ z => by cases z)
    show Sh _ _ _ _ _ (M.ha h).held (some _) (M.ha h).again _
    rw [hh, H.again]
    exact .nb t hu hc m1 H.pg h1 hi' hd ok (.inl m2.symm)
  · rw [if_neg hb]
    obtain ⟨m1, m2⟩ := idx_getD ndk (show u.kids.idxOf here - 1 < u.kids.length by omega)
    generalize u.kids.getD (u.kids.idxOf here - 1) 0 = n at *
    have adj : u.kids.idxOf n + 1 = u.kids.idxOf here := by omega
    by_cases hl : M.left = true
    · rw [if_pos hl]
      have e1 : M.leave1 h here = M.to h M.fo { M.ha h with held := pre ++ [p] } M.ends := by
        have e0 := leave_to (ps := [here]) H.a.own H.a.nd (fun x hx => by rw [List.mem_singleton.mp hx]; exact H.mem)
        rw [show M.leave h [here] = M.leave1 h here from rfl] at e0
        have e3 : ((M.ha h).held.filter fun x => decide (x ∉ [here])) = pre ++ [p] := by
          have nd := H.a.nd
          rw [hh] at nd ⊢
          rw [show pre ++ [p, here] = (pre ++ [p]) ++ [here] by simp] at nd ⊢
          rw [List.nodup_append] at nd
          rw [List.filter_append, List.filter_eq_self.mpr]
          · simp
          · intro x hx
            have := nd.2.2 x hx here (by simp)
            simpa using this
        rw [e0, e3]
      rw [e1]
      have e2 : ((M.to h M.fo { M.ha h with held := pre ++ [p] } M.ends).setHa h { (M.to h M.fo { M.ha h with held := pre ++ [p] } M.ends).ha h with again := some here }) = M.to h M.fo { M.ha h with held := pre ++ [p], again := some here } M.ends := by
        rw [to_ha]
        unfold Mc.setHa Mc.to
        simp only [setHa_eq]
      rw [e2]
      unfold Mc.goes
      rw [to_wants]
      have nd := H.a.nd
      rw [hh] at nd
      refine H.a.go T (Out.refl _ _ _) (fun _ => rfl) (Int.le_refl _) (by omega) ?_ rfl rfl rfl hk (by omega) ?_ (fun _ => rfl) (fun x hx hn => ?_) (fun _ => Iff.rfl) (fun _ z => by cases z)
      · show (pre ++ [p]).Nodup
        rw [show pre ++ [p, here] = (pre ++ [p]) ++ [here] by simp, List.nodup_append] at nd
        exact nd.1
      · show Sh _ _ _ _ _ (pre ++ [p]) (some n) (some here) _
        refine .nbA t hu hc m1 H.pg h1 hi' hd ok hl adj fun j hj hne hcj => ?_
        exact absurd (H.a.inv.one hj H.a.hh hcj H.mem) hne
      · have hx' : x ∈ pre ++ [p] := hx
        rw [hh] at hn
        simp only [List.mem_append, List.mem_cons, List.not_mem_nil, or_false, not_or] at hx' hn
        rcases hx' with w | w
        · exact absurd w hn.1
        · exact absurd w hn.2.1
    · rw [if_neg hl]
      unfold Mc.goes
      rw [wants_to H.a.own]
      refine H.a.go T (Out.refl _ _ _) (fun _ => rfl) (Int.le_refl _) (by omega) H.a.nd rfl rfl rfl hk (by omega) ?_ (fun _ => rfl) (fun x hx hn => absurd hx hn) (fun _ => Iff.rfl) (fun _ z => by cases z)
      show Sh _ _ _ _ _ (M.ha h).held (some n) (M.ha h).again _
      rw [hh, H.again]
      exact .nb t hu hc m1 H.pg h1 hi' hd ok (.inr ⟨by simpa using hl, adj⟩)
/-- which two pages mend has -/
structure Mend (M : Mc) (g : Gh) (h : Nat) (pre : List Int) (p a b c key : Int) (u q : Pg) : Prop where
  held : (M.ha h).held = pre ++ [p, a, b]
  t : Top M.fo pre p
  hu : M.fo.pages p = some u
  ma : a ∈ u.kids
  mb : b ∈ u.kids
  hc : c = a ∨ c = b
  hq : M.fo.pages c = some q
  h1 : q.row.length = 1
  inn : Inn g c key
  ok : pre = [0] ∨ 2 ≤ u.row.length
  adj : u.kids.idxOf a + 1 = u.kids.idxOf b ∨ u.kids.idxOf b + 1 = u.kids.idxOf a
theorem Mend.lies {pre : List Int} {p a b c key : Int} {u q : Pg} (T : FoOk M.fo g) (m : Mend M g h pre p a b c key u q) : M.fo.child p key = c := by
  have PU := T.page _ _ m.hu
  have mc : c ∈ u.kids := by rcases m.hc with e | e <;> rw [e]; exact m.ma; exact m.mb
  obtain ⟨qc, k1, k2, k3, k4, k5⟩ := T.kid m.hu mc
  have i := m.inn
  have hk : u.kids ≠ [] := fun z => by rw [z] at mc; simp at mc
  obtain ⟨q', c1, c2, c3, c4⟩ := child_at T m.hu hk (key := key) ⟨by have := i.1; omega, by have := i.2; omega⟩
  exact T.same c2 k1 (by omega) c3.1 c3.2 i.1 i.2
/-- the kept page of two, behind a leave -/
theorem held_less {pre : List Int} {p x y : Int} {held : List Int} (nd : held.Nodup) {a b : Int} (hh : held = pre ++ [p, a, b]) (hx : (x = a ∧ y = b) ∨ (x = b ∧ y = a)) : held.filter (fun z => decide (z ∉ [y])) = pre ++ [p, x] := by
  rw [hh] at nd ⊢
  rw [List.nodup_append] at nd
  obtain ⟨n1, n2, n3⟩ := nd
  simp only [List.nodup_cons, List.mem_cons, List.not_mem_nil, or_false, not_or] at n2
  have f1 : pre.filter (fun z => decide (z ∉ [y])) = pre := List.filter_eq_self.mpr fun z hz => by
    have h1 := n3 z hz a (by simp)
    have h2 := n3 z hz b (by simp)
    rcases hx with ⟨_, e⟩ | ⟨_, e⟩ <;> simp [e, h1, h2]
  rw [List.filter_append, f1]
  rcases hx with ⟨e1, e2⟩ | ⟨e1, e2⟩
  · subst e1; subst e2
    have h1 := n2.1.2
    have h2 := n2.2.1
    simp [List.filter_cons, h1, h2]
  · subst e1; subst e2
    have h1 := n2.1.1
    have h2 := n2.2.1
    simp [List.filter_cons, h1, Ne.symm h2]
theorem mend_step (a0 : At M g mu h k) (wn : (M.ha h).want = none) (ag : (M.ha h).again = none) {pre : List Int} {p a b c key : Int} {u q : Pg} (hd : M.deed h = .take key) (m : Mend M g h pre p a b c key u q) (hk : 20 * g.lv p + 242 < k) : Did M g mu h (M.mend h p a b key) := by
  have T := a0.inv.tree
  have nd := a0.nd
  have hl := m.lies T
  have hh6 := height_ok T
  have htop := T.le_top m.hu
  have hpu : M.fo.pg p = u := Fo.pg_some m.hu
  have PU := T.page _ _ m.hu
  have p0 : p ≠ 0 := by have := PU.pos; omega
  have hpre2 : ∀ x ∈ pre, x = 0 := fun x hx => by
    rcases m.t with w | ⟨w, _⟩
    · rw [w] at hx; simp at hx
    · rw [w] at hx; simpa using hx
  generalize hL : (if u.kids.idxOf b < u.kids.idxOf a then b else a) = L
  generalize hR : (if u.kids.idxOf b < u.kids.idxOf a then a else b) = R
  have hLR : ((L = a ∧ R = b) ∨ (L = b ∧ R = a)) ∧ u.kids.idxOf L + 1 = u.kids.idxOf R ∧ L ∈ u.kids ∧ R ∈ u.kids := by
    rcases m.adj with w | w
    · rw [if_neg (by omega)] at hL hR
      subst hL; subst hR
      exact ⟨.inl ⟨rfl, rfl⟩, w, m.ma, m.mb⟩
    · rw [if_pos (by omega)] at hL hR
      subst hL; subst hR
      exact ⟨.inr ⟨rfl, rfl⟩, w, m.mb, m.ma⟩
  obtain ⟨lr, adj, mL, mR⟩ := hLR
  obtain ⟨p1, p2, mid, P⟩ := pair_of T m.hu mL mR adj
  have cLR : c = L ∨ c = R := by
    rcases m.hc with w | w <;> rcases lr with ⟨w1, w2⟩ | ⟨w1, w2⟩ <;> rw [w, w1, w2] <;> simp
  generalize hB : L + R - c = B
  have hcB : (c = L ∧ B = R) ∨ (c = R ∧ B = L) := by
    rcases cLR with w | w
    · exact .inl ⟨w, by omega⟩
    · exact .inr ⟨w, by omega⟩
  have cab : (c = a ∧ B = b) ∨ (c = b ∧ B = a) := by
    rcases hcB with ⟨w1, w2⟩ | ⟨w1, w2⟩ <;> rcases lr with ⟨w3, w4⟩ | ⟨w3, w4⟩
    · exact .inl ⟨w1.trans w3, w2.trans w4⟩
    · exact .inr ⟨w1.trans w3, w2.trans w4⟩
    · exact .inr ⟨w1.trans w4, w2.trans w3⟩
    · exact .inl ⟨w1.trans w4, w2.trans w3⟩
  have em : M.mend h p a b key = (if 1 < (M.fo.pg B).row.length then
      (({ M with fo := M.fo.moved p L R (decide (c = L)) }).leave1 h B, .moves c B)
    else if u.row.length = 1 then
      ({ (({ M with fo := M.fo.joined p L R }).leave1 h R).leave1 h p with fo := { (M.fo.joined p L R).del p with root := L } }, .joins L R)
    else (({ M with fo := M.fo.joined p L R }).leave1 h R, .joins L R)) := by
    unfold Mc.mend
    simp only [hpu, hl, hL, hR, hB]
    rfl
  rw [em]
  have hq := m.hq
  have h1 := m.h1
  have inn := m.inn
  have ki1 := P.lt1
  have ki2 := P.lt2
  have kmid := P.mid
  have kmid2 := P.mid2
  have inS : ∀ F' : Fo, ∀ g' : Gh, Out M.fo.pages F'.pages g g' (movedS p L R) → Out M.fo.pages F'.pages g g' fun x => x ∈ (M.ha h).held ∨ M.fo.last < x := fun F' g' O => O.mono fun x hx => by
    left
    rw [m.held]
    rcases hx with w | w | w <;> rw [w] <;> rcases lr with ⟨w1, w2⟩ | ⟨w1, w2⟩ <;> simp [w1, w2]
  have mB : B ∈ (M.ha h).held := by rw [m.held]; rcases cab with ⟨_, w⟩ | ⟨_, w⟩ <;> rw [w] <;> simp
  have mRh : R ∈ (M.ha h).held := by rw [m.held]; rcases lr with ⟨_, w⟩ | ⟨_, w⟩ <;> rw [w] <;> simp
  have sub : ∀ {x y : Int}, x = a ∨ x = b → y ∈ pre ++ [p, x] → y ∈ (M.ha h).held := fun {x y} hx hy => by
    rw [m.held]
    simp only [List.mem_append, List.mem_cons, List.not_mem_nil, or_false] at hy ⊢
    rcases hy with w | w | w
    · exact .inl w
    · exact .inr (.inl w)
    · rcases hx with e | e
      · exact .inr (.inr (.inl (w.trans e)))
      · exact .inr (.inr (.inr (w.trans e)))
  have nd2 : ∀ {x y : Int}, ((x = a ∧ y = b) ∨ (x = b ∧ y = a)) → (pre ++ [p, x]).Nodup := fun {x y} hx => by
    rw [← held_less nd m.held hx]
    exact nd.filter _
  by_cases hb : 1 < (M.fo.pg B).row.length
  · rw [if_pos hb]
    have mo : ∃ key', g.lo L < key' ∧ key' < g.hi R ∧ MovedOk M.fo (M.fo.moved p L R (decide (c = L))) g p L R key' ∧ ∃ q', (M.fo.moved p L R (decide (c = L))).pages c = some q' ∧ q'.row.length = 2 ∧ (M.fo.moved p L R (decide (c = L))).pages p = some { u with row := u.row.set (u.kids.idxOf L) key' } ∧ Inn (movedG g L R key') c key := by
      rcases hcB with ⟨w1, w2⟩ | ⟨w1, w2⟩
      · subst w1; subst w2
        rw [P.ha] at hq
        cases hq
        rw [Fo.pg_some P.hb] at hb
        rw [decide_eq_true rfl]
        obtain ⟨key', z1, z2, z3, q1, q2, z4, z5, z6, z7, z8, _, _⟩ := moved_ok T P true (by rw [if_pos rfl]; exact ⟨h1, hb⟩)
        rw [if_pos rfl] at z6
        refine ⟨key', z1, z2, z3, q1, z4, z6.symm, z7, ?_⟩
        have := z8 rfl
        have := inn.2
        have n1 := P.nab
        exact ⟨by simp [movedG, Gh.put, n1]; exact inn.1, by simp [movedG, Gh.put, n1]; omega⟩
      · subst w1; subst w2
        rw [P.hb] at hq
        cases hq
        rw [Fo.pg_some P.ha] at hb
        rw [decide_eq_false (Ne.symm P.nab)]
        obtain ⟨key', z1, z2, z3, q1, q2, z4, z5, z6, z7, _, z8, _⟩ := moved_ok T P false (by rw [if_neg (by decide)]; exact ⟨hb, h1⟩)
        rw [if_neg (by decide)] at z6
        refine ⟨key', z1, z2, z3, q2, z5, z6.symm, z7, ?_⟩
        have := z8 rfl
        have := inn.1
        exact ⟨by simp [movedG, Gh.put]; omega, by simp [movedG, Gh.put]; exact inn.2⟩
    obtain ⟨key', x1, x2, x3, q', x4, x5, x6, x7⟩ := mo
    generalize M.fo.moved p L R (decide (c = L)) = F' at *
    have e0 := leave_to (M := { M with fo := F' }) (h := h) (ps := [B]) a0.own nd (fun x hx => by rw [List.mem_singleton.mp hx]; exact mB)
    rw [show ({ M with fo := F' } : Mc).leave h [B] = ({ M with fo := F' } : Mc).leave1 h B from rfl] at e0
    rw [e0]
    have e1 : (({ M with fo := F' } : Mc).ha h).held.filter (fun x => decide (x ∉ [B])) = pre ++ [p, c] := held_less nd m.held cab
    rw [e1]
    refine a0.go (F' := F') (g' := movedG g L R key') (k' := 20 * g.lv p + 240) (x := { M.ha h with held := pre ++ [p, c] }) x3.ok (inS _ _ x3.out) (fun _ => x3.root) (by rw [x3.last]; omega) (by rw [x3.last]; omega) (nd2 cab) rfl rfl rfl (by omega) (by omega) ?_ (fun z => absurd z (not_walk (.inr (.inl hd)))) (fun x hx hn => absurd (sub m.hc hx) hn) x3.has (fun _ z => by cases z)
    show Sh _ _ _ _ _ (pre ++ [p, c]) (M.ha h).want (M.ha h).again _
    rw [wn, ag]
    have lvp : (movedG g L R key').lv p = g.lv p := by
      have n1 := P.nau
      have n2 := P.nbu
      simp [movedG, Gh.put, Ne.symm n1, Ne.symm n2]
    have sh := Sh.two (F := F') (g := movedG g L R key') (left := M.left) (d := M.deed h) (al := HH.al M h) (pre := pre) (p := p) (c := c) (by rcases m.t with w | ⟨w, w'⟩; exact .inl w; exact .inr ⟨w, by rw [x3.root]; exact w'⟩) x6 (by rcases m.hc with w | w <;> rw [w]; exact m.ma; exact m.mb) x4 (by rw [hd]; exact x7) (by rw [hd]; exact .inr (.inr (by omega)))
    rw [needs_take hd (by omega), lvp] at sh
    exact sh
  · rw [if_neg hb]
    have both : p1.row.length = 1 ∧ p2.row.length = 1 := by
      have f1 := (T.page _ _ P.ha).full1 (T.kid_ne_root m.hu mL)
      have f2 := (T.page _ _ P.hb).full1 (T.kid_ne_root m.hu mR)
      rcases hcB with ⟨w1, w2⟩ | ⟨w1, w2⟩
      · subst w1; subst w2
        rw [P.ha] at hq
        cases hq
        rw [Fo.pg_some P.hb] at hb
        exact ⟨h1, by omega⟩
      · subst w1; subst w2
        rw [P.hb] at hq
        cases hq
        rw [Fo.pg_some P.ha] at hb
        exact ⟨by omega, h1⟩
    have mLh : L ∈ (M.ha h).held := by rw [m.held]; rcases lr with ⟨w, _⟩ | ⟨w, _⟩ <;> rw [w] <;> simp
    have hLn : L = a ∨ L = b := by rcases lr with ⟨w, _⟩ | ⟨w, _⟩; exact .inl w; exact .inr w
    have hlj : (joinG g L R).lo L = g.lo L ∧ (joinG g L R).hi L = g.hi R ∧ (joinG g L R).lv L = g.lv L := by simp [joinG, Gh.put]
    have hlp : (joinG g L R).lv p = g.lv p := by
      have n1 := P.nau
      simp [joinG, Gh.put, Ne.symm n1]
    have innL : Inn (joinG g L R) L key := by
      rcases cLR with w | w
      · rw [w] at inn; exact ⟨by rw [hlj.1]; exact inn.1, by rw [hlj.2.1]; have := inn.2; omega⟩
      · rw [w] at inn; exact ⟨by rw [hlj.1]; have := inn.1; omega, by rw [hlj.2.1]; exact inn.2⟩
    have hlL := P.la
    by_cases hu1 : u.row.length = 1
    · rw [if_pos hu1]
      have pre0 : pre = [0] := by
        rcases m.ok with w | w
        · exact w
        · omega
      have proot : p = M.fo.root := by
        rcases m.t with w | ⟨_, w⟩
        · rw [w] at pre0; cases pre0
        · exact w
      generalize hF : ({ (M.fo.joined p L R).del p with root := L } : Fo) = F'
      obtain ⟨J, r1, r2, r3, q', r4, r5, _⟩ := joined_root T P both.1 both.2 hu1 proot hF.symm
      have e0 := leave_to (M := { M with fo := M.fo.joined p L R }) (h := h) (ps := [R, p]) a0.own nd (fun x hx => by
        rcases List.mem_cons.mp hx with w | w
        · rw [w]; exact mRh
        · rw [List.mem_singleton.mp w]; show p ∈ (M.ha h).held; rw [m.held]; simp)
      rw [show ({ M with fo := M.fo.joined p L R } : Mc).leave h [R, p] = (({ M with fo := M.fo.joined p L R } : Mc).leave1 h R).leave1 h p from rfl] at e0
      rw [e0]
      have e1 : (({ M with fo := M.fo.joined p L R } : Mc).ha h).held.filter (fun x => decide (x ∉ [R, p])) = [0, L] := by
        show (M.ha h).held.filter (fun x => decide (x ∉ [R, p])) = [0, L]
        have e2 : (M.ha h).held.filter (fun x => decide (x ∉ [R, p])) = ((M.ha h).held.filter (fun x => decide (x ∉ [R]))).filter fun x => decide (x ≠ p) := by
          rw [List.filter_filter]
          exact List.filter_congr fun x _ => by by_cases z1 : x = R <;> by_cases z2 : x = p <;> simp [z1, z2]
        rw [e2, held_less nd m.held lr, pre0]
        have n1 := P.nau
        have : (0 : Int) ≠ p := fun z => p0 z.symm
        simp [List.filter_cons, this, n1]
      rw [e1]
      refine a0.go (F' := F') (g' := joinG g L R) (k' := 20 * (joinG g L R).lv L + 262) (x := { M.ha h with held := [0, L] }) J.ok (inS _ _ J.out) (fun z => absurd (show 0 ∈ (M.ha h).held by rw [m.held, pre0]; simp) z) (by rw [J.last]; omega) (by rw [J.last]; omega) ?_ rfl rfl rfl (by rw [hlj.2.2]; omega) (by rw [hlj.2.2]; omega) ?_ (fun z => absurd z (not_walk (.inr (.inl hd)))) (fun x hx hn => ?_) J.has (fun _ z => by cases z)
      · have := (T.page _ _ P.ha).pos
        show ([0, L] : List Int).Nodup
        have : (0 : Int) ≠ L := by omega
        simp [this]
      · show Sh _ _ _ _ _ [0, L] (M.ha h).want (M.ha h).again _
        rw [wn, ag]
        exact .one r1.symm
      · exfalso
        have hx' : x ∈ ([0, L] : List Int) := hx
        rcases List.mem_cons.mp hx' with w | w
        · exact hn (by rw [w, m.held, pre0]; simp)
        · rw [List.mem_singleton.mp w] at hn; exact hn mLh
    · rw [if_neg hu1]
      have hu2 : 2 ≤ u.row.length := by
        rcases PU.body with ⟨_, z, _⟩ | ⟨v, _, w, _, _⟩
        · have := m.ma; rw [z] at this; simp at this
        · omega
      obtain ⟨J, r1, r2, r3, q', r4, r5, _⟩ := joined_ok T P both.1 both.2 hu2
      generalize M.fo.joined p L R = F' at *
      have e0 := leave_to (M := { M with fo := F' }) (h := h) (ps := [R]) a0.own nd (fun x hx => by rw [List.mem_singleton.mp hx]; exact mRh)
      rw [show ({ M with fo := F' } : Mc).leave h [R] = ({ M with fo := F' } : Mc).leave1 h R from rfl] at e0
      rw [e0]
      have e1 : (({ M with fo := F' } : Mc).ha h).held.filter (fun x => decide (x ∉ [R])) = pre ++ [p, L] := held_less nd m.held lr
      rw [e1]
      refine a0.go (F' := F') (g' := joinG g L R) (k' := 20 * g.lv p + 240) (x := { M.ha h with held := pre ++ [p, L] }) J.ok (inS _ _ J.out) (fun _ => r1) (by rw [J.last]; omega) (by rw [J.last]; omega) (nd2 lr) rfl rfl rfl (by omega) (by omega) ?_ (fun z => absurd z (not_walk (.inr (.inl hd)))) (fun x hx hn => absurd (sub hLn hx) hn) J.has (fun _ z => by cases z)
      show Sh _ _ _ _ _ (pre ++ [p, L]) (M.ha h).want (M.ha h).again _
      rw [wn, ag]
      have mk : L ∈ (joinU u (u.kids.idxOf L)).kids := by
        show L ∈ u.kids.eraseIdx (u.kids.idxOf L + 1)
        exact List.mem_eraseIdx_iff_getElem.mpr ⟨u.kids.idxOf L, idx_lt mL, by omega, List.getElem_idxOf _⟩
      have sh := Sh.two (F := F') (g := joinG g L R) (left := M.left) (d := M.deed h) (al := HH.al M h) (pre := pre) (p := p) (c := L) (by rcases m.t with w | ⟨w, w'⟩; exact .inl w; exact .inr ⟨w, by rw [r1]; exact w'⟩) r2 mk r4 (by rw [hd]; exact innL) (by rw [hd]; exact .inr (.inr r5))
      rw [needs_take hd (by omega), hlp] at sh
      exact sh
end

/-! ### a step of any hand -/
section
variable {M : Mc} {g : Gh} {mu : Nat → Nat} {h k : Nat}
theorem filt0 {F : Fo} {pre : List Int} {p : Int} (t : Top F pre p) : pre.filter (fun x => decide (x ≠ 0)) = [] := by
  rcases t with w | ⟨w, _⟩ <;> rw [w] <;> rfl
theorem dl1 {pre : List Int} {p c : Int} : (pre ++ [p, c]).dropLast = pre ++ [p] := by rw [show pre ++ [p, c] = (pre ++ [p]) ++ [c] by simp, List.dropLast_concat]
theorem dl2 {pre : List Int} {p a b : Int} : (pre ++ [p, a, b]).dropLast = pre ++ [p, a] := by rw [show pre ++ [p, a, b] = (pre ++ [p, a]) ++ [b] by simp, List.dropLast_concat]
theorem gl1 {pre : List Int} {p c : Int} : (pre ++ [p, c]).getLastD 0 = c := by rw [show pre ++ [p, c] = (pre ++ [p]) ++ [c] by simp]; exact snoc_last
theorem gl2 {pre : List Int} {p a b : Int} : (pre ++ [p, a, b]).getLastD 0 = b := by rw [show pre ++ [p, a, b] = (pre ++ [p, a]) ++ [b] by simp]; exact snoc_last
theorem up0 {F : Fo} : isUpper F 0 = true := by unfold isUpper; simp
theorem up_inner {F : Fo} {p : Int} {u : Pg} (hu : F.pages p = some u) (hk : u.kids ≠ []) : isUpper F p = true := by unfold isUpper; rw [Fo.pg_some hu]; simp [hk]
theorem up_leaf {F : Fo} {p : Int} {u : Pg} (hu : F.pages p = some u) (hk : u.kids = []) (h0 : p ≠ 0) : isUpper F p = false := by unfold isUpper; rw [Fo.pg_some hu]; simp [hk, h0]
theorem take_eq {here key : Int} {q : Pg} (hl : M.lastP h = here) (hq : M.fo.pages here = some q) {above : List Int} (ha : (M.ha h).held.dropLast.filter (fun x => decide (x ≠ 0)) = above) (h2 : above.length ≤ 1) :
    M.take h key = if above ≠ [] ∧ q.row.length = 1 then M.neighbour h (above.getD 0 0) here else if q.kids = [] then takeLeaf M h here q key else if above = [] ∧ q.row.length = 1 then M.goes h (M.fo.child here key) else M.down h := by
  unfold Mc.take takeLeaf
  simp only [hl, Fo.pg_some hq, ha]
  match above, h2 with
  | [], _ => rfl
  | [x], _ => rfl
theorem work_one (I : INV M g mu) (hh : h < M.n) (lt : (M.ha h).at_ < (M.ha h).prog.length) (hm : mu h = 1000 * ((M.ha h).prog.length - (M.ha h).at_ - 1) + k) (wn : (M.ha h).want = none) (ag : (M.ha h).again = none)
    (hheld : (M.ha h).held = [0, M.fo.root]) (hk : k = 20 * g.lv M.fo.root + 262) : Did M g mu h (M.work h) := by
  have T := I.tree
  obtain ⟨q, hq⟩ := T.rt
  have PQ := T.page _ _ hq
  have r0 : M.fo.root ≠ 0 := by have := PQ.pos; omega
  have hl : M.lastP h = M.fo.root := by unfold Mc.lastP; rw [hheld]; rfl
  have hdk := I.deeds h hh _ (deed_mem lt).2
  have inn : Inn g M.fo.root (M.deed h).key := ⟨by rw [T.rlo]; have := hdk.1; omega, by rw [T.rhi]; have := hdk.2.1; omega⟩
  have H : Here M g mu h k M.fo.root q := ⟨⟨I, hh, lt, hm⟩, wn, ag, by rw [hheld]; simp, by rw [hheld]; rfl, hq, inn⟩
  have hdr : (M.ha h).held.dropLast.filter (fun x => decide (x ≠ 0)) = [] := by rw [hheld]; rfl
  unfold Mc.work
  simp only [hl, if_neg r0, Fo.pg_some hq]
  cases hd : M.deed h with
  | put key =>
    show Did M g mu h (M.put h key)
    by_cases h3 : q.row.length = 3
    · exact split_gate_ok H hd h3 hheld (by omega)
    · by_cases hkd : q.kids = []
      · exact put_leaf H hd hkd h3 (by omega)
      · have e : M.put h key = M.down h := by unfold Mc.put; simp only [hl, Fo.pg_some hq, if_neg h3]; rw [if_pos hkd]
        rw [e]
        exact down_ok H hkd (by rw [hd]; have := PQ.most; show q.row.length ≤ 2; omega) (by omega)
  | take key =>
    show Did M g mu h (M.take h key)
    rw [take_eq hl hq hdr (by simp), if_neg (by simp)]
    by_cases hkd : q.kids = []
    · rw [if_pos hkd]
      exact take_leaf H hd hkd (fun z => absurd rfl z) (by omega)
    · rw [if_neg hkd]
      by_cases h1 : q.row.length = 1
      · rw [if_pos ⟨rfl, h1⟩]
        obtain ⟨qc, c1, c2, c3, c4⟩ := child_at T hq hkd inn
        rw [hd] at c1 c3
        have hh6 := height_ok T
        unfold Mc.goes
        rw [wants_to H.a.own]
        refine H.a.go (k' := 20 * g.lv M.fo.root + 255) T (Out.refl _ _ _) (fun _ => rfl) (Int.le_refl _) (by omega) H.a.nd rfl rfl rfl (by omega) (by omega) ?_ (fun _ => rfl) (fun x hx hn => absurd hx hn) (fun _ => Iff.rfl) (fun _ z => by cases z)
        show Sh _ _ _ _ _ (M.ha h).held (some _) (M.ha h).again _
        rw [hheld, ag]
        exact .oneW (pre := [0]) (.inr ⟨rfl, rfl⟩) hq c1 (by rw [hd]; exact c3) (by rw [hd]; exact .inl rfl)
      · rw [if_neg (fun z => h1 z.2)]
        refine down_ok H hkd ?_ (by omega)
        rw [hd]
        rcases PQ.body with ⟨_, z, _⟩ | ⟨v, _, w, _, _⟩
        · exact absurd z hkd
        · exact .inr (by omega)
  | ask key =>
    show Did M g mu h (if q.kids = [] then _ else _)
    by_cases hkd : q.kids = []
    · rw [if_pos hkd]; exact ask_leaf H hd hkd (by omega)
    · rw [if_neg hkd]; exact down_ok H hkd (by rw [hd]; trivial) (by omega)
  | walk lo hi =>
    show Did M g mu h (if q.kids = [] then _ else _)
    by_cases hkd : q.kids = []
    · rw [if_pos hkd]
      have b1 := PQ.low
      have b2 := PQ.ne
      have : (0 : Int) ≠ M.fo.root := fun z => r0 z.symm
      rw [hd] at inn
      have inn' : g.lo M.fo.root ≤ lo := inn.1
      refine walk_leaf H (l := M.fo.root) (ls := []) hd ?_ rfl ⟨q, hq, hkd⟩ inn' hkd (by omega)
      rw [hheld]
      simp [List.filter_cons, up0, up_leaf hq hkd r0, r0]
    · rw [if_neg hkd]; exact down_ok H hkd (by rw [hd]; trivial) (by omega)
theorem work_two (I : INV M g mu) (hh : h < M.n) (lt : (M.ha h).at_ < (M.ha h).prog.length) (hm : mu h = 1000 * ((M.ha h).prog.length - (M.ha h).at_ - 1) + k) (wn : (M.ha h).want = none) (ag : (M.ha h).again = none)
    {pre : List Int} {p c : Int} {u q : Pg} (hheld : (M.ha h).held = pre ++ [p, c]) (t : Top M.fo pre p) (hu : M.fo.pages p = some u) (hc : c ∈ u.kids) (hq : M.fo.pages c = some q) (inn : Inn g c (M.deed h).key) (ok : Two pre u q (M.deed h)) (hk : k = 20 * g.lv p + 240 + needs q (M.deed h)) : Did M g mu h (M.work h) := by
  have T := I.tree
  have PQ := T.page _ _ hq
  have PU := T.page _ _ hu
  have c0 : c ≠ 0 := by have := PQ.pos; omega
  have p0 : p ≠ 0 := by have := PU.pos; omega
  have ukd : u.kids ≠ [] := fun z => by rw [z] at hc; simp at hc
  have hl : M.lastP h = c := by unfold Mc.lastP; rw [hheld]; exact gl1
  have hlv : g.lv c + 1 = g.lv p := by obtain ⟨_, _, w, _⟩ := T.kid hu hc; exact w
  have H : Here M g mu h k c q := ⟨⟨I, hh, lt, hm⟩, wn, ag, by rw [hheld]; simp, by rw [hheld]; exact gl1, hq, inn⟩
  have hdr : (M.ha h).held.dropLast.filter (fun x => decide (x ≠ 0)) = [p] := by rw [hheld, dl1, List.filter_append, filt0 t]; simp [p0]
  have cr := T.kid_ne_root hu hc
  have f1 := PQ.full1 cr
  unfold Mc.work
  simp only [hl, if_neg c0, Fo.pg_some hq]
  cases hd : M.deed h with
  | put key =>
    show Did M g mu h (M.put h key)
    rw [hd] at ok hk
    by_cases h3 : q.row.length = 3
    · have hn : needs q (.put key) = 10 := by unfold needs; simp only; rw [if_pos h3]
      refine split_below_ok H hd h3 hheld t hu hc ?_ (by omega)
      rcases ok with w | w
      · exact w
      · omega
    · by_cases hkd : q.kids = []
      · exact put_leaf H hd hkd h3 (by omega)
      · have e : M.put h key = M.down h := by unfold Mc.put; simp only [hl, Fo.pg_some hq, if_neg h3]; rw [if_pos hkd]
        rw [e]
        exact down_ok H hkd (by rw [hd]; have := PQ.most; show q.row.length ≤ 2; omega) (by omega)
  | take key =>
    show Did M g mu h (M.take h key)
    rw [hd] at ok hk
    rw [take_eq hl hq hdr (by simp)]
    by_cases h1 : q.row.length = 1
    · rw [if_pos ⟨by simp, h1⟩]
      have hn : needs q (.take key) = 10 := by unfold needs; simp only; rw [if_pos h1]
      show Did M g mu h (M.neighbour h p c)
      refine nb_ok H hd h1 hheld t hu hc ?_ (by omega)
      rcases ok with w | w | w
      · exact .inl w
      · exact .inr w
      · omega
    · rw [if_neg (fun z => h1 z.2)]
      by_cases hkd : q.kids = []
      · rw [if_pos hkd]
        exact take_leaf H hd hkd (fun _ => h1) (by omega)
      · rw [if_neg hkd, if_neg (by simp)]
        exact down_ok H hkd (by rw [hd]; exact .inr (by omega)) (by omega)
  | ask key =>
    show Did M g mu h (if q.kids = [] then _ else _)
    by_cases hkd : q.kids = []
    · rw [if_pos hkd]; exact ask_leaf H hd hkd (by omega)
    · rw [if_neg hkd]; exact down_ok H hkd (by rw [hd]; trivial) (by omega)
  | walk lo hi =>
    show Did M g mu h (if q.kids = [] then _ else _)
    by_cases hkd : q.kids = []
    · rw [if_pos hkd]
      have b1 := PQ.low
      have b2 := PQ.ne
      rw [hd] at inn
      have inn' : g.lo c ≤ lo := inn.1
      refine walk_leaf H (l := c) (ls := []) hd ?_ rfl ⟨q, hq, hkd⟩ inn' hkd (by omega)
      have nd := H.a.nd
      have e1 : (M.ha h).held.filter (isUpper M.fo) = pre ++ [p] := by
        rw [hheld, show pre ++ [p, c] = (pre ++ [p]) ++ [c] by simp, List.filter_append, List.filter_append]
        have : pre.filter (isUpper M.fo) = pre := List.filter_eq_self.mpr fun x hx => by
          have : x = 0 := by
            rcases t with w | ⟨w, _⟩
            · rw [w] at hx; simp at hx
            · rw [w] at hx; simpa using hx
          rw [this]; exact up0
        rw [this]
        simp [List.filter_cons, up_inner hu ukd, up_leaf hq hkd c0]
      have e2 := filt_last nd H.ne
      rw [hheld, dl1, gl1] at e2
      rw [e1, hheld]
      exact e2
    · rw [if_neg hkd]; exact down_ok H hkd (by rw [hd]; trivial) (by omega)
theorem work_ok (I : INV M g mu) (hh : h < M.n) (lt : (M.ha h).at_ < (M.ha h).prog.length) (wn : (M.ha h).want = none) (ne : (M.ha h).held ≠ []) : Did M g mu h (M.work h) := by
  have T := I.tree
  obtain ⟨k, hm, hk9, s⟩ := (I.hand h hh).go lt
  have a0 : At M g mu h k := ⟨I, hh, lt, hm⟩
  generalize hheld : (M.ha h).held = held at *
  generalize hag : (M.ha h).again = again at *
  rw [wn] at s
  cases s with
  | idle => exact absurd rfl ne
  | gate =>
    have hl : M.lastP h = 0 := by unfold Mc.lastP; rw [hheld]; rfl
    unfold Mc.work
    simp only [hl, if_pos]
    unfold Mc.goes
    rw [wants_to a0.own]
    refine a0.go (k' := 897) T (Out.refl _ _ _) (fun _ => rfl) (Int.le_refl _) (by omega) a0.nd rfl rfl rfl (by omega) (by omega) ?_ (fun _ => rfl) (fun x hx hn => absurd hx hn) (fun _ => Iff.rfl) (fun _ z => by cases z)
    show Sh _ _ _ _ _ (M.ha h).held (some _) (M.ha h).again _
    rw [hheld, hag]
    exact .gateW rfl
  | one e => rw [e] at hheld hm; exact work_one I hh lt hm wn hag hheld rfl
  | two t hu hc hq hi ok => exact work_two I hh lt hm wn hag hheld t hu hc hq hi ok rfl
  | @three pre p a b c key u q t hu ma mb hc hq h1 hi hd ok adj =>
    have kd : ∀ {x}, x ∈ u.kids → x ≠ 0 := fun {x} hx => by
      obtain ⟨_, w, _⟩ := T.kid hu hx
      have := (T.page _ _ w).pos
      omega
    have p0 : p ≠ 0 := by have := (T.page _ _ hu).pos; omega
    have hl : M.lastP h = b := by unfold Mc.lastP; rw [hheld]; exact gl2
    have hdr : (M.ha h).held.dropLast.filter (fun x => decide (x ≠ 0)) = [p, a] := by rw [hheld, dl2, List.filter_append, filt0 t]; simp [p0, kd ma]
    unfold Mc.work
    simp only [hl, if_neg (kd mb), hd]
    show Did M g mu h (M.take h key)
    have e : M.take h key = M.mend h p a b key := by unfold Mc.take; simp only [hdr, hl]
    rw [e]
    refine mend_step a0 wn hag hd ⟨hheld, t, hu, ma, mb, hc, hq, h1, hi, ok, ?_⟩ (by omega)
    rcases adj with w | ⟨_, w⟩
    · exact .inl w
    · exact .inr w
  | @leafs l ls lo hi hd ch h0 =>
    obtain ⟨q, hq, hkd⟩ := ch.pages _ lastD_mem
    have PQ := T.page _ _ hq
    have c0 : (l :: ls).getLastD 0 ≠ 0 := by have := PQ.pos; omega
    have hl : M.lastP h = (l :: ls).getLastD 0 := by unfold Mc.lastP; rw [hheld]
    have up : ∀ x ∈ l :: ls, isUpper M.fo x = false := fun x hx => by
      obtain ⟨qx, w1, w2⟩ := ch.pages x hx
      have := (T.page _ _ w1).pos
      exact up_leaf w1 w2 (by omega)
    have e1 : (M.ha h).held.filter (isUpper M.fo) = [] := by
      rw [hheld]
      exact List.filter_eq_nil_iff.mpr fun x hx => by rw [up x hx]; simp
    obtain ⟨i1, i2, i3⟩ := leafs_rows T ch
    unfold Mc.work
    simp only [hl, if_neg c0, Fo.pg_some hq, hd, if_pos hkd]
    -- the key lies not in the last leaf: the walk wants only the chain
    have H : HereW M g mu h (2 * (100 - g.hi ((l :: ls).getLastD 0)).toNat + 1) ((l :: ls).getLastD 0) q := ⟨a0, wn, hag, by rw [hheld]; simp, by rw [hheld], hq⟩
    refine walk_leafW H hd ?_ rfl ch h0 hkd (by omega)
    rw [e1, hheld]
    exact List.filter_eq_self.mpr (by simp)
theorem step_ok (I : INV M g mu) (hh : h < M.n) (hr : M.rests h = false) (hw : M.waits h = false) : Did M g mu h (M.turn h) := by
  have lt : (M.ha h).at_ < (M.ha h).prog.length := by
    have := (I.hand h hh).le
    unfold Mc.rests at hr
    have := of_decide_eq_false hr
    omega
  obtain ⟨k, hm, hk9, s⟩ := (I.hand h hh).go lt
  have a0 : At M g mu h k := ⟨I, hh, lt, hm⟩
  unfold Mc.turn
  rw [hr, if_neg (by decide)]
  cases hwn : (M.ha h).want with
  | some p =>
    show Did M g mu h (if M.waits h = true then _ else _)
    rw [hw, if_neg (by decide)]
    refine lock_ok a0 hwn ?_ s
    unfold Mc.waits at hw
    rw [hwn] at hw
    simpa using hw
  | none =>
    show Did M g mu h (if (M.ha h).held = [] then _ else _)
    by_cases ne : (M.ha h).held = []
    · rw [if_pos ne, wants_to a0.own]
      have hk : k = 900 ∧ (M.ha h).again = none := by
        generalize (M.ha h).held = held at *
        generalize (M.ha h).again = again at *
        rw [hwn, ne] at s
        clear a0 hm
        generalize he : ([] : List Int) = e at s
        generalize hn : (none : Option Int) = n at s
        cases s <;> first
          | exact ⟨rfl, rfl⟩
          | (exfalso; simp at he; done)
          | (exfalso; cases hn; done)
      refine a0.go (k' := 899) I.tree (Out.refl _ _ _) (fun _ => rfl) (Int.le_refl _) (by omega) a0.nd rfl rfl rfl (by omega) (by omega) ?_ (fun _ => rfl) (fun x hx hn => absurd hx hn) (fun _ => Iff.rfl) (fun _ z => by cases z)
      show Sh _ _ _ _ _ (M.ha h).held (some _) (M.ha h).again _
      rw [ne, hk.2]
      exact .begins
    · rw [if_neg ne]
      exact work_ok I hh lt hwn ne
end

/-! ### what a hand wants it hasn't; a machine's beginning -/
theorem leafs_bounds {F : Fo} {g : Gh} (T : FoOk F g) : ∀ {l : Int} {ls : List Int}, Leafs F (l :: ls) → ∀ p ∈ l :: ls, g.lo p < g.hi ((l :: ls).getLastD 0) ∧ g.lo l ≤ g.lo p
  | l, [], ⟨q, h1, h2⟩, p, hp => by
    rw [List.mem_singleton.mp hp]
    exact ⟨(T.page _ _ h1).ne, Int.le_refl _⟩
  | l, m :: r, ⟨⟨q, h1, h2, h3⟩, hl⟩, p, hp => by
    have P := T.page _ _ h1
    have nx := (P.leaf (P.leaf_iff.mp h2)).2.2
    rw [h3] at nx
    obtain ⟨_, _, n3⟩ := nx
    have pn := P.ne
    have el : (l :: m :: r).getLastD 0 = (m :: r).getLastD 0 := by simp [List.getLastD]
    rw [el]
    have ih := leafs_bounds T hl
    rcases List.mem_cons.mp hp with w | w
    · rw [w]
      have := (ih m (by simp)).1
      exact ⟨by omega, Int.le_refl _⟩
    · have := ih p w
      exact ⟨this.1, by omega⟩
theorem Sh.wants_new {F : Fo} {g : Gh} {left : Bool} {d : Deed} {al : Int → Prop} {held : List Int} {want again : Option Int} {k : Nat} (T : FoOk F g) (s : Sh F g left d al held want again k) {p : Int} (hw : want = some p) : p ∉ held := by
  have pos : ∀ {x : Int} {q : Pg}, F.pages x = some q → x ≠ 0 := fun {x q} h => by have := (T.page _ _ h).pos; omega
  have tp : ∀ {pre : List Int} {x : Int}, Top F pre x → ∀ y ∈ pre, y = 0 := fun {pre x} t y hy => by
    rcases t with t | ⟨t, _⟩
    · rw [t] at hy; simp at hy
    · rw [t] at hy; simpa using hy
  have kd : ∀ {x c : Int} {u : Pg}, F.pages x = some u → c ∈ u.kids → c ≠ 0 ∧ c ≠ x := fun {x c u} hu hc => by
    obtain ⟨q, h, h2, _⟩ := T.kid hu hc
    exact ⟨pos h, fun z => by rw [z] at h2; omega⟩
  cases s with
  | idle => cases hw
  | begins => simp
  | gate => cases hw
  | gateW e =>
    cases hw
    obtain ⟨q, hq⟩ := T.rt
    have := pos hq
    simp [e, this]
  | one e => cases hw
  | oneW t hu hc hi ok =>
    cases hw
    intro z
    rcases List.mem_append.mp z with w | w
    · exact (kd hu hc).1 (tp t _ w)
    · exact (kd hu hc).2 (List.mem_singleton.mp w)
  | two t hu hc hq hi ok => cases hw
  | nb t hu hc hn hq h1 hi hd ok adj =>
    cases hw
    intro z
    rcases List.mem_append.mp z with w | w
    · exact (kd hu hn).1 (tp t _ w)
    · rcases List.mem_cons.mp w with w | w
      · exact (kd hu hn).2 w
      · have e := List.mem_singleton.mp w
        rcases adj with a | ⟨_, a⟩ <;> rw [e] at a <;> omega
  | nbA t hu hc hn hq h1 hi hd ok hl adj hal =>
    cases hw
    intro z
    rcases List.mem_append.mp z with w | w
    · exact (kd hu hn).1 (tp t _ w)
    · exact (kd hu hn).2 (List.mem_singleton.mp w)
  | nbB t hu hc hn hq h1 hi hd ok hl adj hal =>
    cases hw
    intro z
    rcases List.mem_append.mp z with w | w
    · exact (kd hu hc).1 (tp t _ w)
    · rcases List.mem_cons.mp w with w | w
      · exact (kd hu hc).2 w
      · have e := List.mem_singleton.mp w
        rw [e] at adj; omega
  | three t hu ma mb hc hq h1 hi hd ok adj => cases hw
  | leafs hd ch h0 => cases hw
  | leafsW hd ch h0 hq hn =>
    cases hw
    intro z
    have hb := (leafs_bounds T ch p z).1
    have P := T.page _ _ hq
    obtain ⟨q', hq', hk'⟩ := ch.pages _ lastD_mem
    rw [hq] at hq'
    cases hq'
    have nx := (P.leaf (P.leaf_iff.mp hk')).2.2
    rw [hn] at nx
    obtain ⟨_, _, n3⟩ := nx
    omega
/-- a hand never waits for itself -/
theorem INV.not_self {M : Mc} {g : Gh} {mu : Nat → Nat} (I : INV M g mu) {h : Nat} (hh : h < M.n) {p : Int} (hw : (M.ha h).want = some p) : M.locks p ≠ some h := by
  intro z
  have hp := ((I.lks p h).mp z).2
  have H := I.hand h hh
  rcases Nat.lt_or_ge (M.ha h).at_ (M.ha h).prog.length with w | w
  · obtain ⟨k, _, _, s⟩ := H.go w
    exact s.wants_new I.tree hw hp
  · rw [(H.rest (Nat.le_antisymm H.le w)).1] at hp
    simp at hp
theorem INV.alone {M : Mc} {g : Gh} {mu : Nat → Nat} (I : INV M g mu) (h1 : M.n = 1) : M.waits 0 = false := by
  unfold Mc.waits
  cases hw : (M.ha 0).want with
  | none => rfl
  | some p =>
    show (M.locks p).isSome = false
    cases hl : M.locks p with
    | none => rfl
    | some j =>
      have hj := ((I.lks p j).mp hl).1
      have : j = 0 := by omega
      rw [this] at hl
      exact absurd hl (I.not_self (by omega) hw)
def fo0 : Fo := ⟨fun n => if n = 1 then some ⟨[], [], none⟩ else none, 1, 1⟩
def ha0 (p : List Deed) : Ha := ⟨p, 0, [], none, none, []⟩
def mc0 (left : Bool) (ps : List (List Deed)) (F : Fo) : Mc := ⟨left, F, fun _ => none, [], ps.length, fun i => ha0 (ps.getD i [])⟩
def run1 : Nat → Mc → Mc
  | 0, M => M
  | k + 1, M => if M.done = true then M else run1 k (M.turn 0).1
def begun (left : Bool) (keys : List Int) : Mc := run1 (1000 * keys.length) (mc0 left [keys.map Deed.put] fo0)
def startM (left : Bool) (keys : List Int) (progs : List (List Deed)) : Mc := mc0 left progs (begun left keys).fo
structure ProgsOk (ps : List (List Deed)) : Prop where
  n1 : 1 ≤ ps.length
  n4 : ps.length ≤ 4
  len : ∀ p ∈ ps, p.length ≤ 8
  ok : ∀ p ∈ ps, ∀ d ∈ p, DeedOk d
def gh0 : Gh := ⟨fun _ => -1, fun _ => 100, fun _ => 0⟩
theorem fo0_ok : FoOk fo0 gh0 := by
  have one : ∀ n p, fo0.pages n = some p → n = 1 ∧ p = ⟨[], [], none⟩ := fun n p h => by
    unfold fo0 at h
    by_cases e : n = 1
    · simp [e] at h
      exact ⟨e, h.symm⟩
    · simp [e] at h
  refine ⟨⟨_, rfl⟩, rfl, rfl, fun n p h => ?_, fun n p h => ?_, fun x y p q hx hy ne _ => ?_, fun n p h => .inl (one n p h).1⟩
  · obtain ⟨e1, e2⟩ := one n p h
    subst e1; subst e2
    exact ⟨by omega, by decide, by decide, by decide, by simp, fun z => absurd rfl z, .inl ⟨rfl, rfl, ⟨.nil, by simp⟩, rfl⟩⟩
  · rw [(one n p h).1]; decide
  · exact absurd ((one x p hx).1.trans (one y q hy).1.symm) ne
theorem has0 (k : Int) : ¬ Has fo0 k := by
  rintro ⟨n, p, h, _, hm⟩
  unfold fo0 at h
  by_cases e : n = 1
  · simp [e] at h
    rw [← h] at hm
    simp at hm
  · simp [e] at h
/-- a machine whose hands have done nothing -/
theorem mc0_inv {left : Bool} {ps : List (List Deed)} {F : Fo} {g : Gh} (T : FoOk F g) (h0 : 0 ≤ F.last) (hb : F.last + 2 * (sumN ps.length (fun i => 1000 * (ps.getD i []).length) : Nat) ≤ 700000) (n4 : ps.length ≤ 4) (len : ∀ i, i < ps.length → (ps.getD i []).length ≤ 40) (ok : ∀ i, i < ps.length → ∀ d ∈ ps.getD i [], DeedOk d) :
    INV (mc0 left ps F) g fun i => if (ps.getD i []).length = 0 then 0 else 1000 * ((ps.getD i []).length - 1) + 900 := by
  have le : ∀ n f f', (∀ i, i < n → f i ≤ f' i) → sumN n f ≤ sumN n f' := fun n f f' => by
    induction n with
    | zero => intro _; exact Nat.le_refl _
    | succ n ih =>
      intro h
      rw [sumN_succ, sumN_succ]
      have := ih fun i hi => h i (by omega)
      have := h n (by omega)
      omega
  have z0 : sumN ps.length (fun _ => 0) = 0 := by
    have : ∀ n, sumN n (fun _ => 0) = 0 := fun n => by
      induction n with
      | zero => rfl
      | succ n ih => rw [sumN_succ, ih]
    exact this _
  refine ⟨T, h0, ?_, fun p h => ⟨fun z => (by cases z), fun z => absurd z.2 (by show p ∉ ([] : List Int); simp)⟩, fun h _ => (.nil : ([] : List Int).Nodup), fun h hh => ?_, fun h hh => ok h hh, fun _ _ => rfl, fun h hh => len h hh, z0.symm, n4⟩
  · have := le ps.length (fun i => if (ps.getD i []).length = 0 then 0 else 1000 * ((ps.getD i []).length - 1) + 900) (fun i => 1000 * (ps.getD i []).length) fun i _ => by
      show (if (ps.getD i []).length = 0 then 0 else 1000 * ((ps.getD i []).length - 1) + 900) ≤ 1000 * (ps.getD i []).length
      by_cases e : (ps.getD i []).length = 0
      · rw [if_pos e]; exact Nat.zero_le _
      · rw [if_neg e]; omega
    show F.last + 2 * ((sumN ps.length _ : Nat) : Int) ≤ 700000
    omega
  · refine ⟨Nat.zero_le _, fun z => ⟨rfl, rfl, rfl, if_pos z.symm⟩, fun z => ⟨900, ?_, Nat.le_refl _, .idle⟩⟩
    have z' : 0 < (ps.getD h []).length := z
    show (if (ps.getD h []).length = 0 then 0 else 1000 * ((ps.getD h []).length - 1) + 900) = 1000 * ((ps.getD h []).length - 0 - 1) + 900
    rw [if_neg (by omega)]
    rfl
theorem not_done {M : Mc} (h : M.done = false) (n1 : M.n = 1) : M.rests 0 = false := by
  unfold Mc.done at h
  rw [n1] at h
  simpa using h
/-- one hand alone comes to the end -/
theorem run1_ok {left : Bool} {keys : List Int} {B : Int} : ∀ (k : Nat) (M : Mc) (g : Gh) (mu : Nat → Nat), INV M g mu → M.n = 1 → mu 0 ≤ k → (M.ha 0).prog = keys.map Deed.put → (∀ x, Has M.fo x ↔ x ∈ keys.take (M.ha 0).at_) → M.left = left → M.fo.last + 2 * (mu 0 : Nat) ≤ B →
    ∃ g' mu', INV (run1 k M) g' mu' ∧ (run1 k M).n = 1 ∧ (run1 k M).done = true ∧ (∀ x, Has (run1 k M).fo x ↔ x ∈ keys) ∧ (run1 k M).left = left ∧ (run1 k M).fo.last ≤ B
  | 0, M, g, mu, I, n1, hm, hp, hh, hl, hB => by
    have H := I.hand 0 (by omega)
    have hat : (M.ha 0).at_ = (M.ha 0).prog.length := by
      rcases Nat.lt_or_ge (M.ha 0).at_ (M.ha 0).prog.length with w | w
      · obtain ⟨k, e, _, s⟩ := H.go w
        have hk : k = 0 := by omega
        have dm := (deed_mem w).2
        rw [hp, List.mem_map] at dm
        obtain ⟨x, _, hx⟩ := dm
        generalize (M.ha 0).held = held at s
        generalize (M.ha 0).want = want at s
        generalize (M.ha 0).again = again at s
        generalize M.deed 0 = dd at s hx
        cases s with
        | leafsW hd ch h0 hq hn => rw [hd] at hx; cases hx
        | _ => omega
      · exact Nat.le_antisymm H.le w
    refine ⟨g, mu, I, n1, ?_, fun x => ?_, hl, by show M.fo.last ≤ B; omega⟩
    · show M.done = true
      unfold Mc.done Mc.rests
      rw [n1]
      simpa using hat
    · show Has M.fo x ↔ _
      rw [hh, hat, hp, List.length_map, List.take_length]
  | k + 1, M, g, mu, I, n1, hm, hp, hh, hl, hB => by
    unfold run1
    by_cases hd : M.done = true
    · rw [if_pos hd]
      have hat : (M.ha 0).at_ = (M.ha 0).prog.length := by
        unfold Mc.done Mc.rests at hd
        rw [n1] at hd
        simpa using hd
      refine ⟨g, mu, I, n1, hd, fun x => ?_, hl, by omega⟩
      rw [hh, hat, hp, List.length_map, List.take_length]
    · rw [if_neg hd]
      have hd' : M.done = false := by simpa using hd
      have hr := not_done hd' n1
      obtain ⟨g', m', D⟩ := step_ok I (show 0 < M.n by omega) hr (I.alone n1)
      have lt : (M.ha 0).at_ < (M.ha 0).prog.length := by
        have := (I.hand 0 (by omega)).le
        unfold Mc.rests at hr
        have := of_decide_eq_false hr
        omega
      have n1' : (M.turn 0).1.n = 1 := by rw [D.eff.n]; exact n1
      have hp' : ((M.turn 0).1.ha 0).prog = keys.map Deed.put := by rw [D.eff.prog]; exact hp
      have := D.less
      have := D.grow
      refine run1_ok k _ g' _ D.inv n1' (by show (if (0 : Nat) = 0 then m' else mu 0) ≤ k; rw [if_pos rfl]; omega) hp' (fun x => ?_) (by rw [D.eff.left]; exact hl) (by show _ + 2 * (((if (0 : Nat) = 0 then m' else mu 0) : Nat) : Int) ≤ B; rw [if_pos rfl]; omega)
      have dd := (deed_mem lt).1
      rw [hp, List.getElem?_map] at dd
      obtain ⟨key, hkey, ed⟩ := Option.map_eq_some_iff.mp dd
      rcases D.sem with ⟨a, _, an, e1, _, _⟩ | ⟨_, e2, e1, _, _⟩
      · rw [← ed] at an
        rw [an.2 x, hh x, e1, List.take_succ, hkey]
        simp
      · rw [e2 x, e1]
        exact hh x
structure KeysOk (ks : List Int) : Prop where
  len : ks.length ≤ 40
  rng : ∀ k ∈ ks, 0 ≤ k ∧ k ≤ 99
  nd : ks.Nodup
theorem begin0 (left : Bool) {keys : List Int} (hk : KeysOk keys) : ∃ g mu, INV (mc0 left [keys.map Deed.put] fo0) g mu ∧ (mc0 left [keys.map Deed.put] fo0).n = 1 ∧ mu 0 ≤ 1000 * keys.length ∧ True := by
  have hlen := hk.len
  have I := mc0_inv (left := left) (ps := [keys.map Deed.put]) fo0_ok (by decide) (by
    show (1 : Int) + 2 * ((sumN 1 (fun i => 1000 * (([keys.map Deed.put].getD i []).length)) : Nat) : Int) ≤ 700000
    rw [sumN_succ]
    show (1 : Int) + 2 * (((0 + 1000 * (keys.map Deed.put).length) : Nat) : Int) ≤ 700000
    rw [List.length_map]
    omega) (by show 1 ≤ 4; omega) (fun i hi => by
      have : i = 0 := by have : i < 1 := hi; omega
      subst this
      show (keys.map Deed.put).length ≤ 40
      rw [List.length_map]; exact hlen) (fun i hi d hd => by
      have : i = 0 := by have : i < 1 := hi; omega
      subst this
      have hd' : d ∈ keys.map Deed.put := hd
      obtain ⟨x, hx, rfl⟩ := List.mem_map.mp hd'
      have := hk.rng x hx
      exact ⟨this.1, this.2, fun _ _ z => by cases z⟩)
  refine ⟨_, _, I, rfl, ?_, trivial⟩
  show (if (keys.map Deed.put).length = 0 then 0 else 1000 * ((keys.map Deed.put).length - 1) + 900) ≤ _
  rw [List.length_map]
  split <;> omega
theorem begun_ok (left : Bool) {keys : List Int} (hk : KeysOk keys) : ∃ g mu, INV (begun left keys) g mu ∧ (begun left keys).n = 1 ∧ (begun left keys).done = true ∧ (∀ x, Has (begun left keys).fo x ↔ x ∈ keys) ∧ (begun left keys).left = left ∧ (begun left keys).fo.last ≤ 80001 := by
  have hlen := hk.len
  obtain ⟨g, mu, I, n1, hm, _⟩ := begin0 left hk
  refine run1_ok (B := 80001) (1000 * keys.length) _ g mu I rfl hm rfl (fun x => ?_) rfl ?_
  · constructor
    · exact fun z => absurd z (has0 x)
    · intro z
      have z' : x ∈ keys.take 0 := z
      simp at z'
  · show (1 : Int) + 2 * ((mu 0 : Nat) : Int) ≤ 80001
    omega
theorem start_ok (left : Bool) {keys : List Int} {progs : List (List Deed)} (hk : KeysOk keys) (hp : ProgsOk progs) : ∃ g mu, INV (startM left keys progs) g mu ∧ (∀ x, Has (startM left keys progs).fo x ↔ x ∈ keys) := by
  obtain ⟨g, mu, I, n1, _, hh, _, hlast⟩ := begun_ok left hk
  have get : ∀ i, i < progs.length → progs.getD i [] ∈ progs := fun i hi => by
    rw [List.getD_eq_getElem?_getD, List.getElem?_eq_getElem hi]
    exact List.getElem_mem hi
  refine ⟨g, _, mc0_inv I.tree I.last0 ?_ hp.n4 (fun i hi => Nat.le_trans (hp.len _ (get i hi)) (by decide)) (fun i hi => hp.ok _ (get i hi)), hh⟩
  have le : ∀ n, n ≤ progs.length → sumN n (fun i => 1000 * (progs.getD i []).length) ≤ 8000 * n := fun n => by
    induction n with
    | zero => intro _; exact Nat.le_refl _
    | succ n ih =>
      intro h
      rw [sumN_succ]
      have := ih (by omega)
      have := hp.len _ (get n (by omega))
      omega
  have := le progs.length (Nat.le_refl _)
  have := hp.n4
  omega

/-! ### the leaves from the left -/
/-- from page n down the first children, k steps, to leaf m -/
inductive Desc (F : Fo) : Int → Nat → Int → Prop
  | leaf {n : Int} {p : Pg} : F.pages n = some p → p.kids = [] → Desc F n 0 n
  | down {n c m : Int} {p : Pg} {k : Nat} : F.pages n = some p → p.kids ≠ [] → c = p.kids.getD 0 0 → Desc F c k m → Desc F n (k + 1) m
/-- from a leaf to the right: k leaves, their keys -/
inductive Right (F : Fo) : Option Int → Nat → List Int → Prop
  | nil : Right F none 0 []
  | cons {n : Int} {p : Pg} {k : Nat} {r : List Int} : F.pages n = some p → Right F p.nxt k r → Right F (some n) (k + 1) (p.row ++ r)
theorem Chain.head {K : Int → Int → Int → Prop} : ∀ {r cs : List Int} {lo hi : Int}, Chain K lo r cs hi → ∃ h, K (cs.getD 0 0) lo h
  | [], [c], _, _, h => ⟨_, h⟩
  | k :: r, c :: cs, _, _, h => ⟨_, h.1⟩
  | [], [], _, _, h => h.elim
  | [], _ :: _ :: _, _, _, h => h.elim
  | _ :: _, [], _, _, h => h.elim
theorem desc_ok {F : Fo} {g : Gh} (T : FoOk F g) : ∀ (v : Nat) (n : Int) (p : Pg), F.pages n = some p → g.lv n = v → ∃ m q, Desc F n v m ∧ F.pages m = some q ∧ q.kids = [] ∧ g.lo m = g.lo n
  | 0, n, p, hp, hv => by
    have hk := (T.page n p hp).leaf_iff.mpr hv
    exact ⟨n, p, .leaf hp hk, hp, hk, rfl⟩
  | v + 1, n, p, hp, hv => by
    have hk : p.kids ≠ [] := fun z => by have := (T.page n p hp).leaf_iff.mp z; omega
    obtain ⟨_, _, ch⟩ := (T.page n p hp).inner hv
    obtain ⟨h, ⟨q, k1⟩, k2, k3, k4, _⟩ := ch.head
    obtain ⟨m, q', d1, d2, d3, d4⟩ := desc_ok T v _ q k1 k2
    exact ⟨m, q', .down hp hk rfl d1, d2, d3, by omega⟩
theorem right_ok {F : Fo} {g : Gh} (T : FoOk F g) : ∀ (k : Nat) (m : Int) (p : Pg), F.pages m = some p → p.kids = [] → (100 - g.lo m).toNat ≤ k → ∃ j r, Right F (some m) j r ∧ r.Pairwise (· < ·) ∧ ∀ x, x ∈ r ↔ g.lo m ≤ x ∧ Has F x
  | 0, m, p, hp, hk, hb => by
    have P := T.page m p hp
    have := P.ne
    have := P.high
    omega
  | k + 1, m, p, hp, hk, hb => by
    have P := T.page m p hp
    obtain ⟨_, ⟨r1, r2⟩, nx⟩ := P.leaf (P.leaf_iff.mp hk)
    have pn := P.ne
    cases e : p.nxt with
    | none =>
      rw [e] at nx
      have nx' : g.hi m = 100 := nx
      refine ⟨1, p.row ++ [], .cons hp (by rw [e]; exact .nil), by rw [List.append_nil]; exact r1, fun x => ?_⟩
      rw [List.append_nil]
      constructor
      · exact fun hx => ⟨(r2 x hx).1, m, p, hp, hk, hx⟩
      · rintro ⟨h1, h2⟩
        refine (leaf_has T hp hk ⟨h1, ?_⟩).mp h2
        obtain ⟨n, q, hn, hq, hx⟩ := h2
        have Q := T.page n q hn
        obtain ⟨_, ⟨_, s2⟩, _⟩ := Q.leaf (Q.leaf_iff.mp hq)
        have := s2 x hx
        have := Q.high
        omega
    | some n =>
      rw [e] at nx
      obtain ⟨⟨q, n1⟩, n2, n3⟩ := nx
      have Q := T.page n q n1
      obtain ⟨j, r, h1, h2, h3⟩ := right_ok T k n q n1 (Q.leaf_iff.mpr n2) (by omega)
      refine ⟨j + 1, p.row ++ r, .cons hp (by rw [e]; exact h1), List.pairwise_append.mpr ⟨r1, h2, fun x hx y hy => ?_⟩, fun x => ?_⟩
      · have := r2 x hx
        have := ((h3 y).mp hy).1
        omega
      · rw [List.mem_append, h3]
        constructor
        · rintro (w | ⟨w1, w2⟩)
          · exact ⟨(r2 x w).1, m, p, hp, hk, w⟩
          · exact ⟨by omega, w2⟩
        · rintro ⟨w1, w2⟩
          by_cases z : x < g.hi m
          · exact .inl ((leaf_has T hp hk ⟨w1, z⟩).mp w2)
          · exact .inr ⟨by omega, w2⟩
theorem sorted_one : ∀ {xs ys : List Int}, xs.Pairwise (· < ·) → ys.Pairwise (· < ·) → (∀ a, a ∈ xs ↔ a ∈ ys) → xs = ys
  | [], [], _, _, _ => rfl
  | [], y :: r, _, _, h => by have := (h y).mpr (by simp); simp at this
  | x :: r, [], _, _, h => by have := (h x).mp (by simp); simp at this
  | x :: xs, y :: ys, hx, hy, h => by
    rw [List.pairwise_cons] at hx hy
    have e : x = y := by
      have h1 := (h x).mp (by simp)
      have h2 := (h y).mpr (by simp)
      rcases List.mem_cons.mp h1 with h1 | h1
      · exact h1
      · rcases List.mem_cons.mp h2 with h2 | h2
        · exact h2.symm
        · have := hx.1 y h2
          have := hy.1 x h1
          omega
    subst e
    congr 1
    refine sorted_one hx.2 hy.2 fun a => ⟨fun ha => ?_, fun ha => ?_⟩
    · rcases List.mem_cons.mp ((h a).mp (by simp [ha])) with e | e
      · have := hx.1 a ha; omega
      · exact e
    · rcases List.mem_cons.mp ((h a).mpr (by simp [ha])) with e | e
      · have := hy.1 a ha; omega
      · exact e
open Classical in
/-- the keys of all leaves, rising -/
noncomputable def keysF (F : Fo) : List Int := ((List.range 101).map fun (i : Nat) => (i : Int) - 1).filter fun k => decide (Has F k)
theorem keysF_lt (F : Fo) : (keysF F).Pairwise (· < ·) := by
  unfold keysF
  refine List.Pairwise.filter _ (List.pairwise_map.mpr (List.Pairwise.imp ?_ List.pairwise_lt_range))
  intro a b h
  show (a : Int) - 1 < (b : Int) - 1
  omega
theorem keysF_mem {F : Fo} {g : Gh} (T : FoOk F g) (x : Int) : x ∈ keysF F ↔ Has F x := by
  unfold keysF
  rw [List.mem_filter, List.mem_map]
  simp only [decide_eq_true_eq]
  refine ⟨fun z => z.2, fun z => ⟨?_, z⟩⟩
  obtain ⟨n, q, hn, hq, hx⟩ := z
  have Q := T.page n q hn
  obtain ⟨_, ⟨_, s2⟩, _⟩ := Q.leaf (Q.leaf_iff.mp hq)
  have := s2 x hx
  have := Q.high
  have := Q.low
  exact ⟨(x + 1).toNat, List.mem_range.mpr (by omega), by omega⟩
theorem keysF_len (F : Fo) : (keysF F).length ≤ 101 := by
  unfold keysF
  refine Nat.le_trans (List.length_filter_le _ _) ?_
  rw [List.length_map, List.length_range]
  exact Nat.le_refl _
/-- all keys are told, leaf by leaf -/
theorem all_ok {F : Fo} {g : Gh} (T : FoOk F g) : ∃ k m k2, Desc F F.root k m ∧ Right F (some m) k2 (keysF F) := by
  obtain ⟨p, hp⟩ := T.rt
  obtain ⟨m, q, d1, d2, d3, d4⟩ := desc_ok T _ _ p hp rfl
  obtain ⟨j, r, h1, h2, h3⟩ := right_ok T _ m q d2 d3 (Nat.le_refl _)
  have e : r = keysF F := sorted_one h2 (keysF_lt F) fun a => by
    rw [h3, keysF_mem T]
    refine ⟨fun z => z.2, fun z => ⟨?_, z⟩⟩
    obtain ⟨n, q, hn, hq, hx⟩ := z
    have Q := T.page n q hn
    obtain ⟨_, ⟨_, s2⟩, _⟩ := Q.leaf (Q.leaf_iff.mp hq)
    have := s2 a hx
    have := Q.low
    have := T.rlo
    omega
  exact ⟨_, m, j, d1, by rw [← e]; exact h1⟩
/-! two hands that rest or wait do nothing -/
theorem turn_rests {M : Mc} {h : Nat} (hr : M.rests h = true) : M.turn h = (M, .rests) := by unfold Mc.turn; rw [if_pos hr]
theorem turn_waits {M : Mc} {h : Nat} {p : Int} (hr : M.rests h = false) (hw : (M.ha h).want = some p) (hl : (M.locks p).isSome = true) : M.turn h = (M, .waits p) := by
  have : M.waits h = true := by unfold Mc.waits; rw [hw]; exact hl
  unfold Mc.turn
  rw [if_neg (by rw [hr]; decide)]
  simp only [hw]
  rw [if_pos this]
/-- any step keeps the invariant -/
theorem INV.turn {M : Mc} {g : Gh} {mu : Nat → Nat} (I : INV M g mu) {h : Nat} (hh : h < M.n) : ∃ g' mu', INV (M.turn h).1 g' mu' ∧ (M.turn h).1.n = M.n ∧ (∀ i, ((M.turn h).1.ha i).prog = (M.ha i).prog) := by
  by_cases hr : M.rests h = true
  · rw [turn_rests hr]; exact ⟨g, mu, I, rfl, fun _ => rfl⟩
  · have hr' : M.rests h = false := by simpa using hr
    by_cases hw : M.waits h = true
    · have hw' := hw
      unfold Mc.waits at hw'
      cases e : (M.ha h).want with
      | none => rw [e] at hw'; cases hw'
      | some p =>
        rw [e] at hw'
        rw [turn_waits hr' e hw']
        exact ⟨g, mu, I, rfl, fun _ => rfl⟩
    · obtain ⟨g', m', D⟩ := step_ok I hh hr' (by simpa using hw)
      refine ⟨g', _, D.inv, D.eff.n, fun i => ?_⟩
      by_cases e : i = h
      · rw [e]; exact D.eff.prog
      · rw [D.eff.oth i e]

/-! ### who waits for whom -/
def Mc.nxt (M : Mc) (h : Nat) : Option Nat := (M.ha h).want.bind M.locks
/-- the hands from one on, of which each waits for the next one -/
def fol (f : Nat → Option Nat) : Nat → Nat → List Nat
  | 0, h => [h]
  | k + 1, h => match f h with
    | none => [h]
    | some j => h :: fol f k j
def ringAt (f : Nat → Option Nat) (n first : Nat) : Option (List Nat) :=
  if first ∈ (fol f n first).tail then some ((fol f n first).take ((fol f n first).tail.idxOf first + 1)) else none
def ringF (f : Nat → Option Nat) (n : Nat) : Option (List Nat) := (List.range n).findSome? (ringAt f n)
def Mc.ring (M : Mc) : Option (List Nat) := ringF M.nxt M.n
def tabF (t : List (Option Nat)) (i : Nat) : Option Nat := t.getD i none
def optsN (n : Nat) : List (Option Nat) := none :: (List.range n).map some
def tabsN : Nat → Nat → List (List (Option Nat))
  | 0, _ => [[]]
  | k + 1, n => (optsN n).flatMap fun o => (tabsN k n).map (o :: ·)
theorem mem_tabs : ∀ {k n : Nat} {t : List (Option Nat)}, t.length = k → (∀ o ∈ t, ∀ j, o = some j → j < n) → t ∈ tabsN k n
  | 0, _, [], _, _ => by simp [tabsN]
  | k + 1, n, o :: t, hl, h => by
    refine List.mem_flatMap.mpr ⟨o, ?_, List.mem_map.mpr ⟨t, mem_tabs (by simpa using hl) fun x hx => h x (by simp [hx]), rfl⟩⟩
    cases o with
    | none => simp [optsN]
    | some j => simp [optsN, h (some j) (by simp) j rfl]
/-- a ring's row: from the least hand on, each once, each waits for the next one -/
def ringOkB (f : Nat → Option Nat) (n : Nat) (r : List Nat) : Bool :=
  decide (2 ≤ r.length) && decide (r.length ≤ n) && decide r.Nodup && r.all (fun x => decide (x < n)) && r.all (fun x => decide (r.headD 0 ≤ x)) && (List.range r.length).all fun i => f (r.getD i 0) == some (r.getD ((i + 1) % r.length) 0)
def tabOk (t : List (Option Nat)) : Bool :=
  match ringF (tabF t) t.length with
  | none => (List.range t.length).all (fun i => (tabF t i).isNone) || (List.range t.length).any fun i => match tabF t i with
    | some j => (tabF t j).isNone
    | none => false
  | some r => (List.range t.length).any (fun i => tabF t i == some i) || ringOkB (tabF t) t.length r
theorem tabs_ok : (List.range 5).all (fun n => (tabsN n n).all tabOk) = true := by decide +kernel
theorem fol_congr {f f' : Nat → Option Nat} {n : Nat} (e : ∀ i, i < n → f i = f' i) (b : ∀ i j, i < n → f i = some j → j < n) : ∀ {k h : Nat}, h < n → fol f k h = fol f' k h
  | 0, _, _ => rfl
  | k + 1, h, hh => by
    unfold fol
    rw [← e h hh]
    cases z : f h with
    | none => rfl
    | some j => exact congrArg (h :: ·) (fol_congr e b (b h j hh z))
theorem ringF_congr {f f' : Nat → Option Nat} {n : Nat} (e : ∀ i, i < n → f i = f' i) (b : ∀ i j, i < n → f i = some j → j < n) : ringF f n = ringF f' n := by
  unfold ringF
  have : ∀ l : List Nat, (∀ i ∈ l, i < n) → l.findSome? (ringAt f n) = l.findSome? (ringAt f' n) := fun l hl => by
    induction l with
    | nil => rfl
    | cons i l ih =>
      rw [List.findSome?_cons, List.findSome?_cons, ih fun x hx => hl x (by simp [hx])]
      have : ringAt f n i = ringAt f' n i := by unfold ringAt; rw [fol_congr e b (hl i (by simp))]
      rw [this]
  exact this _ fun i hi => List.mem_range.mp hi
theorem tabF_map {f : Nat → Option Nat} {n i : Nat} (h : i < n) : tabF ((List.range n).map f) i = f i := by
  unfold tabF
  rw [List.getD_eq_getElem?_getD, List.getElem?_map, List.getElem?_range h]
  rfl
theorem ring_tab {f : Nat → Option Nat} {n : Nat} (n4 : n ≤ 4) (b : ∀ i j, i < n → f i = some j → j < n) : tabOk ((List.range n).map f) = true := by
  have := List.all_eq_true.mp tabs_ok n (List.mem_range.mpr (by omega))
  refine List.all_eq_true.mp this _ (mem_tabs (by simp) fun o ho j e => ?_)
  obtain ⟨i, hi, rfl⟩ := List.mem_map.mp ho
  exact b i j (List.mem_range.mp hi) e
/-- where there is no ring, all wait for none, or one waits for one that doesn't wait -/
theorem no_ring {f : Nat → Option Nat} {n : Nat} (n4 : n ≤ 4) (b : ∀ i j, i < n → f i = some j → j < n) (hr : ringF f n = none) :
    (∀ i, i < n → f i = none) ∨ ∃ i j, i < n ∧ f i = some j ∧ f j = none := by
  have h := ring_tab n4 b
  have e : ringF (tabF ((List.range n).map f)) n = ringF f n := (ringF_congr (fun i hi => (tabF_map hi).symm) b).symm
  unfold tabOk at h
  rw [List.length_map, List.length_range, e, hr] at h
  rcases Bool.or_eq_true_iff.mp h with h | h
  · refine .inl fun i hi => ?_
    have := List.all_eq_true.mp h i (List.mem_range.mpr hi)
    rw [tabF_map hi] at this
    simpa using this
  · obtain ⟨i, hi, h⟩ := List.any_eq_true.mp h
    have hi := List.mem_range.mp hi
    rw [tabF_map hi] at h
    cases z : f i with
    | none => rw [z] at h; cases h
    | some j =>
      rw [z] at h
      have hj := b i j hi z
      simp only [tabF_map hj] at h
      exact .inr ⟨i, j, hi, z, by simpa using h⟩
structure RingOk (f : Nat → Option Nat) (n : Nat) (r : List Nat) : Prop where
  two : 2 ≤ r.length
  le : r.length ≤ n
  nd : r.Nodup
  lt : ∀ x ∈ r, x < n
  least : ∀ x ∈ r, r.headD 0 ≤ x
  next : ∀ i, i < r.length → f (r.getD i 0) = some (r.getD ((i + 1) % r.length) 0)
theorem getD_lt {r : List Nat} {n i : Nat} (h : ∀ x ∈ r, x < n) (hi : i < r.length) : r.getD i 0 < n := by
  rw [List.getD_eq_getElem?_getD, List.getElem?_eq_getElem hi]
  exact h _ (List.getElem_mem hi)
theorem some_ring {f : Nat → Option Nat} {n : Nat} (n4 : n ≤ 4) (b : ∀ i j, i < n → f i = some j → j < n) (self : ∀ i, i < n → f i ≠ some i) {r : List Nat} (hr : ringF f n = some r) : RingOk f n r := by
  have h := ring_tab n4 b
  have e : ringF (tabF ((List.range n).map f)) n = ringF f n := (ringF_congr (fun i hi => (tabF_map hi).symm) b).symm
  unfold tabOk at h
  rw [List.length_map, List.length_range, e, hr] at h
  rcases Bool.or_eq_true_iff.mp h with h | h
  · obtain ⟨i, hi, h⟩ := List.any_eq_true.mp h
    have hi := List.mem_range.mp hi
    rw [tabF_map hi] at h
    exact absurd (beq_iff_eq.mp h) (self i hi)
  · unfold ringOkB at h
    simp only [Bool.and_eq_true, decide_eq_true_eq, List.all_eq_true, beq_iff_eq, List.mem_range] at h
    obtain ⟨⟨⟨⟨⟨h1, h0⟩, h2⟩, h3⟩, h4⟩, h5⟩ := h
    exact ⟨h1, h0, h2, h3, h4, fun i hi => by rw [← h5 i hi, tabF_map (getD_lt h3 hi)]⟩
/-! the machine's -/
theorem nxt_some {M : Mc} {h j : Nat} (e : M.nxt h = some j) : ∃ p, (M.ha h).want = some p ∧ M.locks p = some j := by
  unfold Mc.nxt at e
  cases w : (M.ha h).want with
  | none => rw [w] at e; cases e
  | some p => rw [w] at e; exact ⟨p, rfl, e⟩
theorem waits_nxt {M : Mc} {h : Nat} : M.waits h = (M.nxt h).isSome := by
  unfold Mc.waits Mc.nxt
  cases (M.ha h).want <;> rfl
section
variable {M : Mc} {g : Gh} {mu : Nat → Nat}
theorem INV.nxt_lt (I : INV M g mu) {i j : Nat} (e : M.nxt i = some j) : j < M.n := by
  obtain ⟨p, _, h⟩ := nxt_some e
  exact ((I.lks p j).mp h).1
theorem INV.holds (I : INV M g mu) {i j : Nat} (e : M.nxt i = some j) : M.rests j = false := by
  obtain ⟨p, _, h⟩ := nxt_some e
  obtain ⟨h1, h2⟩ := (I.lks p j).mp h
  unfold Mc.rests
  refine decide_eq_false fun z => ?_
  rw [((I.hand j h1).rest z).1] at h2
  simp at h2
theorem INV.nxt_self (I : INV M g mu) {i : Nat} (hi : i < M.n) : M.nxt i ≠ some i := fun e => by
  obtain ⟨p, w, h⟩ := nxt_some e
  exact I.not_self hi w h
/-- where none stick and some deed is left, some hand goes on -/
theorem INV.goes_on (I : INV M g mu) (hr : M.ring = none) (hd : M.done = false) : ∃ h, h < M.n ∧ M.rests h = false ∧ M.waits h = false := by
  rcases no_ring I.n4 (fun i j _ e => I.nxt_lt e) hr with h | ⟨i, j, hi, h1, h2⟩
  · unfold Mc.done at hd
    obtain ⟨x, hx, hz⟩ : ∃ x, x < M.n ∧ M.rests x = false := by
      apply Classical.byContradiction
      intro no
      have : (List.range M.n).all M.rests = true := List.all_eq_true.mpr fun x hx => by
        cases e : M.rests x with
        | true => rfl
        | false => exact absurd ⟨x, List.mem_range.mp hx, e⟩ no
      rw [this] at hd
      cases hd
    exact ⟨x, hx, hz, by rw [waits_nxt, h x hx]; rfl⟩
  · exact ⟨j, I.nxt_lt h1, I.holds h1, by rw [waits_nxt, h2]; rfl⟩
theorem INV.ring_ok (I : INV M g mu) {r : List Nat} (hr : M.ring = some r) : RingOk M.nxt M.n r :=
  some_ring I.n4 (fun i j _ e => I.nxt_lt e) (fun i hi => I.nxt_self hi) hr
end
/-! left first there is none -/
def Bef (g : Gh) (x p : Int) : Prop := p ≠ 0 ∧ (x ≠ 0 → g.lv p < g.lv x ∨ (g.lv p = g.lv x ∧ g.lo x < g.lo p))
theorem Bef.trans {g : Gh} {x y z : Int} (a : Bef g x y) (b : Bef g y z) : Bef g x z := by
  obtain ⟨a1, a2⟩ := a
  obtain ⟨b1, b2⟩ := b
  refine ⟨b1, fun hx => ?_⟩
  have c := a2 hx
  have d := b2 a1
  omega
theorem Bef.irr {g : Gh} {x : Int} (a : Bef g x x) : False := by
  obtain ⟨a1, a2⟩ := a
  have := a2 a1
  omega
theorem Sh.behind {F : Fo} {g : Gh} {d : Deed} {al : Int → Prop} {held : List Int} {want again : Option Int} {k : Nat} (T : FoOk F g) (s : Sh F g true d al held want again k) {p : Int} (hw : want = some p) : ∀ x ∈ held, Bef g x p := by
  have pos : ∀ {x : Int} {q : Pg}, F.pages x = some q → x ≠ 0 := fun {x q} h => by have := (T.page _ _ h).pos; omega
  have tp : ∀ {pre : List Int} {x : Int}, Top F pre x → ∀ y ∈ pre, y = 0 := fun {pre x} t y hy => by
    rcases t with t | ⟨t, _⟩
    · rw [t] at hy; simp at hy
    · rw [t] at hy; simpa using hy
  have kd : ∀ {x c : Int} {u : Pg}, F.pages x = some u → c ∈ u.kids → Bef g x c := fun {x c u} hu hc => by
    obtain ⟨q, h, h2, _⟩ := T.kid hu hc
    exact ⟨pos h, fun _ => .inl (by omega)⟩
  have zero : ∀ {y c : Int}, c ≠ 0 → y = 0 → Bef g y c := fun {y c} hc hy => ⟨hc, fun z => absurd hy z⟩
  have sib : ∀ {x a b : Int} {u : Pg}, F.pages x = some u → a ∈ u.kids → b ∈ u.kids → u.kids.idxOf a + 1 = u.kids.idxOf b → Bef g a b := fun {x a b u} hu ha hb hab => by
    obtain ⟨p1, p2, m, P⟩ := pair_of T hu ha hb hab
    have e1 := P.la
    have e2 := P.lb
    have e3 := P.lt1
    have e4 := P.mid2
    exact ⟨pos P.hb, fun _ => .inr ⟨by omega, by omega⟩⟩
  cases s with
  | idle => cases hw
  | begins => intro x hx; simp at hx
  | gate => cases hw
  | gateW e =>
    cases hw
    intro x hx
    obtain ⟨q, hq⟩ := T.rt
    exact zero (by rw [e]; exact pos hq) (by simpa using hx)
  | one e => cases hw
  | oneW t hu hc hi ok =>
    cases hw
    intro x hx
    rcases List.mem_append.mp hx with w | w
    · exact zero (kd hu hc).1 (tp t _ w)
    · rw [List.mem_singleton.mp w]; exact kd hu hc
  | two t hu hc hq hi ok => cases hw
  | nb t hu hc hn hq h1 hi hd ok adj =>
    cases hw
    intro x hx
    rcases List.mem_append.mp hx with w | w
    · exact zero (kd hu hn).1 (tp t _ w)
    · rcases List.mem_cons.mp w with w | w
      · rw [w]; exact kd hu hn
      · rw [List.mem_singleton.mp w]
        rcases adj with a | ⟨a, _⟩
        · exact sib hu hc hn a
        · cases a
  | nbA t hu hc hn hq h1 hi hd ok hl adj hal =>
    cases hw
    intro x hx
    rcases List.mem_append.mp hx with w | w
    · exact zero (kd hu hn).1 (tp t _ w)
    · rw [List.mem_singleton.mp w]; exact kd hu hn
  | nbB t hu hc hn hq h1 hi hd ok hl adj hal =>
    cases hw
    intro x hx
    rcases List.mem_append.mp hx with w | w
    · exact zero (kd hu hc).1 (tp t _ w)
    · rcases List.mem_cons.mp w with w | w
      · rw [w]; exact kd hu hc
      · rw [List.mem_singleton.mp w]; exact sib hu hn hc adj
  | three t hu ma mb hc hq h1 hi hd ok adj => cases hw
  | leafs hd ch h0 => cases hw
  | leafsW hd ch h0 hq hn =>
    cases hw
    intro x hx
    have hb := (leafs_bounds T ch x hx).1
    have P := T.page _ _ hq
    obtain ⟨q', hq', hk'⟩ := ch.pages _ lastD_mem
    rw [hq] at hq'
    cases hq'
    have lf := P.leaf_iff.mp hk'
    have nx := (P.leaf lf).2.2
    rw [hn] at nx
    obtain ⟨⟨q2, n1⟩, n2, n3⟩ := nx
    obtain ⟨qx, hqx, hkx⟩ := ch.pages _ hx
    have lx := (T.page _ _ hqx).leaf_iff.mp hkx
    exact ⟨pos n1, fun _ => .inr ⟨by omega, by omega⟩⟩
theorem INV.behind {M : Mc} {g : Gh} {mu : Nat → Nat} (I : INV M g mu) (hl : M.left = true) {h : Nat} (hh : h < M.n) {p : Int} (hw : (M.ha h).want = some p) : ∀ x ∈ (M.ha h).held, Bef g x p := by
  rcases Nat.lt_or_ge (M.ha h).at_ (M.ha h).prog.length with w | w
  · obtain ⟨k, _, _, s⟩ := (I.hand h hh).go w
    rw [hl] at s
    exact s.behind I.tree hw
  · rw [((I.hand h hh).rest (Nat.le_antisymm (I.hand h hh).le w)).1]
    intro x hx
    simp at hx
/-- what the first one wants lies ahead of, or is, a page of the later one -/
def Later (M : Mc) (g : Gh) (h x : Nat) : Prop := ∃ p y, (M.ha h).want = some p ∧ y ∈ (M.ha x).held ∧ (y = p ∨ Bef g p y)
theorem fol_later {M : Mc} {g : Gh} {mu : Nat → Nat} (I : INV M g mu) (hl : M.left = true) {h : Nat} : ∀ {k x : Nat}, x < M.n → Later M g h x → ∀ z ∈ fol M.nxt k x, Later M g h z
  | 0, x, _, l, z, hz => by rw [List.mem_singleton.mp hz]; exact l
  | k + 1, x, hx, l, z, hz => by
    unfold fol at hz
    cases e : M.nxt x with
    | none => rw [e] at hz; rw [List.mem_singleton.mp hz]; exact l
    | some j =>
      rw [e] at hz
      rcases List.mem_cons.mp hz with w | w
      · rw [w]; exact l
      · refine fol_later I hl (I.nxt_lt e) ?_ z w
        obtain ⟨p, y, h1, h2, h3⟩ := l
        obtain ⟨q, w1, w2⟩ := nxt_some e
        have b := I.behind hl hx w1 y h2
        refine ⟨p, q, h1, ((I.lks q j).mp w2).2, .inr ?_⟩
        rcases h3 with h3 | h3
        · rw [← h3]; exact b
        · exact h3.trans b
theorem INV.left_none {M : Mc} {g : Gh} {mu : Nat → Nat} (I : INV M g mu) (hl : M.left = true) : M.ring = none := by
  cases hr : M.ring with
  | none => rfl
  | some r =>
    exfalso
    obtain ⟨i, hi, e⟩ := List.exists_of_findSome?_eq_some hr
    have hi := List.mem_range.mp hi
    unfold ringAt at e
    by_cases c : i ∈ (fol M.nxt M.n i).tail
    · clear e hr
      cases hn : M.n with
      | zero => omega
      | succ n =>
        rw [hn] at c
        unfold fol at c
        cases e : M.nxt i with
        | none => rw [e] at c; simp at c
        | some j =>
          rw [e] at c
          have c' : i ∈ fol M.nxt n j := c
          obtain ⟨p, w1, w2⟩ := nxt_some e
          have l : Later M g i j := ⟨p, p, w1, ((I.lks p j).mp w2).2, .inl rfl⟩
          obtain ⟨p', y, h1, h2, h3⟩ := fol_later I hl (I.nxt_lt e) l i c'
          rw [w1] at h1
          cases h1
          have b := I.behind hl hi w1 y h2
          rcases h3 with h3 | h3
          · rw [h3] at b; exact b.irr
          · exact (h3.trans b).irr
    · rw [if_neg c] at e; cases e

/-! ### a weaving's steps -/
def Mc.run (M : Mc) : List Int → Mc × List Told
  | [] => (M, [])
  | w :: ws => (((M.turn w.toNat).1.run ws).1, (M.turn w.toNat).2 :: ((M.turn w.toNat).1.run ws).2)
theorem run_snoc : ∀ {ws : List Int} {M : Mc} {w : Int}, M.run (ws ++ [w]) = (((M.run ws).1.turn w.toNat).1, (M.run ws).2 ++ [((M.run ws).1.turn w.toNat).2])
  | [], M, w => rfl
  | a :: r, M, w => by
    show ((((M.turn a.toNat).1.run (r ++ [w]))).1, (M.turn a.toNat).2 :: ((M.turn a.toNat).1.run (r ++ [w])).2) = _
    rw [run_snoc]
    rfl
theorem run_len : ∀ {ws : List Int} {M : Mc}, (M.run ws).2.length = ws.length
  | [], _ => rfl
  | a :: r, M => by
    show ((M.turn a.toNat).2 :: ((M.turn a.toNat).1.run r).2).length = _
    rw [List.length_cons, List.length_cons, run_len]
theorem run_inv : ∀ {ws : List Int} {M : Mc} {g : Gh} {mu : Nat → Nat}, INV M g mu → (∀ w ∈ ws, 0 ≤ w ∧ w < (M.n : Nat)) → ∃ g' mu', INV (M.run ws).1 g' mu' ∧ (M.run ws).1.n = M.n ∧ ∀ i, ((M.run ws).1.ha i).prog = (M.ha i).prog
  | [], M, g, mu, I, _ => ⟨g, mu, I, rfl, fun _ => rfl⟩
  | a :: r, M, g, mu, I, h => by
    have ha := h a (by simp)
    obtain ⟨g1, mu1, I1, e1, p1⟩ := I.turn (h := a.toNat) (by omega)
    obtain ⟨g2, mu2, I2, e2, p2⟩ := run_inv (ws := r) I1 fun w hw => by rw [e1]; exact h w (by simp [hw])
    exact ⟨g2, mu2, I2, e2.trans e1, fun i => (p2 i).trans (p1 i)⟩
theorem run_app : ∀ {a b : List Int} {M : Mc}, (M.run (a ++ b)).1 = ((M.run a).1.run b).1
  | [], _, _ => rfl
  | x :: a, b, M => run_app (a := a)
theorem turn_idle {M : Mc} {h : Nat} (z : M.rests h = true ∨ M.waits h = true) : (M.turn h).1 = M := by
  cases hr : M.rests h with
  | true => rw [turn_rests hr]
  | false =>
    have hw : M.waits h = true := by rcases z with z | z; rw [z] at hr; cases hr; exact z
    have hw' := hw
    unfold Mc.waits at hw'
    cases e : (M.ha h).want with
    | none => rw [e] at hw'; cases hw'
    | some p => rw [e] at hw'; rw [turn_waits hr e hw']
theorem idle_or {M : Mc} {h : Nat} : (M.rests h = true ∨ M.waits h = true) ∨ (M.rests h = false ∧ M.waits h = false) := by
  cases M.rests h <;> cases M.waits h <;> simp
theorem INV.turn_left {M : Mc} {g : Gh} {mu : Nat → Nat} (I : INV M g mu) {h : Nat} (hh : h < M.n) : (M.turn h).1.left = M.left := by
  rcases idle_or (M := M) (h := h) with z | ⟨z1, z2⟩
  · rw [turn_idle z]
  · obtain ⟨g', m', D⟩ := step_ok I hh z1 z2
    exact D.eff.left
theorem INV.run_left : ∀ {ws : List Int} {M : Mc} {g : Gh} {mu : Nat → Nat}, INV M g mu → (∀ w ∈ ws, 0 ≤ w ∧ w < (M.n : Nat)) → (M.run ws).1.left = M.left
  | [], _, _, _, _, _ => rfl
  | a :: r, M, g, mu, I, h => by
    have ha := h a (by simp)
    obtain ⟨g1, mu1, I1, e1, p1⟩ := I.turn (h := a.toNat) (by omega)
    exact (INV.run_left (ws := r) I1 fun w hw => by rw [e1]; exact h w (by simp [hw])).trans (I.turn_left (by omega))
/-- steps make what is left to be done no more, and less where a hand goes on -/
theorem INV.run_mu : ∀ {ws : List Int} {M : Mc} {g : Gh} {mu : Nat → Nat}, INV M g mu → (∀ w ∈ ws, 0 ≤ w ∧ w < (M.n : Nat)) →
    ∃ g' mu', INV (M.run ws).1 g' mu' ∧ sumN (M.run ws).1.n mu' ≤ sumN M.n mu ∧ ((∃ w ∈ ws, M.rests w.toNat = false ∧ M.waits w.toNat = false) → sumN (M.run ws).1.n mu' < sumN M.n mu)
  | [], _, g, mu, I, _ => ⟨g, mu, I, Nat.le_refl _, fun ⟨w, hw, _⟩ => by simp at hw⟩
  | a :: r, M, g, mu, I, h => by
    have ha := h a (by simp)
    have hh : a.toNat < M.n := by omega
    show ∃ g' mu', INV ((M.turn a.toNat).1.run r).1 g' mu' ∧ sumN ((M.turn a.toNat).1.run r).1.n mu' ≤ sumN M.n mu ∧ ((∃ w ∈ a :: r, M.rests w.toNat = false ∧ M.waits w.toNat = false) → sumN ((M.turn a.toNat).1.run r).1.n mu' < sumN M.n mu)
    rcases idle_or (M := M) (h := a.toNat) with z | ⟨z1, z2⟩
    · rw [turn_idle z]
      obtain ⟨g', mu', I', l, s⟩ := INV.run_mu (ws := r) I fun w hw => h w (by simp [hw])
      refine ⟨g', mu', I', l, fun ⟨w, hw, w1, w2⟩ => s ⟨w, ?_, w1, w2⟩⟩
      rcases List.mem_cons.mp hw with e | e
      · subst e
        rcases z with z | z
        · rw [z] at w1; cases w1
        · rw [z] at w2; cases w2
      · exact e
    · obtain ⟨g1, m1, D⟩ := step_ok I hh z1 z2
      have en := D.eff.n
      obtain ⟨g', mu', I', l, s⟩ := INV.run_mu (ws := r) D.inv fun w hw => by rw [en]; exact h w (by simp [hw])
      have e := sumN_put (f := mu) (m := m1) hh
      have lt := D.less
      rw [en] at l
      exact ⟨g', mu', I', by omega, fun _ => by omega⟩
/-- all hands by turns, k times -/
def rnds (n : Nat) : Nat → List Int
  | 0 => []
  | k + 1 => rnds n k ++ (List.range n).map Int.ofNat
theorem rnds_mem {n : Nat} : ∀ {k : Nat}, ∀ w ∈ rnds n k, 0 ≤ w ∧ w < (n : Nat)
  | 0, w, h => by simp [rnds] at h
  | k + 1, w, h => by
    rcases List.mem_append.mp h with h | h
    · exact rnds_mem w h
    · obtain ⟨i, hi, rfl⟩ := List.mem_map.mp h
      have := List.mem_range.mp hi
      exact ⟨Int.natCast_nonneg _, Int.ofNat_lt.mpr this⟩
theorem INV.round {M : Mc} {g : Gh} {mu : Nat → Nat} (I : INV M g mu) (hr : M.ring = none) (hd : M.done = false) : ∃ g' mu', INV (M.run ((List.range M.n).map Int.ofNat)).1 g' mu' ∧ sumN (M.run ((List.range M.n).map Int.ofNat)).1.n mu' < sumN M.n mu := by
  obtain ⟨h, h1, h2, h3⟩ := I.goes_on hr hd
  obtain ⟨g', mu', I', _, s⟩ := I.run_mu (ws := (List.range M.n).map Int.ofNat) fun w hw => by
    obtain ⟨i, hi, rfl⟩ := List.mem_map.mp hw
    have := List.mem_range.mp hi
    exact ⟨Int.natCast_nonneg _, Int.ofNat_lt.mpr this⟩
  exact ⟨g', mu', I', s ⟨Int.ofNat h, List.mem_map.mpr ⟨h, List.mem_range.mpr h1, rfl⟩, h2, h3⟩⟩
/-! what a deed tells of rising keys, and the keys behind it -/
def answerK (ks : List Int) : Deed → Ans × List Int
  | .walk lo hi => (.l (ks.filter fun k => decide (lo ≤ k ∧ k ≤ hi)), ks)
  | .put k => if k ∈ ks then (.b false, ks) else (.b true, ins k ks)
  | .take k => if k ∈ ks then (.b true, ks.filter fun x => decide (x ≠ k)) else (.b false, ks)
  | .ask k => (.b (decide (k ∈ ks)), ks)
def serialK (ks : List Int) : List Deed → List Ans × List Int
  | [] => ([], ks)
  | d :: ds => ((answerK ks d).1 :: (serialK (answerK ks d).2 ds).1, (serialK (answerK ks d).2 ds).2)
theorem serialK_snoc : ∀ {ds : List Deed} {ks : List Int} {d : Deed}, serialK ks (ds ++ [d]) = ((serialK ks ds).1 ++ [(answerK (serialK ks ds).2 d).1], (answerK (serialK ks ds).2 d).2)
  | [], _, _ => rfl
  | x :: ds, ks, d => by
    show ((answerK ks x).1 :: (serialK (answerK ks x).2 (ds ++ [d])).1, (serialK (answerK ks x).2 (ds ++ [d])).2) = _
    rw [serialK_snoc]
    rfl
theorem keysF_same {F F' : Fo} (h : ∀ x, Has F' x ↔ Has F x) : keysF F' = keysF F := by
  unfold keysF
  refine List.filter_congr fun x _ => ?_
  rw [decide_eq_decide]
  exact h x
theorem ans_serial {F F' : Fo} {g g' : Gh} (T : FoOk F g) (T' : FoOk F' g') {d : Deed} {a : Ans} (h : AnsOk F F' d a) : answerK (keysF F) d = (a, keysF F') := by
  have mem := fun x => keysF_mem T x
  have mem' := fun x => keysF_mem T' x
  cases d with
  | put k =>
    obtain ⟨⟨b, rfl, hb⟩, hx⟩ := h
    show (if k ∈ keysF F then (Ans.b false, keysF F) else (Ans.b true, ins k (keysF F))) = _
    by_cases c : k ∈ keysF F
    · rw [if_pos c, keysF_same (F' := F') (F := F) fun x => by rw [hx]; exact ⟨fun z => z.elim id fun e => by rw [e]; exact (mem k).mp c, .inl⟩]
      have : b = false := by
        cases b with
        | false => rfl
        | true => exact absurd ((mem k).mp c) (hb.mp rfl)
      rw [this]
    · rw [if_neg c]
      have : b = true := hb.mpr fun z => c ((mem k).mpr z)
      rw [this, sorted_one (ins_lt (keysF_lt F) c) (keysF_lt F') fun x => by rw [mem_ins, mem, mem', hx]; exact ⟨fun z => z.elim .inr .inl, fun z => z.elim .inr .inl⟩]
  | take k =>
    obtain ⟨⟨b, rfl, hb⟩, hx⟩ := h
    show (if k ∈ keysF F then (Ans.b true, (keysF F).filter fun x => decide (x ≠ k)) else (Ans.b false, keysF F)) = _
    by_cases c : k ∈ keysF F
    · rw [if_pos c]
      have : b = true := hb.mpr ((mem k).mp c)
      rw [this, sorted_one ((keysF_lt F).filter _) (keysF_lt F') fun x => by rw [List.mem_filter, mem, mem', hx, decide_eq_true_iff]]
    · rw [if_neg c, keysF_same (F' := F') (F := F) fun x => by rw [hx]; exact ⟨fun z => z.1, fun z => ⟨z, fun e => c ((mem k).mpr (e ▸ z))⟩⟩]
      have : b = false := by
        cases b with
        | false => rfl
        | true => exact absurd ((mem k).mpr (hb.mp rfl)) c
      rw [this]
  | ask k =>
    obtain ⟨⟨b, rfl, hb⟩, hx⟩ := h
    show (Ans.b (decide (k ∈ keysF F)), keysF F) = _
    rw [keysF_same hx]
    have : decide (k ∈ keysF F) = b := by
      rw [Bool.eq_iff_iff, decide_eq_true_iff, mem, hb]
    rw [this]
  | walk lo hi =>
    obtain ⟨⟨l, rfl, hs, hl⟩, hx⟩ := h
    show (Ans.l ((keysF F).filter fun k => decide (lo ≤ k ∧ k ≤ hi)), keysF F) = _
    rw [keysF_same hx, sorted_one ((keysF_lt F).filter _) hs fun x => by rw [List.mem_filter, mem, hl, decide_eq_true_iff]; exact ⟨fun z => ⟨z.2, z.1⟩, fun z => ⟨z.2, z.1⟩⟩]
/-- what has been told is what the deeds tell one after another, in the order of their ends -/
structure Hist (ks : List Int) (M : Mc) : Prop where
  ser : serialK ks (M.ends.map fun e => (M.ha e.1).prog.getD e.2 (.ask 0)) = (M.ends.map fun e => (M.ha e.1).said.getD e.2 (.b false), keysF M.fo)
  row : ∀ h, h < M.n → (M.ends.filter fun e => e.1 == h).map (·.2) = List.range (M.ha h).at_
  lt : ∀ e ∈ M.ends, e.1 < M.n ∧ e.2 < (M.ha e.1).said.length
theorem Hist.turn {ks : List Int} {M : Mc} {g : Gh} {mu : Nat → Nat} (I : INV M g mu) (H : Hist ks M) {h : Nat} (hh : h < M.n) : Hist ks (M.turn h).1 := by
  rcases idle_or (M := M) (h := h) with z | ⟨z1, z2⟩
  · rw [turn_idle z]; exact H
  · obtain ⟨g', m', D⟩ := step_ok I hh z1 z2
    have T := I.tree
    have T' := D.inv.tree
    have en := D.eff.n
    have oth := D.eff.oth
    have pr := D.eff.prog
    have prog : ∀ i, ((M.turn h).1.ha i).prog = (M.ha i).prog := fun i => by
      by_cases e : i = h
      · rw [e]; exact pr
      · rw [oth i e]
    rcases D.sem with ⟨a, _, s2, s3, s4, s5⟩ | ⟨_, s2, s3, s4, s5⟩
    · have said : ∀ i, i ≠ h → ((M.turn h).1.ha i).said = (M.ha i).said := fun i e => by rw [oth i e]
      have sl := I.said h hh
      have old : ∀ e ∈ M.ends, ((M.turn h).1.ha e.1).said.getD e.2 (.b false) = (M.ha e.1).said.getD e.2 (.b false) := fun e he => by
        by_cases c : e.1 = h
        · have := (H.lt e he).2
          rw [c] at this ⊢
          rw [s4, List.getD_eq_getElem?_getD, List.getD_eq_getElem?_getD, List.getElem?_append_left this]
        · rw [said _ c]
      refine ⟨?_, fun i hi => ?_, fun e he => ?_⟩
      · rw [s5, List.map_append, List.map_append]
        have e1 : (M.ends.map fun e => ((M.turn h).1.ha e.1).prog.getD e.2 (.ask 0)) = M.ends.map fun e => (M.ha e.1).prog.getD e.2 (.ask 0) := List.map_congr_left fun e _ => by rw [prog]
        have e2 : (M.ends.map fun e => ((M.turn h).1.ha e.1).said.getD e.2 (.b false)) = M.ends.map fun e => (M.ha e.1).said.getD e.2 (.b false) := List.map_congr_left old
        rw [e1, e2]
        show serialK ks (_ ++ [((M.turn h).1.ha h).prog.getD (M.ha h).at_ (.ask 0)]) = (_ ++ [((M.turn h).1.ha h).said.getD (M.ha h).at_ (.b false)], _)
        rw [serialK_snoc, H.ser, prog]
        have e3 : (M.ha h).prog.getD (M.ha h).at_ (.ask 0) = M.deed h := rfl
        have e4 : ((M.turn h).1.ha h).said.getD (M.ha h).at_ (.b false) = a := by
          rw [s4, List.getD_eq_getElem?_getD, ← sl, List.getElem?_append_right (Nat.le_refl _)]
          simp
        rw [e3, e4, ans_serial T T' s2]
      · rw [s5, List.filter_append, List.map_append]
        rw [en] at hi
        rw [H.row i hi]
        by_cases c : i = h
        · subst c
          rw [s3, List.range_succ]
          simp
        · rw [oth i c]
          have : ((h, (M.ha h).at_) :: []).filter (fun e : Nat × Nat => e.1 == i) = [] := by
            rw [List.filter_cons, if_neg (by simp; exact fun z => c z.symm)]; rfl
          rw [this]
          simp
      · rw [en]
        rw [s5] at he
        rcases List.mem_append.mp he with he | he
        · obtain ⟨l1, l2⟩ := H.lt e he
          refine ⟨l1, ?_⟩
          by_cases c : e.1 = h
          · rw [c] at l2 ⊢
            rw [s4, List.length_append]
            omega
          · rw [said _ c]; exact l2
        · rw [List.mem_singleton.mp he]
          refine ⟨hh, ?_⟩
          show (M.ha h).at_ < ((M.turn h).1.ha h).said.length
          rw [s4, List.length_append, sl]
          simp
    · have said : ∀ i, ((M.turn h).1.ha i).said = (M.ha i).said := fun i => by
        by_cases e : i = h
        · rw [e]; exact s4
        · rw [oth i e]
      have at' : ∀ i, ((M.turn h).1.ha i).at_ = (M.ha i).at_ := fun i => by
        by_cases e : i = h
        · rw [e]; exact s3
        · rw [oth i e]
      refine ⟨?_, fun i hi => ?_, fun e he => ?_⟩
      · rw [s5, keysF_same s2]
        have e1 : (M.ends.map fun e => ((M.turn h).1.ha e.1).prog.getD e.2 (.ask 0)) = M.ends.map fun e => (M.ha e.1).prog.getD e.2 (.ask 0) := List.map_congr_left fun e _ => by rw [prog]
        have e2 : (M.ends.map fun e => ((M.turn h).1.ha e.1).said.getD e.2 (.b false)) = M.ends.map fun e => (M.ha e.1).said.getD e.2 (.b false) := List.map_congr_left fun e _ => by rw [said]
        rw [e1, e2]
        exact H.ser
      · rw [s5, at']
        rw [en] at hi
        exact H.row i hi
      · rw [en, said]
        rw [s5] at he
        exact H.lt e he
theorem Hist.run : ∀ {ws : List Int} {ks : List Int} {M : Mc} {g : Gh} {mu : Nat → Nat}, INV M g mu → Hist ks M → (∀ w ∈ ws, 0 ≤ w ∧ w < (M.n : Nat)) → Hist ks (M.run ws).1
  | [], _, _, _, _, _, H, _ => H
  | a :: r, ks, M, g, mu, I, H, h => by
    have ha := h a (by simp)
    obtain ⟨g1, mu1, I1, e1, p1⟩ := I.turn (h := a.toNat) (by omega)
    exact Hist.run (ws := r) I1 (H.turn I (by omega)) fun w hw => by rw [e1]; exact h w (by simp [hw])
theorem Hist.start {left : Bool} {keys : List Int} {progs : List (List Deed)} : Hist (keysF (startM left keys progs).fo) (startM left keys progs) :=
  ⟨rfl, fun h _ => rfl, fun e he => by simp [startM, mc0] at he⟩
/-- behind all deeds -/
theorem INV.done_row {M : Mc} {g : Gh} {mu : Nat → Nat} (I : INV M g mu) (hd : M.done = true) {h : Nat} (hh : h < M.n) : (M.ha h).at_ = (M.ha h).prog.length ∧ (M.ha h).said.length = (M.ha h).prog.length := by
  unfold Mc.done at hd
  have := List.all_eq_true.mp hd h (List.mem_range.mpr hh)
  unfold Mc.rests at this
  have e := of_decide_eq_true this
  exact ⟨e, (I.said h hh).trans e⟩

/-! ### the order of ends -/
def dueL (n : Nat) (f : Nat → Nat) : List (Nat × Nat) := (List.range n).flatMap fun h => (List.range (f h)).map fun k => (h, k)
def lexL (a b : Nat × Nat) : Prop := a.1 < b.1 ∨ (a.1 = b.1 ∧ a.2 < b.2)
theorem due_succ {n : Nat} {f : Nat → Nat} : dueL (n + 1) f = dueL n f ++ (List.range (f n)).map fun k => (n, k) := by
  unfold dueL
  rw [List.range_succ, List.flatMap_append]
  simp
theorem due_mem {f : Nat → Nat} {e : Nat × Nat} : ∀ {n : Nat}, e ∈ dueL n f ↔ e.1 < n ∧ e.2 < f e.1
  | 0 => by simp [dueL]
  | n + 1 => by
    rw [due_succ, List.mem_append, due_mem, List.mem_map]
    obtain ⟨a, b⟩ := e
    constructor
    · rintro (⟨h1, h2⟩ | ⟨k, hk, e⟩)
      · exact ⟨Nat.lt_succ_of_lt h1, h2⟩
      · have hk := List.mem_range.mp hk
        injection e with e1 e2
        subst e1; subst e2
        exact ⟨Nat.lt_succ_self _, hk⟩
    · rintro ⟨h1, h2⟩
      have h1 : a < n + 1 := h1
      rcases Nat.lt_or_ge a n with w | w
      · exact .inl ⟨w, h2⟩
      · have e : a = n := by omega
        subst e
        exact .inr ⟨b, List.mem_range.mpr h2, rfl⟩
theorem due_lex {f : Nat → Nat} : ∀ {n : Nat}, (dueL n f).Pairwise lexL
  | 0 => by simp [dueL]
  | n + 1 => by
    rw [due_succ]
    refine List.pairwise_append.mpr ⟨due_lex, List.pairwise_map.mpr (List.pairwise_lt_range.imp fun {a b} z => .inr ⟨rfl, z⟩), fun a ha b hb => ?_⟩
    obtain ⟨k, _, rfl⟩ := List.mem_map.mp hb
    exact .inl (due_mem.mp ha).1
theorem lex_nodup {l : List (Nat × Nat)} (h : l.Pairwise lexL) : l.Nodup := h.imp fun {a b} z e => by
  subst e
  unfold lexL at z
  omega
theorem Hist.nodup {ks : List Int} {M : Mc} (H : Hist ks M) : M.ends.Nodup := by
  rw [List.nodup_iff_count]
  intro e
  by_cases he : e ∈ M.ends
  · obtain ⟨h1, h2⟩ := H.lt e he
    have r := H.row e.1 h1
    have nd : (M.ends.filter fun x => x.1 == e.1).Nodup := by
      have : ((M.ends.filter fun x => x.1 == e.1).map (·.2)).Nodup := by rw [r]; exact List.nodup_range
      exact List.Pairwise.of_map (·.2) (fun a b z e => z (by rw [e])) this
    have := List.nodup_iff_count.mp nd e
    rwa [List.count_filter (by simp)] at this
  · rw [List.count_eq_zero.mpr he]; omega
theorem Hist.perm {ks : List Int} {M : Mc} (H : Hist ks M) (n : Nat) (hn : M.n = n) (f : Nat → Nat) (hf : ∀ h, h < M.n → (M.ha h).at_ = f h) : M.ends.Perm (dueL n f) := by
  subst hn
  refine (List.perm_ext_iff_of_nodup H.nodup (lex_nodup due_lex)).mpr fun e => ?_
  rw [due_mem]
  have key : ∀ h, h < M.n → ∀ k, (h, k) ∈ M.ends ↔ k < f h := fun h hh k => by
    have r := H.row h hh
    rw [hf h hh] at r
    rw [← List.mem_range, ← r, List.mem_map]
    constructor
    · intro z
      exact ⟨(h, k), List.mem_filter.mpr ⟨z, by simp⟩, rfl⟩
    · rintro ⟨x, hx, e⟩
      obtain ⟨x1, x2⟩ := List.mem_filter.mp hx
      have : x.1 = h := by simpa using x2
      have : x = (h, k) := Prod.ext this e
      rw [← this]; exact x1
  constructor
  · intro he
    have h1 := (H.lt e he).1
    exact ⟨h1, (key e.1 h1 e.2).mp he⟩
  · rintro ⟨h1, h2⟩
    exact (key e.1 h1 e.2).mpr h2
/-- where a weaving comes to -/
theorem reach (left : Bool) {keys : List Int} {progs : List (List Deed)} (hk : KeysOk keys) (hp : ProgsOk progs) {ws : List Int} (hw : ∀ w ∈ ws, 0 ≤ w ∧ w < (progs.length : Nat)) {M : Mc} (hM : M = ((startM left keys progs).run ws).1) :
    ∃ g mu sk, INV M g mu ∧ M.n = progs.length ∧ (∀ i, (M.ha i).prog = progs.getD i []) ∧ M.left = left ∧ sk.Pairwise (· < ·) ∧ (∀ x, x ∈ sk ↔ x ∈ keys) ∧ Hist sk M := by
  obtain ⟨g0, mu0, I0, hh⟩ := start_ok left hk hp
  obtain ⟨g, mu, I, n, pr⟩ := run_inv I0 hw
  have l := I0.run_left hw
  have H := Hist.run I0 Hist.start hw
  rw [← hM] at I n pr l H
  exact ⟨g, mu, keysF (startM left keys progs).fo, I, n, fun i => pr i, l, keysF_lt _, fun x => by rw [keysF_mem I0.tree, hh], H⟩

/-! ### the same with other keys -/
def Mono (f : Int → Int) : Prop := ∀ a b, a < b → f a < f b
theorem Mono.lt {f : Int → Int} (m : Mono f) {a b : Int} : f a < f b ↔ a < b := by
  constructor
  · intro h
    rcases Int.lt_trichotomy a b with w | w | w
    · exact w
    · rw [w] at h; omega
    · have := m b a w; omega
  · exact m a b
theorem Mono.le {f : Int → Int} (m : Mono f) {a b : Int} : f a ≤ f b ↔ a ≤ b := by
  have := m.lt (a := b) (b := a)
  omega
theorem Mono.inj {f : Int → Int} (m : Mono f) {a b : Int} : f a = f b ↔ a = b := by
  have h1 := m.lt (a := a) (b := b)
  have h2 := m.lt (a := b) (b := a)
  omega
def pgM (f : Int → Int) (p : Pg) : Pg := ⟨p.row.map f, p.kids, p.nxt⟩
def foM (f : Int → Int) (F : Fo) : Fo := ⟨fun n => (F.pages n).map (pgM f), F.last, F.root⟩
def deedM (f : Int → Int) : Deed → Deed
  | .put k => .put (f k)
  | .take k => .take (f k)
  | .ask k => .ask (f k)
  | .walk lo hi => .walk (f lo) (f hi)
def ansM (f : Int → Int) : Ans → Ans
  | .b x => .b x
  | .l xs => .l (xs.map f)
def toldM (f : Int → Int) : Told → Told
  | .ends a => .ends (ansM f a)
  | t => t
def haM (f : Int → Int) (x : Ha) : Ha := ⟨x.prog.map (deedM f), x.at_, x.held, x.want, x.again, x.said.map (ansM f)⟩
def mcM (f : Int → Int) (M : Mc) : Mc := ⟨M.left, foM f M.fo, M.locks, M.ends, M.n, fun i => haM f (M.ha i)⟩
section
variable {f : Int → Int}
theorem place_map (m : Mono f) {row : List Int} {k : Int} : place (row.map f) (f k) = place row k := by
  unfold place
  rw [List.filter_map, List.length_map]
  congr 1
  refine List.filter_congr fun x _ => ?_
  show decide (f x ≤ f k) = decide (x ≤ k)
  rw [decide_eq_decide]
  exact m.le
theorem ins_map (m : Mono f) {k : Int} : ∀ {row : List Int}, ins (f k) (row.map f) = (ins k row).map f
  | [] => rfl
  | a :: r => by
    show (if f k ≤ f a then f k :: f a :: r.map f else f a :: ins (f k) (r.map f)) = (if k ≤ a then k :: a :: r else a :: ins k r).map f
    by_cases c : k ≤ a
    · rw [if_pos c, if_pos (m.le.mpr c)]; rfl
    · rw [if_neg c, if_neg (fun z => c (m.le.mp z)), ins_map m]; rfl
theorem mem_mapM (m : Mono f) {k : Int} {row : List Int} : f k ∈ row.map f ↔ k ∈ row := by
  rw [List.mem_map]
  exact ⟨fun ⟨x, h, e⟩ => m.inj.mp e ▸ h, fun h => ⟨k, h, rfl⟩⟩
theorem erase_mapM (m : Mono f) {k : Int} : ∀ {row : List Int}, (row.map f).erase (f k) = (row.erase k).map f
  | [] => rfl
  | a :: r => by
    rw [List.map_cons, List.erase_cons, List.erase_cons]
    by_cases c : a = k
    · subst c; simp
    · rw [if_neg (by simp; exact fun z => c (m.inj.mp z)), if_neg (by simp; exact c), erase_mapM m]; rfl
theorem pg_mapM {F : Fo} {n : Int} : (foM f F).pg n = pgM f (F.pg n) := by
  show ((F.pages n).map (pgM f)).getD ⟨[], [], none⟩ = pgM f ((F.pages n).getD ⟨[], [], none⟩)
  cases F.pages n <;> rfl
theorem child_mapM (m : Mono f) {F : Fo} {n k : Int} : (foM f F).child n (f k) = F.child n k := by
  unfold Fo.child
  rw [pg_mapM]
  show (if n = 0 then F.root else (F.pg n).kids.getD (place ((F.pg n).row.map f) (f k)) 0) = _
  rw [place_map m]
theorem upper_mapM {F : Fo} : isUpper (foM f F) = isUpper F := funext fun p => by
  unfold isUpper
  rw [pg_mapM]
  rfl
theorem leave1_mapM {M : Mc} {h : Nat} {p : Int} : (mcM f M).leave1 h p = mcM f (M.leave1 h p) := by
  unfold Mc.leave1 Mc.hold Mc.freeP Mc.setHa mcM
  simp only [Mc.mk.injEq, true_and]
  funext i
  by_cases c : i = h
  · rw [if_pos c, if_pos c]; rfl
  · rw [if_neg c, if_neg c]
theorem leave_mapM {h : Nat} : ∀ {ps : List Int} {M : Mc}, (mcM f M).leave h ps = mcM f (M.leave h ps)
  | [], _ => rfl
  | p :: ps, M => by
    show ((mcM f M).leave1 h p).leave h ps = mcM f ((M.leave1 h p).leave h ps)
    rw [leave1_mapM, leave_mapM]
theorem setHa_mapM {M : Mc} {h : Nat} {x : Ha} : (mcM f M).setHa h (haM f x) = mcM f (M.setHa h x) := by
  unfold Mc.setHa mcM
  simp only [Mc.mk.injEq, true_and]
  funext i
  by_cases c : i = h
  · rw [if_pos c, if_pos c]
  · rw [if_neg c, if_neg c]
theorem goes_mapM {M : Mc} {h : Nat} {p : Int} : (mcM f M).goes h p = (mcM f (M.goes h p).1, toldM f (M.goes h p).2) := by
  unfold Mc.goes Mc.wants
  exact Prod.ext (setHa_mapM (x := { M.ha h with want := some p })) rfl
theorem ends_mapM {M : Mc} {h : Nat} {a : Ans} : (mcM f M).endsWith h (ansM f a) = (mcM f (M.endsWith h a).1, toldM f (M.endsWith h a).2) := by
  have e : (mcM f M).leave h ((mcM f M).ha h).held = mcM f (M.leave h (M.ha h).held) := leave_mapM
  unfold Mc.endsWith
  rw [e]
  refine Prod.ext ?_ rfl
  generalize M.leave h (M.ha h).held = M1
  have e2 : (mcM f M1).setHa h { (mcM f M1).ha h with said := ((mcM f M1).ha h).said ++ [ansM f a], at_ := ((mcM f M1).ha h).at_ + 1 } = mcM f (M1.setHa h { M1.ha h with said := (M1.ha h).said ++ [a], at_ := (M1.ha h).at_ + 1 }) := by
    rw [← setHa_mapM]
    congr 1
    show Ha.mk _ _ _ _ _ ((M1.ha h).said.map (ansM f) ++ [ansM f a]) = Ha.mk _ _ _ _ _ (((M1.ha h).said ++ [a]).map (ansM f))
    rw [List.map_append]
    rfl
  show ({ (mcM f M1).setHa h _ with ends := _ } : Mc) = _
  rw [e2]
  rfl
/-- what stands in range -/
theorem getD_mapM {xs : List Int} {i : Nat} (h : i < xs.length) : (xs.map f).getD i 0 = f (xs.getD i 0) := by
  rw [List.getD_eq_getElem?_getD, List.getD_eq_getElem?_getD, List.getElem?_map, List.getElem?_eq_getElem h]
  rfl
theorem lastD_mapM {xs : List Int} (h : xs ≠ []) : (xs.map f).getLastD 0 = f (xs.getLastD 0) := by
  rw [List.getLastD_eq_getLast?, List.getLastD_eq_getLast?, List.getLast?_map, List.getLast?_eq_some_getLast h]
  rfl
theorem setP_mapM {g : Int → Option Pg} {n : Int} {p : Pg} : (fun x => (setP g n p x).map (pgM f)) = setP (fun x => (g x).map (pgM f)) n (pgM f p) := by
  funext x
  unfold setP
  by_cases c : x = n
  · rw [if_pos c, if_pos c]; rfl
  · rw [if_neg c, if_neg c]
theorem delP_mapM {g : Int → Option Pg} {n : Int} : (fun x => (delP g n x).map (pgM f)) = delP (fun x => (g x).map (pgM f)) n := by
  funext x
  unfold delP
  by_cases c : x = n
  · rw [if_pos c, if_pos c]; rfl
  · rw [if_neg c, if_neg c]
theorem set_mapM {F : Fo} {n : Int} {p : Pg} : (foM f F).set n (pgM f p) = foM f (F.set n p) := by
  unfold Fo.set foM
  simp only [Fo.mk.injEq, and_true]
  exact setP_mapM.symm
theorem del_mapM {F : Fo} {n : Int} : (foM f F).del n = foM f (F.del n) := by
  unfold Fo.del foM
  simp only [Fo.mk.injEq, and_true]
  exact delP_mapM.symm
theorem add_mapM {F : Fo} {p : Pg} : (foM f F).add (pgM f p) = foM f (F.add p) := by
  unfold Fo.add foM
  simp only [Fo.mk.injEq, and_true]
  exact setP_mapM.symm
theorem halfL_mapM {p : Pg} {n : Int} : halfL (pgM f p) n = pgM f (halfL p n) := by
  unfold halfL
  show (if p.kids = [] then _ else _) = _
  by_cases c : p.kids = []
  · rw [if_pos c, if_pos c]
    show Pg.mk ((p.row.map f).take 1) _ _ = Pg.mk ((p.row.take 1).map f) _ _
    rw [List.map_take]
  · rw [if_neg c, if_neg c]
    show Pg.mk ((p.row.map f).take 1) _ _ = Pg.mk ((p.row.take 1).map f) _ _
    rw [List.map_take]
    rfl
theorem halfR_mapM {p : Pg} : halfR (pgM f p) = pgM f (halfR p) := by
  unfold halfR
  show (if p.kids = [] then _ else _) = _
  by_cases c : p.kids = []
  · rw [if_pos c, if_pos c]
    show Pg.mk ((p.row.map f).drop 1) _ _ = Pg.mk ((p.row.drop 1).map f) _ _
    rw [List.map_drop]
    rfl
  · rw [if_neg c, if_neg c]
    show Pg.mk ((p.row.map f).drop 2) _ _ = Pg.mk ((p.row.drop 2).map f) _ _
    rw [List.map_drop]
    rfl
theorem beside_mapM {u : Pg} {n k new : Int} : beside (pgM f u) n (f k) new = pgM f (beside u n k new) := by
  unfold beside pgM
  simp only [Pg.mk.injEq, and_true]
  rw [List.map_append, List.map_cons, List.map_take, List.map_drop]
theorem split_mapM {F : Fo} {above n : Int} (h : 1 < (F.pg n).row.length) : (foM f F).split above n = foM f (F.split above n) := by
  unfold Fo.split
  rw [pg_mapM, pg_mapM]
  have e1 : (pgM f (F.pg n)).row.getD 1 0 = f ((F.pg n).row.getD 1 0) := getD_mapM h
  have e2 : ((foM f F).add (halfR (pgM f (F.pg n)))).set n (halfL (pgM f (F.pg n)) ((foM f F).last + 1)) = foM f ((F.add (halfR (F.pg n))).set n (halfL (F.pg n) (F.last + 1))) := by
    rw [halfR_mapM, add_mapM, show (foM f F).last = F.last from rfl, halfL_mapM, set_mapM]
  show (if above = 0 then _ else _) = foM f (if above = 0 then _ else _)
  rw [e1, e2]
  by_cases c : above = 0
  · rw [if_pos c, if_pos c]
    have e3 : (foM f ((F.add (halfR (F.pg n))).set n (halfL (F.pg n) (F.last + 1)))).add ⟨[f ((F.pg n).row.getD 1 0)], [n, (foM f F).last + 1], none⟩ = foM f (((F.add (halfR (F.pg n))).set n (halfL (F.pg n) (F.last + 1))).add ⟨[(F.pg n).row.getD 1 0], [n, F.last + 1], none⟩) := add_mapM (p := ⟨[(F.pg n).row.getD 1 0], [n, F.last + 1], none⟩)
    rw [e3]
    rfl
  · rw [if_neg c, if_neg c, beside_mapM]
    exact set_mapM
theorem moved_mapM {F : Fo} {above left right : Int} {toLeft : Bool} (hi : (F.pg above).kids.idxOf left < (F.pg above).row.length) (h : (toLeft = true ∧ 1 < (F.pg right).row.length) ∨ (toLeft = false ∧ 1 < (F.pg left).row.length)) :
    (foM f F).moved above left right toLeft = foM f (F.moved above left right toLeft) := by
  unfold Fo.moved
  rw [pg_mapM, pg_mapM, pg_mapM]
  show (if toLeft = true then _ else _) = foM f (if toLeft = true then _ else _)
  generalize F.pg above = u at *
  generalize F.pg left = one at *
  generalize F.pg right = other at *
  have eu : (pgM f u).row.getD (u.kids.idxOf left) 0 = f (u.row.getD (u.kids.idxOf left) 0) := getD_mapM hi
  have ku : (pgM f u).kids.idxOf left = u.kids.idxOf left := rfl
  rw [ku]
  rcases h with ⟨ht, h1⟩ | ⟨ht, h1⟩
  · rw [if_pos ht, if_pos ht]
    have o0 : (pgM f other).row.getD 0 0 = f (other.row.getD 0 0) := getD_mapM (by omega)
    have o1 : (pgM f other).row.getD 1 0 = f (other.row.getD 1 0) := getD_mapM h1
    have a1 : movedL (pgM f u) (pgM f one) (pgM f other) (u.kids.idxOf left) = pgM f (movedL u one other (u.kids.idxOf left)) := by
      unfold movedL
      rw [o0, eu]
      show (if one.kids = [] then _ else _) = _
      by_cases c : one.kids = []
      · rw [if_pos c, if_pos c]
        show Pg.mk (one.row.map f ++ [f (other.row.getD 0 0)]) _ _ = Pg.mk ((one.row ++ [other.row.getD 0 0]).map f) _ _
        rw [List.map_append]; rfl
      · rw [if_neg c, if_neg c]
        show Pg.mk (one.row.map f ++ [f (u.row.getD (u.kids.idxOf left) 0)]) _ _ = Pg.mk ((one.row ++ [u.row.getD (u.kids.idxOf left) 0]).map f) _ _
        rw [List.map_append]; rfl
    have a2 : movedLo (pgM f other) (pgM f one) = pgM f (movedLo other one) := by
      unfold movedLo
      show (if one.kids = [] then _ else _) = _
      by_cases c : one.kids = []
      · rw [if_pos c, if_pos c]
        show Pg.mk ((other.row.map f).tail) _ _ = Pg.mk (other.row.tail.map f) _ _
        rw [List.map_tail]; rfl
      · rw [if_neg c, if_neg c]
        show Pg.mk ((other.row.map f).tail) _ _ = Pg.mk (other.row.tail.map f) _ _
        rw [List.map_tail]; rfl
    have a3 : movedLu (pgM f u) (pgM f one) (pgM f other) (u.kids.idxOf left) = pgM f (movedLu u one other (u.kids.idxOf left)) := by
      unfold movedLu
      rw [o0, o1]
      show Pg.mk ((u.row.map f).set _ (if one.kids = [] then _ else _)) _ _ = Pg.mk ((u.row.set _ (if one.kids = [] then _ else _)).map f) _ _
      by_cases c : one.kids = []
      · rw [if_pos c, if_pos c, List.map_set]; rfl
      · rw [if_neg c, if_neg c, List.map_set]; rfl
    rw [a1, a2, a3, set_mapM, set_mapM, set_mapM]
  · rw [if_neg (by rw [ht]; decide), if_neg (by rw [ht]; decide)]
    have ne : one.row ≠ [] := fun z => by rw [z] at h1; simp at h1
    have ol : (pgM f one).row.getLastD 0 = f (one.row.getLastD 0) := lastD_mapM ne
    have a1 : movedRo (pgM f one) = pgM f (movedRo one) := by
      unfold movedRo
      show (if one.kids = [] then _ else _) = _
      by_cases c : one.kids = []
      · rw [if_pos c, if_pos c]
        show Pg.mk ((one.row.map f).dropLast) _ _ = Pg.mk (one.row.dropLast.map f) _ _
        rw [List.map_dropLast]; rfl
      · rw [if_neg c, if_neg c]
        show Pg.mk ((one.row.map f).dropLast) _ _ = Pg.mk (one.row.dropLast.map f) _ _
        rw [List.map_dropLast]; rfl
    have a2 : movedR (pgM f u) (pgM f one) (pgM f other) (u.kids.idxOf left) = pgM f (movedR u one other (u.kids.idxOf left)) := by
      unfold movedR
      rw [ol, eu]
      show (if one.kids = [] then _ else _) = _
      by_cases c : one.kids = []
      · rw [if_pos c, if_pos c]; rfl
      · rw [if_neg c, if_neg c]; rfl
    have a3 : movedRu (pgM f u) (pgM f one) (u.kids.idxOf left) = pgM f (movedRu u one (u.kids.idxOf left)) := by
      unfold movedRu
      rw [ol]
      show Pg.mk ((u.row.map f).set _ _) _ _ = Pg.mk ((u.row.set _ _).map f) _ _
      rw [List.map_set]; rfl
    rw [a1, a2, a3, set_mapM, set_mapM, set_mapM]
theorem eraseIdx_mapM : ∀ {xs : List Int} {i : Nat}, (xs.map f).eraseIdx i = (xs.eraseIdx i).map f
  | [], _ => rfl
  | _ :: _, 0 => rfl
  | a :: r, i + 1 => by
    show f a :: (r.map f).eraseIdx i = f a :: (r.eraseIdx i).map f
    rw [eraseIdx_mapM]
theorem joined_mapM {F : Fo} {above left right : Int} (hi : (F.pg above).kids.idxOf left < (F.pg above).row.length) : (foM f F).joined above left right = foM f (F.joined above left right) := by
  unfold Fo.joined
  rw [pg_mapM, pg_mapM, pg_mapM]
  generalize F.pg above = u at *
  generalize F.pg left = one at *
  generalize F.pg right = other at *
  have eu : (pgM f u).row.getD (u.kids.idxOf left) 0 = f (u.row.getD (u.kids.idxOf left) 0) := getD_mapM hi
  have a1 : joinL (pgM f u) (pgM f one) (pgM f other) (u.kids.idxOf left) = pgM f (joinL u one other (u.kids.idxOf left)) := by
    unfold joinL
    rw [eu]
    show (if one.kids = [] then _ else _) = _
    by_cases c : one.kids = []
    · rw [if_pos c, if_pos c]
      show Pg.mk (one.row.map f ++ other.row.map f) _ _ = Pg.mk ((one.row ++ other.row).map f) _ _
      rw [List.map_append]; rfl
    · rw [if_neg c, if_neg c]
      show Pg.mk (one.row.map f ++ f (u.row.getD (u.kids.idxOf left) 0) :: other.row.map f) _ _ = Pg.mk ((one.row ++ u.row.getD (u.kids.idxOf left) 0 :: other.row).map f) _ _
      rw [List.map_append]; rfl
  have a2 : joinU (pgM f u) (u.kids.idxOf left) = pgM f (joinU u (u.kids.idxOf left)) := by
    unfold joinU
    show Pg.mk ((u.row.map f).eraseIdx _) _ _ = Pg.mk ((u.row.eraseIdx _).map f) _ _
    rw [eraseIdx_mapM]; rfl
  show (((foM f F).set left (joinL (pgM f u) (pgM f one) (pgM f other) (u.kids.idxOf left))).set above (joinU (pgM f u) (u.kids.idxOf left))).del right = _
  rw [a1, a2, set_mapM, set_mapM, del_mapM]
theorem deed_mapM {M : Mc} {h : Nat} (lt : (M.ha h).at_ < (M.ha h).prog.length) : (mcM f M).deed h = deedM f (M.deed h) := by
  unfold Mc.deed
  show ((M.ha h).prog.map (deedM f)).getD (M.ha h).at_ (.ask 0) = _
  rw [List.getD_eq_getElem?_getD, List.getD_eq_getElem?_getD, List.getElem?_map, List.getElem?_eq_getElem lt]
  rfl
theorem key_mapM {d : Deed} : (deedM f d).key = f d.key := by cases d <;> rfl
theorem down_mapM (m : Mono f) {M : Mc} {h : Nat} (lt : (M.ha h).at_ < (M.ha h).prog.length) : (mcM f M).down h = (mcM f (M.down h).1, toldM f (M.down h).2) := by
  unfold Mc.down
  rw [deed_mapM lt, key_mapM]
  show ((mcM f M).leave h (M.ha h).held.dropLast).goes h ((foM f M.fo).child (M.lastP h) (f (M.deed h).key)) = _
  rw [leave_mapM, child_mapM m, goes_mapM]
theorem filter_mapM (m : Mono f) {lo hi : Int} {row : List Int} : (row.map f).filter (fun k => decide (f lo ≤ k ∧ k ≤ f hi)) = (row.filter fun k => decide (lo ≤ k ∧ k ≤ hi)).map f := by
  rw [List.filter_map]
  congr 1
  refine List.filter_congr fun x _ => ?_
  show decide (f lo ≤ f x ∧ f x ≤ f hi) = _
  rw [decide_eq_decide, m.le, m.le]
theorem walk_mapM (m : Mono f) {M : Mc} {h : Nat} {lo hi : Int} : (mcM f M).walk h (f lo) (f hi) = (mcM f (M.walk h lo hi).1, toldM f (M.walk h lo hi).2) := by
  unfold Mc.walk
  have e1 : (mcM f M).leave h (((mcM f M).ha h).held.filter (isUpper (mcM f M).fo)) = mcM f (M.leave h ((M.ha h).held.filter (isUpper M.fo))) := by
    show (mcM f M).leave h ((M.ha h).held.filter (isUpper (foM f M.fo))) = _
    rw [upper_mapM, leave_mapM]
  have e2 : (mcM f M).fo.pg ((mcM f M).lastP h) = pgM f (M.fo.pg (M.lastP h)) := pg_mapM
  rw [e1, e2]
  generalize M.leave h ((M.ha h).held.filter (isUpper M.fo)) = M1
  have e3 : ((mcM f M1).ha h).held.flatMap (fun p => ((mcM f M).fo.pg p).row.filter fun k => decide (f lo ≤ k ∧ k ≤ f hi)) = ((M1.ha h).held.flatMap fun p => (M.fo.pg p).row.filter fun k => decide (lo ≤ k ∧ k ≤ hi)).map f := by
    show (M1.ha h).held.flatMap _ = _
    rw [List.map_flatMap]
    congr 1
    funext p
    show ((foM f M.fo).pg p).row.filter _ = _
    rw [pg_mapM]
    exact filter_mapM m
  have e4 : (mcM f M1).endsWith h (.l (((mcM f M1).ha h).held.flatMap fun p => ((mcM f M).fo.pg p).row.filter fun k => decide (f lo ≤ k ∧ k ≤ f hi))) = (mcM f (M1.endsWith h (.l ((M1.ha h).held.flatMap fun p => (M.fo.pg p).row.filter fun k => decide (lo ≤ k ∧ k ≤ hi)))).1, toldM f (M1.endsWith h (.l ((M1.ha h).held.flatMap fun p => (M.fo.pg p).row.filter fun k => decide (lo ≤ k ∧ k ≤ hi)))).2) := by
    rw [e3]
    exact ends_mapM (a := .l _)
  generalize M.fo.pg (M.lastP h) = last
  obtain ⟨row, kids, nxt⟩ := last
  cases nxt with
  | none => exact e4
  | some x =>
    have ec : ((row.map f) = [] ∨ (row.map f).getLastD 0 < f hi) ↔ (row = [] ∨ row.getLastD 0 < hi) := by
      by_cases c : row = []
      · simp [c]
      · rw [lastD_mapM c, m.lt, List.map_eq_nil_iff]
    by_cases c : row = [] ∨ row.getLastD 0 < hi
    · have c2 := ec.mpr c
      show (if (row.map f) = [] ∨ (row.map f).getLastD 0 < f hi then (mcM f M1).goes h x else _) = (mcM f (if row = [] ∨ row.getLastD 0 < hi then M1.goes h x else _).1, toldM f (if row = [] ∨ row.getLastD 0 < hi then M1.goes h x else _).2)
      rw [if_pos c, if_pos c2]
      exact goes_mapM
    · have c2 := fun z => c (ec.mp z)
      show (if (row.map f) = [] ∨ (row.map f).getLastD 0 < f hi then (mcM f M1).goes h x else _) = (mcM f (if row = [] ∨ row.getLastD 0 < hi then M1.goes h x else _).1, toldM f (if row = [] ∨ row.getLastD 0 < hi then M1.goes h x else _).2)
      rw [if_neg c, if_neg c2]
      exact e4
theorem lock_mapM {M : Mc} {h : Nat} {p : Int} : (mcM f M).lock h p = (mcM f (M.lock h p).1, toldM f (M.lock h p).2) := by
  unfold Mc.lock
  exact Prod.ext (setHa_mapM (M := M.lockP p h) (x := { M.ha h with held := (M.ha h).held ++ [p], want := (M.ha h).again, again := none })) rfl
theorem hold_mapM {M : Mc} {h : Nat} {l : List Int} : (mcM f M).hold h l = mcM f (M.hold h l) := setHa_mapM (x := { M.ha h with held := l })
theorem freeP_mapM {M : Mc} {p : Int} : (mcM f M).freeP p = mcM f (M.freeP p) := rfl
theorem lockP_mapM {M : Mc} {p : Int} {h : Nat} : (mcM f M).lockP p h = mcM f (M.lockP p h) := rfl
theorem put_mapM (m : Mono f) {M : Mc} {h : Nat} {k : Int} (lt : (M.ha h).at_ < (M.ha h).prog.length) : (mcM f M).put h (f k) = (mcM f (M.put h k).1, toldM f (M.put h k).2) := by
  unfold Mc.put
  dsimp only
  have el : (mcM f M).lastP h = M.lastP h := rfl
  have ep : (mcM f M).fo.pg (M.lastP h) = pgM f (M.fo.pg (M.lastP h)) := pg_mapM
  rw [el, ep]
  have er : (pgM f (M.fo.pg (M.lastP h))).row.length = (M.fo.pg (M.lastP h)).row.length := List.length_map ..
  have ek : (pgM f (M.fo.pg (M.lastP h))).kids = (M.fo.pg (M.lastP h)).kids := rfl
  by_cases c : (M.fo.pg (M.lastP h)).row.length = 3
  · rw [if_pos (er.trans c), if_pos c]
    have e1 : (pgM f (M.fo.pg (M.lastP h))).row.getD 1 0 = f ((M.fo.pg (M.lastP h)).row.getD 1 0) := getD_mapM (by omega)
    have es : (mcM f M).fo.split ((M.ha h).held.dropLast.getLastD 0) (M.lastP h) = foM f (M.fo.split ((M.ha h).held.dropLast.getLastD 0) (M.lastP h)) := split_mapM (by omega)
    have ei : (if (pgM f (M.fo.pg (M.lastP h))).row.getD 1 0 ≤ f k then M.fo.last + 1 else M.lastP h) = if (M.fo.pg (M.lastP h)).row.getD 1 0 ≤ k then M.fo.last + 1 else M.lastP h := by
      rw [e1]
      by_cases c2 : (M.fo.pg (M.lastP h)).row.getD 1 0 ≤ k
      · rw [if_pos c2, if_pos (m.le.mpr c2)]
      · rw [if_neg c2, if_neg (fun z => c2 (m.le.mp z))]
    have em : ({ mcM f M with fo := (mcM f M).fo.split ((M.ha h).held.dropLast.getLastD 0) (M.lastP h) } : Mc) = mcM f { M with fo := M.fo.split ((M.ha h).held.dropLast.getLastD 0) (M.lastP h) } := by rw [es]; rfl
    show (if (M.ha h).held.dropLast.getLastD 0 = 0 then (Mc.hold (Mc.lockP (Mc.lockP (Mc.freeP ({ mcM f M with fo := (mcM f M).fo.split ((M.ha h).held.dropLast.getLastD 0) (M.lastP h) } : Mc) (M.lastP h)) (M.fo.last + 1 + 1) h) (if (pgM f (M.fo.pg (M.lastP h))).row.getD 1 0 ≤ f k then M.fo.last + 1 else M.lastP h) h) h ((M.ha h).held.dropLast ++ [M.fo.last + 1 + 1] ++ [if (pgM f (M.fo.pg (M.lastP h))).row.getD 1 0 ≤ f k then M.fo.last + 1 else M.lastP h]), Told.splits (M.lastP h) (M.fo.last + 1))
      else (Mc.hold (Mc.lockP (Mc.freeP ({ mcM f M with fo := (mcM f M).fo.split ((M.ha h).held.dropLast.getLastD 0) (M.lastP h) } : Mc) (M.lastP h)) (if (pgM f (M.fo.pg (M.lastP h))).row.getD 1 0 ≤ f k then M.fo.last + 1 else M.lastP h) h) h ((M.ha h).held.dropLast ++ [if (pgM f (M.fo.pg (M.lastP h))).row.getD 1 0 ≤ f k then M.fo.last + 1 else M.lastP h]), Told.splits (M.lastP h) (M.fo.last + 1))) = _
    rw [em, ei]
    by_cases c3 : (M.ha h).held.dropLast.getLastD 0 = 0
    · rw [if_pos c3]
      simp only [if_pos c3]
      rw [freeP_mapM, lockP_mapM, lockP_mapM, hold_mapM]
      rfl
    · rw [if_neg c3]
      simp only [if_neg c3]
      rw [freeP_mapM, lockP_mapM, hold_mapM]
      rfl
  · rw [if_neg (fun z => c (er.symm.trans z)), if_neg c, ek]
    by_cases c2 : (M.fo.pg (M.lastP h)).kids ≠ []
    · rw [if_pos c2, if_pos c2]
      exact down_mapM m lt
    · rw [if_neg c2, if_neg c2]
      by_cases c3 : k ∈ (M.fo.pg (M.lastP h)).row
      · have c4 : f k ∈ (pgM f (M.fo.pg (M.lastP h))).row := (mem_mapM m).mpr c3
        rw [if_pos c3, if_pos c4]
        exact ends_mapM (a := .b false)
      · have c4 : ¬ f k ∈ (pgM f (M.fo.pg (M.lastP h))).row := fun z => c3 ((mem_mapM m).mp z)
        rw [if_neg c3, if_neg c4]
        have es : (mcM f M).fo.set (M.lastP h) { pgM f (M.fo.pg (M.lastP h)) with row := ins (f k) (pgM f (M.fo.pg (M.lastP h))).row } = foM f (M.fo.set (M.lastP h) { M.fo.pg (M.lastP h) with row := ins k (M.fo.pg (M.lastP h)).row }) := by
          rw [← set_mapM]
          congr 1
          show Pg.mk (ins (f k) ((M.fo.pg (M.lastP h)).row.map f)) _ _ = Pg.mk ((ins k (M.fo.pg (M.lastP h)).row).map f) _ _
          rw [ins_map m]
          rfl
        have em : ({ mcM f M with fo := (mcM f M).fo.set (M.lastP h) { pgM f (M.fo.pg (M.lastP h)) with row := ins (f k) (pgM f (M.fo.pg (M.lastP h))).row } } : Mc) = mcM f { M with fo := M.fo.set (M.lastP h) { M.fo.pg (M.lastP h) with row := ins k (M.fo.pg (M.lastP h)).row } } := by rw [es]; rfl
        show Mc.endsWith ({ mcM f M with fo := (mcM f M).fo.set (M.lastP h) { pgM f (M.fo.pg (M.lastP h)) with row := ins (f k) (pgM f (M.fo.pg (M.lastP h))).row } } : Mc) h (.b true) = _
        rw [em]
        exact ends_mapM (M := { M with fo := M.fo.set (M.lastP h) { M.fo.pg (M.lastP h) with row := ins k (M.fo.pg (M.lastP h)).row } }) (a := .b true)
theorem neighbour_mapM {M : Mc} {h : Nat} {above here : Int} : (mcM f M).neighbour h above here = (mcM f (M.neighbour h above here).1, toldM f (M.neighbour h above here).2) := by
  unfold Mc.neighbour
  dsimp only
  have ek : ((mcM f M).fo.pg above).kids = (M.fo.pg above).kids := by
    show ((foM f M.fo).pg above).kids = _
    rw [pg_mapM]
    rfl
  rw [ek]
  by_cases c : (M.fo.pg above).kids.idxOf here + 1 < (M.fo.pg above).kids.length
  · rw [if_pos c, if_pos c]
    exact goes_mapM
  · rw [if_neg c, if_neg c]
    have e : (if (mcM f M).left = true then (((mcM f M).leave1 h here).setHa h { ((mcM f M).leave1 h here).ha h with again := some here }) else mcM f M) = mcM f (if M.left = true then ((M.leave1 h here).setHa h { (M.leave1 h here).ha h with again := some here }) else M) := by
      by_cases cl : M.left = true
      · rw [if_pos cl, if_pos (show (mcM f M).left = true from cl), leave1_mapM]
        exact setHa_mapM (M := M.leave1 h here) (x := { (M.leave1 h here).ha h with again := some here })
      · rw [if_neg cl, if_neg (show ¬ (mcM f M).left = true from cl)]
    show (if (mcM f M).left = true then (((mcM f M).leave1 h here).setHa h { ((mcM f M).leave1 h here).ha h with again := some here }) else mcM f M).goes h _ = _
    rw [e]
    exact goes_mapM
theorem mend_mapM (m : Mono f) {M : Mc} {h : Nat} {above a b k left right : Int} (hl : left = if (M.fo.pg above).kids.idxOf b < (M.fo.pg above).kids.idxOf a then b else a) (hr : right = if (M.fo.pg above).kids.idxOf b < (M.fo.pg above).kids.idxOf a then a else b)
    (hi : (M.fo.pg above).kids.idxOf left < (M.fo.pg above).row.length) (lies : M.fo.child above k = left ∨ M.fo.child above k = right) : (mcM f M).mend h above a b (f k) = (mcM f (M.mend h above a b k).1, toldM f (M.mend h above a b k).2) := by
  unfold Mc.mend
  dsimp only
  have ek : ((mcM f M).fo.pg above).kids = (M.fo.pg above).kids := by
    show ((foM f M.fo).pg above).kids = _
    rw [pg_mapM]
    rfl
  have ec : (mcM f M).fo.child above (f k) = M.fo.child above k := child_mapM m
  have er : ∀ n, ((mcM f M).fo.pg n).row.length = (M.fo.pg n).row.length := fun n => by
    show ((foM f M.fo).pg n).row.length = _
    rw [pg_mapM]
    exact List.length_map ..
  rw [ek, ec, er, er, ← hl, ← hr]
  by_cases c : 1 < (M.fo.pg (left + right - M.fo.child above k)).row.length
  · rw [if_pos c, if_pos c]
    have em : (mcM f M).fo.moved above left right (decide (M.fo.child above k = left)) = foM f (M.fo.moved above left right (decide (M.fo.child above k = left))) := by
      refine moved_mapM hi ?_
      by_cases e : M.fo.child above k = left
      · refine .inl ⟨decide_eq_true e, ?_⟩
        rwa [e, show left + right - left = right by omega] at c
      · refine .inr ⟨decide_eq_false e, ?_⟩
        rwa [lies.resolve_left e, show left + right - right = left by omega] at c
    have em2 : ({ mcM f M with fo := (mcM f M).fo.moved above left right (decide (M.fo.child above k = left)) } : Mc) = mcM f { M with fo := M.fo.moved above left right (decide (M.fo.child above k = left)) } := by rw [em]; rfl
    show (Mc.leave1 ({ mcM f M with fo := (mcM f M).fo.moved above left right (decide (M.fo.child above k = left)) } : Mc) h _, _) = _
    rw [em2, leave1_mapM]
    rfl
  · rw [if_neg c, if_neg c]
    have em2 : ({ mcM f M with fo := (mcM f M).fo.joined above left right } : Mc) = mcM f { M with fo := M.fo.joined above left right } := by
      have : (mcM f M).fo.joined above left right = foM f (M.fo.joined above left right) := joined_mapM hi
      rw [this]; rfl
    by_cases c2 : (M.fo.pg above).row.length = 1
    · rw [if_pos c2, if_pos c2]
      have e3 : Mc.leave1 (Mc.leave1 ({ mcM f M with fo := (mcM f M).fo.joined above left right } : Mc) h right) h above = mcM f ((Mc.leave1 { M with fo := M.fo.joined above left right } h right).leave1 h above) := by rw [em2, leave1_mapM, leave1_mapM]
      show (({ Mc.leave1 (Mc.leave1 ({ mcM f M with fo := (mcM f M).fo.joined above left right } : Mc) h right) h above with fo := { (Mc.leave1 (Mc.leave1 ({ mcM f M with fo := (mcM f M).fo.joined above left right } : Mc) h right) h above).fo.del above with root := left } } : Mc), _) = _
      rw [e3]
      have e4 := del_mapM (f := f) (F := ((Mc.leave1 { M with fo := M.fo.joined above left right } h right).leave1 h above).fo) (n := above)
      show (({ mcM f ((Mc.leave1 { M with fo := M.fo.joined above left right } h right).leave1 h above) with fo := { (foM f ((Mc.leave1 { M with fo := M.fo.joined above left right } h right).leave1 h above).fo).del above with root := left } } : Mc), _) = _
      rw [e4]
      rfl
    · rw [if_neg c2, if_neg c2]
      show (Mc.leave1 ({ mcM f M with fo := (mcM f M).fo.joined above left right } : Mc) h right, _) = _
      rw [em2, leave1_mapM]
      rfl
/-- where a page may be mended -/
def MendIn (M : Mc) (above a b k : Int) : Prop := ∀ left right, (left = if (M.fo.pg above).kids.idxOf b < (M.fo.pg above).kids.idxOf a then b else a) → (right = if (M.fo.pg above).kids.idxOf b < (M.fo.pg above).kids.idxOf a then a else b) →
  (M.fo.pg above).kids.idxOf left < (M.fo.pg above).row.length ∧ (M.fo.child above k = left ∨ M.fo.child above k = right)
theorem take_mapM (m : Mono f) {M : Mc} {h : Nat} {k : Int} (lt : (M.ha h).at_ < (M.ha h).prog.length) (two : ∀ a b, (M.ha h).held.dropLast.filter (fun x => decide (x ≠ 0)) = [a, b] → MendIn M a b (M.lastP h) k) :
    (mcM f M).take h (f k) = (mcM f (M.take h k).1, toldM f (M.take h k).2) := by
  have ep : (mcM f M).fo.pg (M.lastP h) = pgM f (M.fo.pg (M.lastP h)) := pg_mapM
  have er : (pgM f (M.fo.pg (M.lastP h))).row.length = (M.fo.pg (M.lastP h)).row.length := List.length_map ..
  have body : ∀ above : List Int, (if above ≠ [] ∧ (pgM f (M.fo.pg (M.lastP h))).row.length = 1 then (mcM f M).neighbour h (above.getD 0 0) (M.lastP h)
      else if (M.fo.pg (M.lastP h)).kids = [] then
        if f k ∈ (pgM f (M.fo.pg (M.lastP h))).row then Mc.endsWith ({ mcM f M with fo := (mcM f M).fo.set (M.lastP h) { pgM f (M.fo.pg (M.lastP h)) with row := (pgM f (M.fo.pg (M.lastP h))).row.erase (f k) } } : Mc) h (.b true)
        else (mcM f M).endsWith h (.b false)
      else if above = [] ∧ (pgM f (M.fo.pg (M.lastP h))).row.length = 1 then (mcM f M).goes h ((mcM f M).fo.child (M.lastP h) (f k))
      else (mcM f M).down h) = (mcM f (if above ≠ [] ∧ (M.fo.pg (M.lastP h)).row.length = 1 then M.neighbour h (above.getD 0 0) (M.lastP h)
      else if (M.fo.pg (M.lastP h)).kids = [] then
        if k ∈ (M.fo.pg (M.lastP h)).row then Mc.endsWith ({ M with fo := M.fo.set (M.lastP h) { M.fo.pg (M.lastP h) with row := (M.fo.pg (M.lastP h)).row.erase k } } : Mc) h (.b true)
        else M.endsWith h (.b false)
      else if above = [] ∧ (M.fo.pg (M.lastP h)).row.length = 1 then M.goes h (M.fo.child (M.lastP h) k)
      else M.down h).1, toldM f (if above ≠ [] ∧ (M.fo.pg (M.lastP h)).row.length = 1 then M.neighbour h (above.getD 0 0) (M.lastP h)
      else if (M.fo.pg (M.lastP h)).kids = [] then
        if k ∈ (M.fo.pg (M.lastP h)).row then Mc.endsWith ({ M with fo := M.fo.set (M.lastP h) { M.fo.pg (M.lastP h) with row := (M.fo.pg (M.lastP h)).row.erase k } } : Mc) h (.b true)
        else M.endsWith h (.b false)
      else if above = [] ∧ (M.fo.pg (M.lastP h)).row.length = 1 then M.goes h (M.fo.child (M.lastP h) k)
      else M.down h).2) := fun above => by
    rw [er]
    by_cases c1 : above ≠ [] ∧ (M.fo.pg (M.lastP h)).row.length = 1
    · rw [if_pos c1, if_pos c1]
      exact neighbour_mapM
    · rw [if_neg c1, if_neg c1]
      by_cases c2 : (M.fo.pg (M.lastP h)).kids = []
      · rw [if_pos c2, if_pos c2]
        by_cases c3 : k ∈ (M.fo.pg (M.lastP h)).row
        · have c4 : f k ∈ (pgM f (M.fo.pg (M.lastP h))).row := (mem_mapM m).mpr c3
          rw [if_pos c3, if_pos c4]
          have es : (mcM f M).fo.set (M.lastP h) { pgM f (M.fo.pg (M.lastP h)) with row := (pgM f (M.fo.pg (M.lastP h))).row.erase (f k) } = foM f (M.fo.set (M.lastP h) { M.fo.pg (M.lastP h) with row := (M.fo.pg (M.lastP h)).row.erase k }) := by
            rw [← set_mapM]
            congr 1
            show Pg.mk (((M.fo.pg (M.lastP h)).row.map f).erase (f k)) _ _ = Pg.mk (((M.fo.pg (M.lastP h)).row.erase k).map f) _ _
            rw [erase_mapM m]
            rfl
          have em : ({ mcM f M with fo := (mcM f M).fo.set (M.lastP h) { pgM f (M.fo.pg (M.lastP h)) with row := (pgM f (M.fo.pg (M.lastP h))).row.erase (f k) } } : Mc) = mcM f { M with fo := M.fo.set (M.lastP h) { M.fo.pg (M.lastP h) with row := (M.fo.pg (M.lastP h)).row.erase k } } := by rw [es]; rfl
          rw [em]
          exact ends_mapM (a := .b true)
        · have c4 : ¬ f k ∈ (pgM f (M.fo.pg (M.lastP h))).row := fun z => c3 ((mem_mapM m).mp z)
          rw [if_neg c3, if_neg c4]
          exact ends_mapM (a := .b false)
      · rw [if_neg c2, if_neg c2]
        by_cases c3 : above = [] ∧ (M.fo.pg (M.lastP h)).row.length = 1
        · rw [if_pos c3, if_pos c3, show (mcM f M).fo.child (M.lastP h) (f k) = M.fo.child (M.lastP h) k from child_mapM m]
          exact goes_mapM
        · rw [if_neg c3, if_neg c3]
          exact down_mapM m lt
  unfold Mc.take
  dsimp only
  have el : (mcM f M).lastP h = M.lastP h := rfl
  have ef : ((mcM f M).ha h).held.dropLast.filter (fun x => decide (x ≠ 0)) = (M.ha h).held.dropLast.filter fun x => decide (x ≠ 0) := rfl
  rw [el, ef, ep]
  generalize hfl : (M.ha h).held.dropLast.filter (fun x => decide (x ≠ 0)) = fl at *
  match fl, hfl, two with
  | [], _, _ => exact body []
  | [a], _, _ => exact body [a]
  | [a, b], hfl, two =>
    refine mend_mapM m rfl rfl ?_ ?_
    · exact (two a b rfl _ _ rfl rfl).1
    · exact (two a b rfl _ _ rfl rfl).2
  | a :: b :: c :: r, _, _ => exact body (a :: b :: c :: r)
theorem work_mapM (m : Mono f) {M : Mc} {h : Nat} (lt : (M.ha h).at_ < (M.ha h).prog.length) (two : ∀ k a b, M.deed h = .take k → M.lastP h ≠ 0 → (M.ha h).held.dropLast.filter (fun x => decide (x ≠ 0)) = [a, b] → MendIn M a b (M.lastP h) k) :
    (mcM f M).work h = (mcM f (M.work h).1, toldM f (M.work h).2) := by
  unfold Mc.work
  dsimp only
  have el : (mcM f M).lastP h = M.lastP h := rfl
  have ep : (mcM f M).fo.pg (M.lastP h) = pgM f (M.fo.pg (M.lastP h)) := pg_mapM
  rw [el, deed_mapM lt, ep]
  by_cases c : M.lastP h = 0
  · rw [if_pos c, if_pos c]
    exact goes_mapM
  · rw [if_neg c, if_neg c]
    cases e : M.deed h with
    | put k => exact put_mapM m lt
    | take k => exact take_mapM m lt fun a b => two k a b e c
    | ask k =>
      show (if (M.fo.pg (M.lastP h)).kids = [] then Mc.endsWith ((mcM f M).leave h (M.ha h).held.dropLast) h (.b (decide (f k ∈ (M.fo.pg (M.lastP h)).row.map f))) else (mcM f M).down h) = _
      dsimp only
      by_cases c2 : (M.fo.pg (M.lastP h)).kids = []
      · rw [if_pos c2, if_pos c2, leave_mapM]
        have : decide (f k ∈ (M.fo.pg (M.lastP h)).row.map f) = decide (k ∈ (M.fo.pg (M.lastP h)).row) := by rw [decide_eq_decide]; exact mem_mapM m
        rw [this]
        exact ends_mapM (a := .b _)
      · rw [if_neg c2, if_neg c2]
        exact down_mapM m lt
    | walk lo hi =>
      show (if (M.fo.pg (M.lastP h)).kids = [] then (mcM f M).walk h (f lo) (f hi) else (mcM f M).down h) = _
      dsimp only
      by_cases c2 : (M.fo.pg (M.lastP h)).kids = []
      · rw [if_pos c2, if_pos c2]
        exact walk_mapM m
      · rw [if_neg c2, if_neg c2]
        exact down_mapM m lt
theorem turn_mapM (m : Mono f) {M : Mc} {h : Nat} (le : (M.ha h).at_ ≤ (M.ha h).prog.length) (two : ∀ k a b, M.rests h = false → (M.ha h).want = none → (M.ha h).held ≠ [] → M.deed h = .take k → M.lastP h ≠ 0 → (M.ha h).held.dropLast.filter (fun x => decide (x ≠ 0)) = [a, b] → MendIn M a b (M.lastP h) k) :
    (mcM f M).turn h = (mcM f (M.turn h).1, toldM f (M.turn h).2) := by
  have er : (mcM f M).rests h = M.rests h := by
    unfold Mc.rests
    rw [decide_eq_decide]
    show (M.ha h).at_ = ((M.ha h).prog.map (deedM f)).length ↔ _
    rw [List.length_map]
  have ew : (mcM f M).waits h = M.waits h := rfl
  unfold Mc.turn
  rw [er, ew]
  cases hr : M.rests h with
  | true => rfl
  | false =>
    have lt : (M.ha h).at_ < (M.ha h).prog.length := by
      unfold Mc.rests at hr
      have := of_decide_eq_false hr
      omega
    rw [if_neg Bool.false_ne_true, if_neg Bool.false_ne_true]
    show (match (M.ha h).want with | some p => _ | none => _) = _
    cases hw : (M.ha h).want with
    | some p =>
      show (if M.waits h = true then (mcM f M, Told.waits p) else (mcM f M).lock h p) = (mcM f (if M.waits h = true then (M, Told.waits p) else M.lock h p).1, toldM f (if M.waits h = true then (M, Told.waits p) else M.lock h p).2)
      by_cases c : M.waits h = true
      · rw [if_pos c, if_pos c]; rfl
      · rw [if_neg c, if_neg c]; exact lock_mapM
    | none =>
      show (if (M.ha h).held = [] then ((mcM f M).wants h 0, Told.begins) else (mcM f M).work h) = (mcM f (if (M.ha h).held = [] then (M.wants h 0, Told.begins) else M.work h).1, toldM f (if (M.ha h).held = [] then (M.wants h 0, Told.begins) else M.work h).2)
      by_cases c : (M.ha h).held = []
      · rw [if_pos c, if_pos c]
        exact Prod.ext (setHa_mapM (x := { M.ha h with want := some 0 })) rfl
      · rw [if_neg c, if_neg c]
        exact work_mapM m lt fun k a b h1 h2 h3 => two k a b hr hw c h1 h2 h3
end

/-! ### how the machine stands in the heap -/
def optV : Option Int → V
  | none => .non
  | some i => .int i
abbrev iL (xs : List Int) : List V := xs.map V.int
/-- what a dict with int keys holds -/
structure DOk (kvs : List (Key × V)) (f : Int → Option V) : Prop where
  nd : (kvs.map (·.1)).Nodup
  at_ : ∀ n, valV kvs (.inl n) = f n
  int : ∀ p ∈ kvs, ∃ n, p.1 = .inl n
inductive FT where
  | fO | fD | pd | pO (n : Int) | pD (n : Int) | pR (n : Int) | pK (n : Int)
  deriving DecidableEq
def fldP (p : Pg) (r c : Addr) : List (Str × V) := [("row", .ref r), ("children", .ref c), ("next", optV p.nxt)]
def fldF (F : Fo) (d : Addr) : List (Str × V) := [("pages", .ref d), ("last", .int F.last), ("root", .int F.root)]
def objF (K : PySem.W.Frag) (F : Fo) (A : FT → Addr) : FT → Option HO
  | .fO => some (.ins (He.ga K "Forest") (A .fD) (fldF F (A .pd)))
  | .fD => some (.own (A .fO))
  | .pd => none
  | .pO n => (F.pages n).map fun p => .ins (He.ga K "Page") (A (.pD n)) (fldP p (A (.pR n)) (A (.pK n)))
  | .pD n => (F.pages n).map fun _ => .own (A (.pO n))
  | .pR n => (F.pages n).map fun p => .lst (iL p.row)
  | .pK n => (F.pages n).map fun p => .lst (iL p.kids)
def liveF (F : Fo) : FT → Prop
  | .pO n => (F.pages n).isSome = true
  | .pD n => (F.pages n).isSome = true
  | .pR n => (F.pages n).isSome = true
  | .pK n => (F.pages n).isSome = true
  | _ => True
structure RepF (K : PySem.W.Frag) (H : Hp) (A : FT → Addr) (F : Fo) : Prop where
  obj : ∀ t o, objF K F A t = some o → H (A t) = some o
  pd : ∃ kvs, H (A .pd) = some (.dK kvs) ∧ DOk kvs (fun n => (F.pages n).map fun _ => V.ref (A (.pO n))) ∧ (kvs.length : Int) ≤ F.last
  inj : ∀ t u, liveF F t → liveF F u → A t = A u → t = u
def footF (F : Fo) (A : FT → Addr) (b : Addr) : Prop := ∃ t, liveF F t ∧ A t = b
/-- a step from H to H': what it owned ahead (f), what behind (f'); all else stays -/
structure Stp (K : PySem.W.Frag) (H H' : Hp) (f f' : Addr → Prop) : Prop where
  fr : ∀ b o, H b = some o → ¬ f b → (∀ ps, o ≠ .tbl ps) → H' b = some o
  dm : ∀ b, H' b = none → H b = none
  gr : ∀ b, f' b → f b ∨ H b = none
  ta : TabsOk K H → TabsOk K H'
theorem Stp.refl {K : PySem.W.Frag} (H : Hp) (f : Addr → Prop) : Stp K H H f f := ⟨fun _ _ h _ _ => h, fun _ h => h, fun _ h => .inl h, id⟩
theorem Stp.trans {K : PySem.W.Frag} {H0 H1 H2 : Hp} {f0 f1 f2 : Addr → Prop} (a : Stp K H0 H1 f0 f1) (b : Stp K H1 H2 f1 f2) : Stp K H0 H2 f0 f2 where
  fr := fun c o h n t => b.fr c o (a.fr c o h n t) (fun z => by
    rcases a.gr c z with z | z
    · exact n z
    · rw [h] at z; cases z) t
  dm := fun c h => a.dm c (b.dm c h)
  gr := fun c h => by
    rcases b.gr c h with z | z
    · exact a.gr c z
    · exact .inr (a.dm c z)
  ta := fun h => b.ta (a.ta h)
theorem upd_free {H : Hp} {a b : Addr} {o : HO} (h : upd H a o b = none) : H b = none := by
  unfold upd at h
  split at h
  · cases h
  · exact h
theorem TabsOk.same {K : PySem.W.Frag} {H H' : Hp} (s : Same H H') (t : TabsOk K H) : TabsOk K H' := LamX.Tabs.ext t s
/-- what a machine owns: no table, no code object, no tuple, nothing locked -/
def OwnK : HO → Prop
  | .lst _ => True
  | .dK _ => True
  | .ins _ _ _ => True
  | .own _ => True
  | _ => False
theorem OwnK.tbl {o : HO} (h : OwnK o) (ps : Array Value) : o ≠ .tbl ps := fun z => by rw [z] at h; exact h
theorem OwnK.ext {o : HO} (h : OwnK o) (φ : Heap → Prop) : o ≠ .ext φ := fun z => by rw [z] at h; exact h
theorem OwnK.tup {o : HO} (h : OwnK o) (xs : List V) : o ≠ .tup xs := fun z => by rw [z] at h; exact h
theorem OwnK.frz {o : HO} (h : OwnK o) (b : Obj) (u : HO) : o ≠ .frz b u := fun z => by rw [z] at h; exact h
theorem TabsOk.own {K : PySem.W.Frag} {H : Hp} {p : Addr} {o u : HO} (hu : H p = some u) (ok : OwnK u) (t : TabsOk K H) : TabsOk K (upd H p o) := fun q hq => by
  obtain ⟨ps, h1, h2, h3⟩ := t q hq
  refine ⟨ps, by rw [upd_ne (fun z => ok.tbl ps (by rw [z, hu] at h1; exact Option.some.inj h1))]; exact h1, h2, fun pos cv hc => ?_⟩
  obtain ⟨c, e1, e2⟩ := h3 pos cv hc
  refine ⟨c, e1, ?_⟩
  rw [upd_ne (fun z => ?_)]
  · exact e2
  · rw [z, hu] at e2
    exact ok.ext _ (Option.some.inj e2)
theorem Stp.fresh {K : PySem.W.Frag} {H : Hp} {f : Addr → Prop} {p : Addr} {o : HO} (hp : H p = none) : Stp K H (upd H p o) f f :=
  ⟨fun b u h _ _ => by rw [upd_ne (ne_of_none h hp)]; exact h, fun b h => upd_free h, fun _ h => .inl h, TabsOk.same fun b u h => by rw [upd_ne (ne_of_none h hp)]; exact h⟩
/-- a store to an owned thing -/
theorem Stp.own {K : PySem.W.Frag} {H : Hp} {f : Addr → Prop} {p : Addr} {o u : HO} (hf : f p) (hu : H p = some u) (ok : OwnK u) : Stp K H (upd H p o) f f :=
  ⟨fun b v h n _ => by rw [upd_ne (fun z => n (by rw [z]; exact hf))]; exact h, fun b h => upd_free h, fun _ h => .inl h, TabsOk.own hu ok⟩
section
variable {K : PySem.W.Frag} {H : Hp} {A : FT → Addr} {F : Fo}
theorem objF_live {t : FT} {o : HO} (h : objF K F A t = some o) : liveF F t := by
  cases t <;> simp only [objF, liveF, Option.map_eq_some_iff] at h ⊢
  all_goals (obtain ⟨p, e, _⟩ := h; rw [e]; rfl)
theorem objF_own {t : FT} {o : HO} (h : objF K F A t = some o) : OwnK o := by
  cases t <;> simp only [objF, Option.map_eq_some_iff, Option.some.injEq, reduceCtorEq] at h
  all_goals first
    | (rw [← h]; trivial)
    | (obtain ⟨_, _, e⟩ := h; rw [← e]; trivial)
theorem live_objF {t : FT} (h : liveF F t) (hp : t ≠ .pd) : ∃ o, objF K F A t = some o := by
  cases t <;> simp only [objF, liveF] at h ⊢ <;> first
    | exact ⟨_, rfl⟩
    | exact absurd rfl hp
    | (obtain ⟨p, e⟩ := Option.isSome_iff_exists.mp h; rw [e]; exact ⟨_, rfl⟩)
theorem RepF.there (R : RepF K H A F) {t : FT} (h : liveF F t) : ∃ o, H (A t) = some o ∧ OwnK o := by
  by_cases e : t = .pd
  · obtain ⟨kvs, h1, _⟩ := R.pd
    subst e
    exact ⟨_, h1, trivial⟩
  · obtain ⟨o, ho⟩ := live_objF (K := K) (A := A) h e
    exact ⟨o, R.obj t o ho, objF_own ho⟩
theorem RepF.frame {H' : Hp} (R : RepF K H A F) (h : ∀ b, footF F A b → H' b = H b) : RepF K H' A F :=
  ⟨fun t o e => (h _ ⟨t, objF_live e, rfl⟩).trans (R.obj t o e), by obtain ⟨kvs, e, d⟩ := R.pd; exact ⟨kvs, (h _ ⟨.pd, trivial, rfl⟩).trans e, d⟩, R.inj⟩
theorem RepF.notfree (R : RepF K H A F) {p : Addr} (hp : H p = none) : ¬ footF F A p := by
  rintro ⟨t, l, e⟩
  obtain ⟨o, ho, _⟩ := R.there l
  rw [e, hp] at ho; cases ho
theorem RepF.fresh {p : Addr} {o : HO} (R : RepF K H A F) (hp : H p = none) : RepF K (upd H p o) A F :=
  R.frame fun b hb => upd_ne fun z => R.notfree hp (by rw [← z]; exact hb)
/-- a store at one thing, the numbers of the pages staying -/
theorem RepF.store {F' : Fo} {t0 : FT} {o0 : HO} (R : RepF K H A F) (hL : F.last ≤ F'.last) (l0 : liveF F t0) (hd : ∀ n, (F'.pages n).isSome = (F.pages n).isSome) (h0 : objF K F' A t0 = some o0) (same : ∀ t, t ≠ t0 → objF K F' A t = objF K F A t) : RepF K (upd H (A t0) o0) A F' := by
  have live : ∀ t, liveF F' t → liveF F t := fun t => by cases t <;> simp only [liveF] <;> first | exact id | (rw [hd]; exact id)
  have ne : ∀ t, liveF F' t → t ≠ t0 → A t ≠ A t0 := fun t l n e => n (R.inj t t0 (live t l) l0 e)
  refine ⟨fun t o e => ?_, ?_, fun t u a b => R.inj t u (live t a) (live u b)⟩
  · by_cases h : t = t0
    · subst h
      rw [h0] at e
      rw [upd_same]
      exact e
    · rw [upd_ne (ne t (objF_live e) h)]
      exact R.obj t o ((same t h).symm.trans e)
  · obtain ⟨kvs, e, d, hl⟩ := R.pd
    have n0 : t0 ≠ .pd := fun z => by rw [z] at h0; cases h0
    refine ⟨kvs, (upd_ne (ne .pd trivial (Ne.symm n0))).trans e, ⟨d.nd, fun n => ?_, d.int⟩, Int.le_trans hl hL⟩
    rw [d.at_ n]
    have q := hd n
    cases h1 : F'.pages n <;> cases h2 : F.pages n <;> rw [h1, h2] at q <;> first | rfl | cases q
end

/-! ### stores to a forest -/
def setA {α : Type} [DecidableEq α] (A : α → Addr) (t : α) (q : Addr) : α → Addr := fun u => if u = t then q else A u
theorem setA_same {α : Type} [DecidableEq α] {A : α → Addr} {t : α} {q : Addr} : setA A t q t = q := if_pos rfl
theorem setA_ne {α : Type} [DecidableEq α] {A : α → Addr} {t u : α} {q : Addr} (h : u ≠ t) : setA A t q u = A u := if_neg h
theorem Fo.pg_of {F : Fo} {n : Int} {p : Pg} (h : F.pages n = some p) : F.pg n = p := by unfold Fo.pg; rw [h]; rfl
theorem set_pages {F : Fo} {n m : Int} {p : Pg} : (F.set n p).pages m = if m = n then some p else F.pages m := rfl
section
variable {K : PySem.W.Frag} {H : Hp} {A : FT → Addr} {F : Fo} {n : Int} {p : Pg}
theorem set_dom (hp : F.pages n = some p) (p' : Pg) (m : Int) : ((F.set n p').pages m).isSome = (F.pages m).isSome := by
  rw [set_pages]
  split
  · rename_i e; rw [e, hp]; rfl
  · rfl
theorem RepF.pgO (R : RepF K H A F) (hp : F.pages n = some p) : H (A (.pO n)) = some (.ins (He.ga K "Page") (A (.pD n)) (fldP p (A (.pR n)) (A (.pK n)))) := R.obj (.pO n) _ (by simp only [objF, hp]; rfl)
theorem RepF.pgR (R : RepF K H A F) (hp : F.pages n = some p) : H (A (.pR n)) = some (.lst (iL p.row)) := R.obj (.pR n) _ (by simp only [objF, hp]; rfl)
theorem RepF.pgK (R : RepF K H A F) (hp : F.pages n = some p) : H (A (.pK n)) = some (.lst (iL p.kids)) := R.obj (.pK n) _ (by simp only [objF, hp]; rfl)
theorem RepF.fo (R : RepF K H A F) : H (A .fO) = some (.ins (He.ga K "Forest") (A .fD) (fldF F (A .pd))) := R.obj .fO _ rfl
theorem RepF.get (R : RepF K H A F) (hp : F.pages n = some p) : DGet H (A .pd) (.int n) (some (.ref (A (.pO n)))) := by
  obtain ⟨kvs, h, d, _⟩ := R.pd
  have e := DGet.k (k := Sum.inl n) h
  rw [d.at_ n, hp] at e
  exact e
theorem RepF.has (R : RepF K H A F) (n : Int) : DGet H (A .pd) (.int n) ((F.pages n).map fun _ => V.ref (A (.pO n))) := by
  obtain ⟨kvs, h, d, _⟩ := R.pd
  have e := DGet.k (k := Sum.inl n) h
  rw [d.at_ n] at e
  exact e
theorem liveF_set (hp : F.pages n = some p) {p' : Pg} {t : FT} : liveF (F.set n p') t ↔ liveF F t := by
  cases t <;> simp only [liveF, set_dom hp]
theorem foot_set (hp : F.pages n = some p) {p' : Pg} {b : Addr} : footF (F.set n p') A b ↔ footF F A b :=
  ⟨fun ⟨t, l, e⟩ => ⟨t, (liveF_set hp).mp l, e⟩, fun ⟨t, l, e⟩ => ⟨t, (liveF_set hp).mpr l, e⟩⟩
theorem Stp.to {K : PySem.W.Frag} {H H' : Hp} {f f' g' : Addr → Prop} (a : Stp K H H' f f') (h : ∀ b, g' b → f' b) : Stp K H H' f g' := ⟨a.fr, a.dm, fun b z => a.gr b (h b z), a.ta⟩
/-- what a page's change leaves as it is -/
def sameAt (n : Int) (p p' : Pg) : FT → Prop
  | .pO m => m = n → p'.nxt = p.nxt
  | .pR m => m = n → p'.row = p.row
  | .pK m => m = n → p'.kids = p.kids
  | _ => True
theorem objF_set (hp : F.pages n = some p) {p' : Pg} {t : FT} (h : sameAt n p p' t) : objF K (F.set n p') A t = objF K F A t := by
  cases t with
  | fO => rfl
  | fD => rfl
  | pd => rfl
  | pO m =>
    by_cases e : m = n
    · have h1 := h e
      subst e
      simp only [objF, set_pages, if_pos, hp, Option.map_some, fldP, h1]
    · simp only [objF, set_pages, if_neg e]
  | pD m =>
    by_cases e : m = n
    · subst e
      simp only [objF, set_pages, if_pos, hp, Option.map_some]
    · simp only [objF, set_pages, if_neg e]
  | pR m =>
    by_cases e : m = n
    · have h1 := h e
      subst e
      simp only [objF, set_pages, if_pos, hp, Option.map_some, h1]
    · simp only [objF, set_pages, if_neg e]
  | pK m =>
    by_cases e : m = n
    · have h1 := h e
      subst e
      simp only [objF, set_pages, if_pos, hp, Option.map_some, h1]
    · simp only [objF, set_pages, if_neg e]
/-- a page's own list changed in place -/
theorem RepF.rowIn (R : RepF K H A F) (hp : F.pages n = some p) (r : List Int) : RepF K (upd H (A (.pR n)) (.lst (iL r))) A (F.set n { p with row := r }) ∧
    Stp K H (upd H (A (.pR n)) (.lst (iL r))) (footF F A) (footF (F.set n { p with row := r }) A) := by
  have l : liveF F (.pR n) := by show (F.pages n).isSome = true; rw [hp]; rfl
  refine ⟨R.store (Int.le_refl _) l (set_dom hp _) (by simp [objF, set_pages]) fun t ht => ?_, (Stp.own ⟨_, l, rfl⟩ (R.pgR hp) trivial).to fun b h => (foot_set hp).mp h⟩
  exact objF_set hp (by cases t <;> first | exact trivial | exact fun _ => rfl | exact fun e => absurd (by rw [e]) ht)
theorem RepF.kidsIn (R : RepF K H A F) (hp : F.pages n = some p) (r : List Int) : RepF K (upd H (A (.pK n)) (.lst (iL r))) A (F.set n { p with kids := r }) ∧
    Stp K H (upd H (A (.pK n)) (.lst (iL r))) (footF F A) (footF (F.set n { p with kids := r }) A) := by
  have l : liveF F (.pK n) := by show (F.pages n).isSome = true; rw [hp]; rfl
  refine ⟨R.store (Int.le_refl _) l (set_dom hp _) (by simp [objF, set_pages]) fun t ht => ?_, (Stp.own ⟨_, l, rfl⟩ (R.pgK hp) trivial).to fun b h => (foot_set hp).mp h⟩
  exact objF_set hp (by cases t <;> first | exact trivial | exact fun _ => rfl | exact fun e => absurd (by rw [e]) ht)
theorem RepF.nxtIn (R : RepF K H A F) (hp : F.pages n = some p) (m : Option Int) : RepF K (upd H (A (.pO n)) (.ins (He.ga K "Page") (A (.pD n)) (putF "next" (optV m) (fldP p (A (.pR n)) (A (.pK n)))))) A (F.set n { p with nxt := m }) ∧
    Stp K H (upd H (A (.pO n)) (.ins (He.ga K "Page") (A (.pD n)) (putF "next" (optV m) (fldP p (A (.pR n)) (A (.pK n)))))) (footF F A) (footF (F.set n { p with nxt := m }) A) := by
  have l : liveF F (.pO n) := by show (F.pages n).isSome = true; rw [hp]; rfl
  have e : putF "next" (optV m) (fldP p (A (.pR n)) (A (.pK n))) = fldP { p with nxt := m } (A (.pR n)) (A (.pK n)) := by rfl
  rw [e]
  refine ⟨R.store (Int.le_refl _) l (set_dom hp _) (by simp [objF, set_pages]) fun t ht => ?_, (Stp.own ⟨_, l, rfl⟩ (R.pgO hp) trivial).to fun b h => (foot_set hp).mp h⟩
  exact objF_set hp (by cases t <;> first | exact trivial | exact fun _ => rfl | exact fun e => absurd (by rw [e]) ht)
/-- a field of the forest that is a number -/
theorem RepF.rootIn (R : RepF K H A F) (r : Int) : RepF K (upd H (A .fO) (.ins (He.ga K "Forest") (A .fD) (putF "root" (.int r) (fldF F (A .pd))))) A { F with root := r } ∧
    Stp K H (upd H (A .fO) (.ins (He.ga K "Forest") (A .fD) (putF "root" (.int r) (fldF F (A .pd))))) (footF F A) (footF { F with root := r } A) := by
  have e : putF "root" (.int r) (fldF F (A .pd)) = fldF { F with root := r } (A .pd) := by rfl
  rw [e]
  refine ⟨R.store (t0 := .fO) (Int.le_refl _) trivial (fun _ => rfl) rfl fun t ht => ?_, (Stp.own ⟨.fO, trivial, rfl⟩ R.fo trivial).to fun b h => ?_⟩
  · cases t <;> first | rfl | exact absurd rfl ht
  · obtain ⟨t, l, z⟩ := h
    exact ⟨t, by cases t <;> exact l, z⟩
theorem RepF.lastIn (R : RepF K H A F) (r : Int) (hr : F.last ≤ r) : RepF K (upd H (A .fO) (.ins (He.ga K "Forest") (A .fD) (putF "last" (.int r) (fldF F (A .pd))))) A { F with last := r } ∧
    Stp K H (upd H (A .fO) (.ins (He.ga K "Forest") (A .fD) (putF "last" (.int r) (fldF F (A .pd))))) (footF F A) (footF { F with last := r } A) := by
  have e : putF "last" (.int r) (fldF F (A .pd)) = fldF { F with last := r } (A .pd) := by rfl
  rw [e]
  refine ⟨R.store (t0 := .fO) hr trivial (fun _ => rfl) rfl fun t ht => ?_, (Stp.own ⟨.fO, trivial, rfl⟩ R.fo trivial).to fun b h => ?_⟩
  · cases t <;> first | rfl | exact absurd rfl ht
  · obtain ⟨t, l, z⟩ := h
    exact ⟨t, by cases t <;> exact l, z⟩
theorem same_upd {H : Hp} {p : Addr} {o : HO} (hp : H p = none) : Same H (upd H p o) := fun b u e => by
  rw [upd_ne (ne_of_none e hp)]
  exact e
/-- another list, new, in a page's field -/
theorem RepF.renew (R : RepF K H A F) (hp : F.pages n = some p) {p' : Pg} {t0 : FT} {q : Addr} {o0 : HO} (h0 : (t0 = .pR n ∧ p' = { p with row := p'.row } ∧ o0 = .lst (iL p'.row)) ∨ (t0 = .pK n ∧ p' = { p with kids := p'.kids } ∧ o0 = .lst (iL p'.kids))) (hq : H q = none) :
    RepF K (upd (upd H q o0) (A (.pO n)) (.ins (He.ga K "Page") (A (.pD n)) (fldP p' (setA A t0 q (.pR n)) (setA A t0 q (.pK n))))) (setA A t0 q) (F.set n p') ∧
    Stp K H (upd (upd H q o0) (A (.pO n)) (.ins (He.ga K "Page") (A (.pD n)) (fldP p' (setA A t0 q (.pR n)) (setA A t0 q (.pK n))))) (footF F A) (footF (F.set n p') (setA A t0 q)) := by
  have lO : liveF F (.pO n) := by show (F.pages n).isSome = true; rw [hp]; rfl
  have nq : ∀ t, liveF F t → A t ≠ q := fun t l e => R.notfree hq ⟨t, l, e⟩
  have t0O : ∀ m, t0 ≠ .pO m := fun m z => by rcases h0 with ⟨e, _⟩ | ⟨e, _⟩ <;> rw [e] at z <;> cases z
  have t0D : ∀ m, t0 ≠ .pD m := fun m z => by rcases h0 with ⟨e, _⟩ | ⟨e, _⟩ <;> rw [e] at z <;> cases z
  have t0f : t0 ≠ .fO ∧ t0 ≠ .fD ∧ t0 ≠ .pd := by rcases h0 with ⟨e, _⟩ | ⟨e, _⟩ <;> rw [e] <;> simp
  refine ⟨⟨fun t o e => ?_, ?_, fun t u a b e => ?_⟩, ⟨fun b o h nf _ => ?_, fun b h => upd_free (upd_free h), fun b z => ?_, fun t => ((t.same (same_upd hq)).own (same_upd hq _ _ (R.pgO hp)) trivial)⟩⟩
  · have l := (liveF_set hp).mp (objF_live e)
    by_cases h1 : t = t0
    · subst h1
      rw [setA_same, upd_ne (fun z => nq _ lO z.symm), upd_same]
      rcases h0 with ⟨rfl, e1, rfl⟩ | ⟨rfl, e1, rfl⟩ <;> (simp only [objF, set_pages, if_pos, Option.map_some] at e; exact e)
    · rw [setA_ne h1]
      by_cases h2 : t = .pO n
      · subst h2
        rw [upd_same]
        simp only [objF, set_pages, if_pos, Option.map_some, setA_ne (t0D n).symm] at e
        exact e
      · rw [upd_ne (fun z => h2 (R.inj _ _ l lO z)), upd_ne (nq t l)]
        refine R.obj t o ?_
        rw [← e, ← objF_set (A := A) hp (p' := p') (t := t) (by
          rcases h0 with ⟨e0, e1, _⟩ | ⟨e0, e1, _⟩ <;> rw [e1] <;> cases t <;> first | exact trivial | exact fun _ => rfl | exact fun e => (h2 (congrArg FT.pO e)).elim | exact fun e => (h1 ((congrArg FT.pR e).trans e0.symm)).elim | exact fun e => (h1 ((congrArg FT.pK e).trans e0.symm)).elim)]
        have g1 : ∀ u, u ≠ t0 → setA A t0 q u = A u := fun u => setA_ne
        cases t with
        | fO => simp only [objF, g1 .fD t0f.2.1.symm, g1 .pd t0f.2.2.symm]
        | fD => simp only [objF, g1 .fO t0f.1.symm]
        | pd => rfl
        | pR m => rfl
        | pK m => rfl
        | pD m => simp only [objF, g1 (.pO m) (t0O m).symm]
        | pO m =>
          have hm : m ≠ n := fun z => h2 (by rw [z])
          have g2 : setA A t0 q (.pR m) = A (.pR m) := g1 _ (by rcases h0 with ⟨e0, _⟩ | ⟨e0, _⟩ <;> rw [e0] <;> simp [hm])
          have g3 : setA A t0 q (.pK m) = A (.pK m) := g1 _ (by rcases h0 with ⟨e0, _⟩ | ⟨e0, _⟩ <;> rw [e0] <;> simp [hm])
          simp only [objF, g1 (.pD m) (t0D m).symm, g2, g3]
  · obtain ⟨kvs, e, d, hl⟩ := R.pd
    refine ⟨kvs, ?_, ⟨d.nd, fun m => ?_, d.int⟩, hl⟩
    · rw [setA_ne t0f.2.2.symm, upd_ne (fun z => by have := R.inj .pd (.pO n) trivial lO z; cases this), upd_ne (nq .pd trivial)]
      exact e
    · rw [d.at_ m, setA_ne (t0O m).symm, set_pages]
      split
      · rename_i z; rw [z, hp]; rfl
      · rfl
  · have la := (liveF_set hp).mp a
    have lb := (liveF_set hp).mp b
    by_cases h1 : t = t0
    · by_cases h2 : u = t0
      · rw [h1, h2]
      · rw [h1, setA_same, setA_ne h2] at e
        exact absurd e.symm (nq u lb)
    · by_cases h2 : u = t0
      · rw [h2, setA_same, setA_ne h1] at e
        exact absurd e (nq t la)
      · rw [setA_ne h1, setA_ne h2] at e
        exact R.inj t u la lb e
  · rw [upd_ne (fun z => nf ⟨_, lO, z.symm⟩), upd_ne (ne_of_none h hq)]
    exact h
  · obtain ⟨t, l, e⟩ := z
    by_cases h1 : t = t0
    · rw [h1, setA_same] at e
      exact .inr (e ▸ hq)
    · rw [setA_ne h1] at e
      exact .inl ⟨t, (liveF_set hp).mp l, e⟩
/-- a new page's things -/
structure NewP (K : PySem.W.Frag) (H : Hp) (x dx r c : Addr) (p : Pg) : Prop where
  ob : H x = some (.ins (He.ga K "Page") dx (fldP p r c))
  own : H dx = some (.own x)
  row : H r = some (.lst (iL p.row))
  kid : H c = some (.lst (iL p.kids))
  ne : r ≠ c
def newAt (x dx r c b : Addr) : Prop := b = x ∨ b = dx ∨ b = r ∨ b = c
def layP (A : FT → Addr) (n : Int) (x dx r c : Addr) : FT → Addr
  | .pO m => if m = n then x else A (.pO m)
  | .pD m => if m = n then dx else A (.pD m)
  | .pR m => if m = n then r else A (.pR m)
  | .pK m => if m = n then c else A (.pK m)
  | t => A t
theorem nd_put' {kvs : List (Key × V)} (hn : (kvs.map (·.1)).Nodup) (k : Key) (v : V) : ((putK kvs k v).map (·.1)).Nodup := by
  cases e : valV kvs k with
  | none => exact nd_putK v hn e
  | some y =>
    unfold putK
    rw [if_pos (by rw [valV_any, e]; rfl), List.map_map]
    have q : ((fun kv : Key × V => kv.1) ∘ fun kv => if kv.1 = k then (kv.1, v) else kv) = fun kv => kv.1 := by
      funext kv
      show (if kv.1 = k then (kv.1, v) else kv).1 = kv.1
      split <;> rfl
    rw [q]
    exact hn
theorem valV_drop' (k j : Key) : ∀ kvs : List (Key × V), valV (dropK kvs k) j = if j = k then none else valV kvs j
  | [] => by split <;> rfl
  | kv :: r => by
    have ih := valV_drop' k j r
    unfold dropK at ih ⊢
    by_cases h : kv.1 = k
    · rw [List.filter_cons_of_neg (by simp [h]), ih]
      by_cases h2 : j = k
      · rw [if_pos h2, if_pos h2]
      · rw [if_neg h2, if_neg h2, valV_neg (fun z => h2 (z.symm.trans h))]
    · rw [List.filter_cons_of_pos (by simp [h])]
      by_cases h3 : kv.1 = j
      · rw [valV_pos h3, valV_pos h3, if_neg (fun z => h (h3.trans z))]
      · rw [valV_neg h3, valV_neg h3, ih]
theorem len_drop (k : Key) (kvs : List (Key × V)) : (dropK kvs k).length ≤ kvs.length := List.length_filter_le _ _
theorem DOk.put {kvs : List (Key × V)} {f : Int → Option V} (d : DOk kvs f) (n : Int) (v : V) : DOk (putK kvs (Sum.inl n) v) (fun m => if m = n then some v else f m) where
  nd := nd_put' d.nd _ _
  at_ := fun m => by
    rw [valV_put]
    by_cases h : m = n
    · rw [if_pos (by rw [h]), if_pos h]
    · rw [if_neg (by intro z; cases z; exact h rfl), if_neg h]
      exact d.at_ m
  int := fun p hp => by
    unfold putK at hp
    split at hp
    · obtain ⟨q, hq, e⟩ := List.mem_map.mp hp
      obtain ⟨m, hm⟩ := d.int q hq
      refine ⟨m, ?_⟩
      rw [← e]
      split <;> exact hm
    · rcases List.mem_append.mp hp with hp | hp
      · exact d.int p hp
      · rw [List.mem_singleton.mp hp]
        exact ⟨n, rfl⟩
theorem DOk.drop {kvs : List (Key × V)} {f : Int → Option V} (d : DOk kvs f) (n : Int) : DOk (dropK kvs (Sum.inl n)) (fun m => if m = n then none else f m) where
  nd := nd_dropK d.nd
  at_ := fun m => by
    rw [valV_drop']
    by_cases h : m = n
    · rw [if_pos (by rw [h]), if_pos h]
    · rw [if_neg (by intro z; cases z; exact h rfl), if_neg h]
      exact d.at_ m
  int := fun p hp => d.int p (List.mem_filter.mp hp).1
theorem DOk.congr {kvs : List (Key × V)} {f g : Int → Option V} (d : DOk kvs f) (h : ∀ n, f n = g n) : DOk kvs g := ⟨d.nd, fun n => (d.at_ n).trans (h n), d.int⟩
theorem layP_old (hn : F.pages n = none) {x dx r c : Addr} {t : FT} (l : liveF F t) : layP A n x dx r c t = A t := by
  cases t with
  | fO => rfl
  | fD => rfl
  | pd => rfl
  | _ m =>
    have h : m ≠ n := fun z => by simp [liveF, z, hn] at l
    simp only [layP, if_neg h]
/-- a page more -/
theorem RepF.addP {F' : Fo} (R : RepF K H A F) (hn : F.pages n = none) {x dx r c : Addr} (N : NewP K H x dx r c p) (nf : ∀ b, newAt x dx r c b → ¬ footF F A b) (hF : F'.pages = setP F.pages n p) (hl : F'.last = F.last) (hr : F'.root = F.root) (hk : ∀ kvs : List (Key × V), H (A .pd) = some (.dK kvs) → (kvs.length : Int) < F.last) :
    ∃ kvs : List (Key × V), H (A .pd) = some (.dK kvs) ∧ (kvs.length : Int) < F.last ∧
    RepF K (upd H (A .pd) (.dK (putK kvs (Sum.inl n) (.ref x)))) (layP A n x dx r c) F' ∧
    Stp K H (upd H (A .pd) (.dK (putK kvs (Sum.inl n) (.ref x)))) (fun b => footF F A b ∨ newAt x dx r c b) (footF F' (layP A n x dx r c)) := by
  obtain ⟨kvs, e, d, hlen⟩ := R.pd
  have xdx : x ≠ dx := ne_of N.ob N.own (by intro z; cases z)
  have xr : x ≠ r := ne_of N.ob N.row (by intro z; cases z)
  have xc : x ≠ c := ne_of N.ob N.kid (by intro z; cases z)
  have dr : dx ≠ r := ne_of N.own N.row (by intro z; cases z)
  have dc : dx ≠ c := ne_of N.own N.kid (by intro z; cases z)
  have npd : ∀ b, newAt x dx r c b → b ≠ A .pd := fun b hb z => nf b hb ⟨.pd, trivial, z.symm⟩
  have live : ∀ t, liveF F' t → liveF F t ∨ t = .pO n ∨ t = .pD n ∨ t = .pR n ∨ t = .pK n := fun t l => by
    cases t with
    | fO => exact .inl trivial
    | fD => exact .inl trivial
    | pd => exact .inl trivial
    | _ m =>
      by_cases h : m = n
      · subst h; simp
      · refine .inl ?_
        simp only [liveF, hF, setP_ne h] at l ⊢
        exact l
  have old : ∀ t, liveF F t → layP A n x dx r c t = A t := fun t l => by
    cases t with
    | fO => rfl
    | fD => rfl
    | pd => rfl
    | _ m =>
      have h : m ≠ n := fun z => by simp [liveF, z, hn] at l
      simp only [layP, if_neg h]
  have new : newAt x dx r c (layP A n x dx r c (.pO n)) ∧ newAt x dx r c (layP A n x dx r c (.pD n)) ∧ newAt x dx r c (layP A n x dx r c (.pR n)) ∧ newAt x dx r c (layP A n x dx r c (.pK n)) := by
    simp [layP, newAt]
  have isnew : ∀ t, (t = .pO n ∨ t = .pD n ∨ t = .pR n ∨ t = .pK n) → newAt x dx r c (layP A n x dx r c t) := fun t h => by
    rcases h with h | h | h | h <;> subst h
    · exact new.1
    · exact new.2.1
    · exact new.2.2.1
    · exact new.2.2.2
  refine ⟨kvs, e, hk kvs e, ⟨fun t o ho => ?_, ?_, fun t u lt lu q => ?_⟩, ⟨fun b o h nb _ => ?_, fun b h => upd_free h, fun b hb => ?_, fun t => t.own e trivial⟩⟩
  · have l := objF_live ho
    have ntp : t ≠ .pd := fun z => by rw [z] at ho; cases ho
    rcases live t l with l0 | l0
    · rw [old t l0, upd_ne (fun z => ntp (R.inj _ _ l0 trivial z))]
      refine R.obj t o ?_
      rw [← ho]
      cases t with
      | fO => simp only [objF, fldF, hl, hr]; rfl
      | fD => rfl
      | pd => rfl
      | _ m =>
        have h : m ≠ n := fun z => by simp [liveF, z, hn] at l0
        simp only [objF, hF, setP_ne h, layP, if_neg h]
    · rw [upd_ne (npd _ (isnew t l0))]
      rcases l0 with h | h | h | h <;> subst h <;> simp only [objF, hF, setP_same, Option.map_some, layP, if_pos] at ho ⊢ <;> rw [← ho]
      · exact N.ob
      · exact N.own
      · exact N.row
      · exact N.kid
  · refine ⟨_, upd_same, (d.put n (.ref x)).congr fun m => ?_, ?_⟩
    · rw [hF]
      by_cases h : m = n
      · rw [if_pos h, h, setP_same]
        simp [layP]
      · rw [if_neg h, setP_ne h]
        simp only [layP, if_neg h]
    · have := length_putK kvs (Sum.inl n) (V.ref x)
      have := hk kvs e
      rw [hl]
      omega
  · have notold : ∀ t u, liveF F t → (u = .pO n ∨ u = .pD n ∨ u = .pR n ∨ u = .pK n) → layP A n x dx r c t ≠ layP A n x dx r c u := fun t u l h z =>
      nf _ (isnew u h) ⟨t, l, (old t l).symm.trans z⟩
    rcases live t lt with l1 | l1
    · rcases live u lu with l2 | l2
      · rw [old t l1, old u l2] at q
        exact R.inj t u l1 l2 q
      · exact absurd q (notold t u l1 l2)
    · rcases live u lu with l2 | l2
      · exact absurd q.symm (notold u t l2 l1)
      · rcases l1 with h | h | h | h <;> rcases l2 with h' | h' | h' | h' <;> subst h <;> subst h' <;> simp only [layP, if_pos] at q <;> first
          | rfl
          | exact absurd q xdx | exact absurd q xdx.symm | exact absurd q xr | exact absurd q xr.symm | exact absurd q xc | exact absurd q xc.symm
          | exact absurd q dr | exact absurd q dr.symm | exact absurd q dc | exact absurd q dc.symm | exact absurd q N.ne | exact absurd q N.ne.symm
  · rw [upd_ne (fun z => nb (.inl ⟨.pd, trivial, z.symm⟩))]
    exact h
  · obtain ⟨t, l, z⟩ := hb
    rcases live t l with l0 | l0
    · exact .inl (.inl ⟨t, l0, (old t l0).symm.trans z⟩)
    · exact .inl (.inr (z ▸ isnew t l0))
/-- a page less -/
theorem RepF.delP (R : RepF K H A F) : ∃ kvs : List (Key × V), H (A .pd) = some (.dK kvs) ∧ DOk kvs (fun n => (F.pages n).map fun _ => V.ref (A (.pO n))) ∧
    RepF K (upd H (A .pd) (.dK (dropK kvs (Sum.inl n)))) A (F.del n) ∧ Stp K H (upd H (A .pd) (.dK (dropK kvs (Sum.inl n)))) (footF F A) (footF (F.del n) A) := by
  obtain ⟨kvs, e, d, hlen⟩ := R.pd
  have live : ∀ t, liveF (F.del n) t → liveF F t := fun t l => by
    cases t with
    | fO => trivial
    | fD => trivial
    | pd => trivial
    | _ m =>
      by_cases h : m = n
      · subst h; simp [liveF, Fo.del, HH.delP] at l
      · simp only [liveF, Fo.del, delP_ne h] at l ⊢
        exact l
  refine ⟨kvs, e, d, ⟨fun t o ho => ?_, ?_, fun t u a b => R.inj t u (live t a) (live u b)⟩, ⟨fun b o h nb _ => ?_, fun b h => upd_free h, fun b ⟨t, l, z⟩ => .inl ⟨t, live t l, z⟩, fun t => t.own e trivial⟩⟩
  · have l := live t (objF_live ho)
    have ntp : t ≠ .pd := fun z => by rw [z] at ho; cases ho
    rw [upd_ne (fun z => ntp (R.inj _ _ l trivial z))]
    refine R.obj t o ?_
    rw [← ho]
    cases t with
    | fO => rfl
    | fD => rfl
    | pd => rfl
    | _ m =>
      by_cases h : m = n
      · subst h
        have := objF_live ho
        simp [liveF, Fo.del, HH.delP] at this
      · simp only [objF, Fo.del, delP_ne h]
  · refine ⟨_, upd_same, (d.drop n).congr fun m => ?_, ?_⟩
    · by_cases h : m = n
      · rw [if_pos h, h, show (F.del n).pages n = none from delP_same]; rfl
      · rw [if_neg h, show (F.del n).pages m = F.pages m from delP_ne h]
    · have := len_drop (Sum.inl n) kvs
      show ((dropK kvs (Sum.inl n)).length : Int) ≤ F.last
      omega
  · rw [upd_ne (fun z => nb ⟨.pd, trivial, z.symm⟩)]
    exact h
end

/-! ### small things about data -/
theorem dpAll_int {K : PySem.W.Frag} {H : Hp} : ∀ xs : List Int, DpAll K H (iL xs) (xs.map PyData.int)
  | [] => .nil
  | x :: r => .cons (.int x) (dpAll_int r)
theorem dp_int {K : PySem.W.Frag} {H : Hp} {a : Addr} {xs : List Int} (h : SqL K H a (iL xs)) : Dp K H (.ref a) (.list (xs.map PyData.int)) := .lst h (dpAll_int xs)
theorem dp_intT {K : PySem.W.Frag} {H : Hp} {a : Addr} {xs : List Int} (h : SqT K H a (iL xs)) : Dp K H (.ref a) (.tuple (xs.map PyData.int)) := .tup h (dpAll_int xs)
theorem canLay_all {ds : List PyData} : PyData.canLayAll0 ds = ds.all PyData.canLay0 := by
  induction ds with
  | nil => rfl
  | cons d r ih => simp only [PyData.canLayAll0, List.all_cons, ih]
theorem depthAll_le {n : Nat} : ∀ {ds : List PyData}, (∀ d ∈ ds, d.depth ≤ n) → PyData.depthAll ds ≤ n
  | [], _ => by simp [PyData.depthAll]
  | d :: r, h => by
    simp only [PyData.depthAll]
    exact Nat.max_le.mpr ⟨h d (by simp), depthAll_le fun e he => h e (by simp [he])⟩
/-- data of that depth at the most, of layable texts -/
def Flat (n : Nat) (d : PyData) : Prop := d.canLay0 = true ∧ d.depth ≤ n
theorem Flat.shaped {n : Nat} {d : PyData} (h : Flat n d) (hn : n ≤ 64) : SeqAt.shaped d = true := by
  unfold SeqAt.shaped
  rw [h.1, decide_eq_true (Nat.le_trans h.2 hn)]
  rfl
theorem Flat.list {n : Nat} {ds : List PyData} (h : ∀ d ∈ ds, Flat n d) : Flat (n + 1) (.list ds) :=
  ⟨by simp only [PyData.canLay0, canLay_all]; exact List.all_eq_true.mpr fun d hd => (h d hd).1, by simp only [PyData.depth]; have := depthAll_le (ds := ds) fun d hd => (h d hd).2; omega⟩
theorem Flat.tuple {n : Nat} {ds : List PyData} (h : ∀ d ∈ ds, Flat n d) : Flat (n + 1) (.tuple ds) :=
  ⟨by simp only [PyData.canLay0, canLay_all]; exact List.all_eq_true.mpr fun d hd => (h d hd).1, by simp only [PyData.depth]; have := depthAll_le (ds := ds) fun d hd => (h d hd).2; omega⟩
theorem Flat.int {i : Int} : Flat 0 (.int i) := ⟨rfl, Nat.le_refl _⟩
theorem Flat.bool {b : Bool} : Flat 0 (.bool b) := ⟨rfl, Nat.le_refl _⟩
theorem Flat.none : Flat 0 .none := ⟨rfl, Nat.le_refl _⟩
theorem Flat.mono {m n : Nat} {d : PyData} (h : Flat m d) (k : m ≤ n) : Flat n d := ⟨h.1, Nat.le_trans h.2 k⟩
theorem flat_ints (xs : List Int) : Flat 1 (.list (xs.map PyData.int)) := Flat.list fun d hd => by
  obtain ⟨x, _, rfl⟩ := List.mem_map.mp hd
  exact Flat.int
theorem flat_intsT (xs : List Int) : Flat 1 (.tuple (xs.map PyData.int)) := Flat.tuple fun d hd => by
  obtain ⟨x, _, rfl⟩ := List.mem_map.mp hd
  exact Flat.int
theorem shaped_ints (xs : List Int) : SeqAt.shaped (.list (xs.map PyData.int)) = true := (flat_ints xs).shaped (by decide)
theorem eqvAll_ints : ∀ xs ys : List Int, PyData.eqvAll (xs.map PyData.int) (ys.map PyData.int) = decide (xs = ys)
  | [], [] => rfl
  | [], _ :: _ => rfl
  | _ :: _, [] => rfl
  | x :: xs, y :: ys => by
    show (PyData.eqv (.int x) (.int y) && PyData.eqvAll (xs.map PyData.int) (ys.map PyData.int)) = _
    rw [eqvAll_ints xs ys, Bool.eq_iff_iff]
    simp [PyData.eqv]
theorem eqv_ints (xs ys : List Int) : PyData.eqv (.list (xs.map PyData.int)) (.list (ys.map PyData.int)) = decide (xs = ys) := by
  rw [show PyData.eqv (.list (xs.map PyData.int)) (.list (ys.map PyData.int)) = PyData.eqvAll (xs.map PyData.int) (ys.map PyData.int) from by simp only [PyData.eqv]]
  exact eqvAll_ints xs ys
theorem eqv_intsT (xs ys : List Int) : PyData.eqv (.tuple (xs.map PyData.int)) (.tuple (ys.map PyData.int)) = decide (xs = ys) := by
  rw [show PyData.eqv (.tuple (xs.map PyData.int)) (.tuple (ys.map PyData.int)) = PyData.eqvAll (xs.map PyData.int) (ys.map PyData.int) from by simp only [PyData.eqv]]
  exact eqvAll_ints xs ys
theorem same_new {H : Hp} {p : Addr} {o : HO} (hp : H p = none) : Same H (upd H p o) := fun b u e => by
  rw [upd_ne (ne_of_none e hp)]
  exact e
theorem RepF.same {K : PySem.W.Frag} {H H' : Hp} {A : FT → Addr} {F : Fo} (R : RepF K H A F) (s : Same H H') : RepF K H' A F := R.frame fun b ⟨t, l, e⟩ => by
  obtain ⟨o, ho, _⟩ := R.there l
  rw [e] at ho
  rw [s b o ho, ho]
theorem Stp.same {K : PySem.W.Frag} {H H' : Hp} {f : Addr → Prop} (s : Same H H') : Stp K H H' f f := ⟨fun b o h _ _ => s b o h, fun b h => s.free h, fun _ h => .inl h, TabsOk.same s⟩
theorem iL_get {xs : List Int} {i : Nat} {y : V} (h : (iL xs)[i]? = some y) : ∃ z, xs[i]? = some z ∧ y = V.int z := by
  rw [List.getElem?_map] at h
  cases e : xs[i]? with
  | none => rw [e] at h; cases h
  | some z => rw [e] at h; exact ⟨z, rfl, (Option.some.inj h).symm⟩
theorem iL_at {xs : List Int} {i : Nat} {z : Int} (h : xs[i]? = some z) : (iL xs)[i]? = some (V.int z) := by rw [List.getElem?_map, h]; rfl
theorem small64 {n : Nat} (h : n ≤ 1000000) : n < sizeLine := Nat.lt_of_le_of_lt h (by decide)
/-- a field, within a comprehension's block: the frozen part named from outside -/
theorem pe_fldB {X : Cx} {K : PySem.W.Frag} {e : Expr} {f : Str} {pos : Pos} {ta : TE} (hK : X.K = K) (he : PE X e ta) (hb : attributeBase e f X.env (eval e X.env) = eval e X.env) : PE X (.Attribute e f pos) (tFld K ta f) := hK ▸ pe_fld he hb
theorem ix_listB {X : Cx} {K : PySem.W.Frag} (hK : X.K = K) : IxR X (rIxL K) := hK ▸ ix_list
theorem call_isiB {X : Cx} {K : PySem.W.Frag} (hK : X.K = K) : CallR X (.builtin "isinstance") (rIsi K) := hK ▸ call_isi
theorem call_list_ofB {X : Cx} {K : PySem.W.Frag} (hK : X.K = K) : CallR X (.type "list") (fun xs H Q => ∃ p ys, xs = [.ref p] ∧ (SqL K H p ys ∨ SqT K H p ys) ∧ ∀ l, H l = none → Q (.ref l) (upd H l (.lst ys))) := hK ▸ call_list_of
theorem call_tuple_ofB {X : Cx} {K : PySem.W.Frag} (hK : X.K = K) : CallR X (.type "tuple") (fun xs H Q => ∃ p ys, xs = [.ref p] ∧ ((SqL K H p ys ∧ ∀ l, H l = none → Q (.ref l) (upd H l (.tup ys))) ∨ (SqT K H p ys ∧ Q (.ref p) H))) := hK ▸ call_tuple_of
theorem call_len_seqB {X : Cx} {K : PySem.W.Frag} (hK : X.K = K) : CallR X (.builtin "len") (fun xs H Q => ∃ p ys, xs = [.ref p] ∧ (SqL K H p ys ∨ SqT K H p ys) ∧ Q (.int ys.length) H) := hK ▸ call_len_seq
theorem op_in_seqB {X : Cx} {K : PySem.W.Frag} (hK : X.K = K) : OpR X (compareOp .In) (rIn K false) := hK ▸ op_in_seq
theorem op_notIn_seqB {X : Cx} {K : PySem.W.Frag} (hK : X.K = K) : OpR X (compareOp .NotIn) (rIn K true) := hK ▸ op_notIn_seq
theorem ix_tupB {X : Cx} {K : PySem.W.Frag} (hK : X.K = K) : IxR X (rIxT K) := hK ▸ ix_tup
theorem pg_tupB {X : Cx} {K : PySem.W.Frag} {es : List Expr} {k : Nat} {pos : Pos} {t : TGs} {n : Nat} (hK : X.K = K) (hc : X.calm = true) (h : PGs X es t)
    (hn : (assignEach es X.env).length = n := by rfl) (hst : (assignEach es X.env).findIdx? (·.1) = none := by rfl) : PG X (.Tuple es k pos) (gTup K n t) := hK ▸ pg_tup hc h hn hst

/-! ### a comprehension within a comprehension -/
theorem lookup_relabel {env : Env} {x : Str} : ∀ {names : List (Str × NameKind)}, (names.lookup x = some .cell ∨ names.lookup x = some .free) →
    ((names.map fun (n, k) => if (k == NameKind.free && env.scope.kind == .function && env.kindOf n == some .cell) then (n, NameKind.cell) else (n, k)).lookup x = some .cell ∨ (names.map fun (n, k) => if (k == NameKind.free && env.scope.kind == .function && env.kindOf n == some .cell) then (n, NameKind.cell) else (n, k)).lookup x = some .free)
  | [], h => by simp at h
  | (n, k) :: r, h => by
    rw [List.map_cons]
    dsimp only
    by_cases e : (x == n) = true
    · have hk : k = .cell ∨ k = .free := by
        rw [List.lookup_cons, e] at h
        rcases h with h | h
        · exact .inl (Option.some.inj h)
        · exact .inr (Option.some.inj h)
      by_cases c : (k == NameKind.free && env.scope.kind == .function && env.kindOf n == some .cell) = true
      · rw [if_pos c, List.lookup_cons, e]
        exact .inl rfl
      · rw [if_neg c, List.lookup_cons, e]
        rcases hk with w | w
        · exact .inl (by rw [w])
        · exact .inr (by rw [w])
    · have e' : (x == n) = false := by simpa using e
      rw [List.lookup_cons, e'] at h
      have ih := lookup_relabel (env := env) (names := r) h
      by_cases c : (k == NameKind.free && env.scope.kind == .function && env.kindOf n == some .cell) = true
      · rw [if_pos c, List.lookup_cons, e']
        exact ih
      · rw [if_neg c, List.lookup_cons, e']
        exact ih
theorem blkOk_in {N : List Str} {sc scope : Scope} {env : Env} {own : List (Str × Nat)} (h : BlkOk N sc scope own) : BlkOk N (relabel sc env) scope own :=
  ⟨h.kind, h.uniq, h.ix, fun y hy e => lookup_relabel (h.free y hy e), h.own⟩
theorem pi_listB {X : Cx} {K : PySem.W.Frag} {tg l : Expr} {tl : TE} (hK : X.K = K) (h : PE X l tl) : PI X tg l (iList K tl) := hK ▸ pi_list h
theorem pi_tupB {X : Cx} {K : PySem.W.Frag} {tg l : Expr} {tl : TE} (hK : X.K = K) (h : PE X l tl) : PI X tg l (iTup K tl) := hK ▸ pi_tup h

/-! ### pages -/
theorem flatP {p : Pg} {r c : Addr} : (fldP p r c).lookup ("row" : Str) = some (.ref r) ∧ (fldP p r c).lookup ("children" : Str) = some (.ref c) ∧ (fldP p r c).lookup ("next" : Str) = some (optV p.nxt) := ⟨rfl, rfl, rfl⟩
def sp_Page_init (K : PySem.W.Frag) : Sp := fun vs H Q _ => ∃ (x dx : Addr) (a b v : V), vs = [.ref x, a, b, v] ∧ H x = some (.ins (He.ga K "Page") dx []) ∧ Q .non (upd H x (.ins (He.ga K "Page") dx [("row", a), ("children", b), ("next", v)]))
def sp_Page_is_leaf (K : PySem.W.Frag) : Sp := fun vs H Q _ => ∃ (x dx r c : Addr) (p : Pg), vs = [.ref x] ∧ H x = some (.ins (He.ga K "Page") dx (fldP p r c)) ∧ H c = some (.lst (iL p.kids)) ∧
  ∀ H', Same H H' → Q (.bl (decide (p.kids = []))) H'
def sp_Page_place_of (K : PySem.W.Frag) : Sp := fun vs H Q _ => ∃ (x dx r c : Addr) (p : Pg) (k : Int), vs = [.ref x, .int k] ∧ H x = some (.ins (He.ga K "Page") dx (fldP p r c)) ∧ H r = some (.lst (iL p.row)) ∧ p.row.length ≤ 1000 ∧
  ∀ H', Same H H' → Q (.int (place p.row k)) H'
/-! ### slices -/
theorem cut_drop {xs : List V} {n : Nat} : cutV xs (some (n : Int)) none = xs.drop n := by
  unfold cutV
  have e : HT.sIx xs.length 0 (some (n : Int)) = min n xs.length := by
    unfold HT.sIx
    simp
    try omega
  have e2 : HT.sIx xs.length xs.length none = xs.length := rfl
  rw [e, e2]
  by_cases h : n ≤ xs.length
  · rw [Nat.min_eq_left h, List.take_of_length_le (by rw [List.length_drop]; omega)]
  · rw [Nat.min_eq_right (by omega), List.drop_eq_nil_of_le (by omega : xs.length ≤ n), List.drop_length]
    exact List.take_nil
theorem cut_take {xs : List V} {n : Nat} : cutV xs none (some (n : Int)) = xs.take n := by
  unfold cutV
  have e : HT.sIx xs.length xs.length (some (n : Int)) = min n xs.length := by
    unfold HT.sIx
    simp
    try omega
  have e2 : HT.sIx xs.length 0 none = 0 := rfl
  rw [e, e2, List.drop_zero, Nat.sub_zero]
  by_cases h : n ≤ xs.length
  · rw [Nat.min_eq_left h]
  · rw [Nat.min_eq_right (by omega), List.take_of_length_le (by omega), List.take_of_length_le (by omega)]
theorem cut_dropI {xs : List Int} {n : Nat} : cutV (iL xs) (some (n : Int)) none = iL (xs.drop n) := by rw [cut_drop]; simp [iL]
theorem cut_takeI {xs : List Int} {n : Nat} : cutV (iL xs) none (some (n : Int)) = iL (xs.take n) := by rw [cut_take]; simp [iL]
/-- a page made -/
theorem new_page {K : PySem.W.Frag} {H : Hp} {q1 q2 x dx : Addr} {p : Pg} {fs : List (Str × V)} (n1 : H q1 = none) (n2 : upd H q1 (.lst (iL p.row)) q2 = none) (nx : upd (upd H q1 (.lst (iL p.row))) q2 (.lst (iL p.kids)) x = none)
    (nd : upd (upd H q1 (.lst (iL p.row))) q2 (.lst (iL p.kids)) dx = none) (ne : dx ≠ x) :
    Same H (upd (upd (upd (upd (upd H q1 (.lst (iL p.row))) q2 (.lst (iL p.kids))) dx (.own x)) x (.ins (He.ga K "Page") dx fs)) x (.ins (He.ga K "Page") dx (fldP p q1 q2))) ∧
    NewP K (upd (upd (upd (upd (upd H q1 (.lst (iL p.row))) q2 (.lst (iL p.kids))) dx (.own x)) x (.ins (He.ga K "Page") dx fs)) x (.ins (He.ga K "Page") dx (fldP p q1 q2))) x dx q1 q2 p ∧
    ∀ b, newAt x dx q1 q2 b → H b = none := by
  have e12 : q2 ≠ q1 := fun z => by rw [z, upd_same] at n2; cases n2
  have e2x : q2 ≠ x := fun z => by rw [← z, upd_same] at nx; cases nx
  have e2d : q2 ≠ dx := fun z => by rw [← z, upd_same] at nd; cases nd
  rw [upd_ne e2x.symm] at nx
  rw [upd_ne e2d.symm] at nd
  have e1x : q1 ≠ x := fun z => by rw [← z, upd_same] at nx; cases nx
  have e1d : q1 ≠ dx := fun z => by rw [← z, upd_same] at nd; cases nd
  rw [upd_ne e12] at n2
  rw [upd_ne e1x.symm] at nx
  rw [upd_ne e1d.symm] at nd
  refine ⟨fun b o e => ?_, ⟨upd_same, ?_, ?_, ?_, e12.symm⟩, fun b hb => ?_⟩
  · rw [upd_ne (ne_of_none e nx), upd_ne (ne_of_none e nx), upd_ne (ne_of_none e nd), upd_ne (ne_of_none e n2), upd_ne (ne_of_none e n1)]
    exact e
  · rw [upd_ne ne, upd_ne ne, upd_same]
  · rw [upd_ne e1x, upd_ne e1x, upd_ne e1d, upd_ne e12.symm, upd_same]
  · rw [upd_ne e2x, upd_ne e2x, upd_ne e2d, upd_same]
  · rcases hb with h | h | h | h <;> rw [h] <;> assumption
theorem notfoot {K : PySem.W.Frag} {H : Hp} {A : FT → Addr} {F : Fo} (R : RepF K H A F) {x dx r c : Addr} (h : ∀ b, newAt x dx r c b → H b = none) : ∀ b, newAt x dx r c b → ¬ footF F A b := fun b hb => R.notfree (h b hb)
theorem Stp.new {K : PySem.W.Frag} {H H' : Hp} {f : Addr → Prop} {x dx r c : Addr} (s : Same H H') (h : ∀ b, newAt x dx r c b → H b = none) : Stp K H H' f (fun b => f b ∨ newAt x dx r c b) :=
  ⟨fun b o e _ _ => s b o e, fun b h => s.free h, fun b z => z.elim .inl fun z => .inr (h b z), TabsOk.same s⟩
/-! ### the forest's defs -/
def sp_Forest_child_of (K : PySem.W.Frag) : Sp := fun vs H Q _ => ∃ (A : FT → Addr) (F : Fo) (n k : Int), vs = [.ref (A .fO), .int n, .int k] ∧ RepF K H A F ∧ (n ≠ 0 → ∃ p, F.pages n = some p ∧ p.row.length ≤ 1000 ∧ place p.row k < p.kids.length) ∧
  ∀ H', Same H H' → Q (.int (F.child n k)) H'
def sp_Forest_add (K : PySem.W.Frag) : Sp := fun vs H Q _ => ∃ (A : FT → Addr) (F : Fo) (x dx r c : Addr) (p : Pg), vs = [.ref (A .fO), .ref x] ∧ RepF K H A F ∧ F.pages (F.last + 1) = none ∧ F.last ≤ 1000000 ∧ NewP K H x dx r c p ∧ (∀ b, newAt x dx r c b → ¬ footF F A b) ∧
  ∀ H' A', RepF K H' A' (F.add p) → A' .fO = A .fO → (∀ t, liveF F t → A' t = A t) → Stp K H H' (fun b => footF F A b ∨ newAt x dx r c b) (footF (F.add p) A') → Q (.int (F.last + 1)) H'
theorem flat_iL (xs : List Int) : (iL xs).all flatV = true := List.all_eq_true.mpr fun v hv => by
  obtain ⟨x, _, rfl⟩ := List.mem_map.mp hv
  rfl
theorem idx_at {xs : List Int} {n : Int} (h : n ∈ xs) : (iL xs)[xs.idxOf n]? = some (V.int n) := iL_at (by
  rw [List.getElem?_eq_getElem (List.idxOf_lt_length_iff.mpr h)]
  exact congrArg some (List.getElem_idxOf _))
theorem eqV_int (n : Int) : eqV (.int n) (.int n) = true := by simp [eqV]
theorem idx_no {xs : List Int} {n : Int} (m : Nat) (z : V) (hm : m < xs.idxOf n) (hz : (iL xs)[m]? = some z) : eqV z (.int n) = false := by
  obtain ⟨y, hy, rfl⟩ := iL_get hz
  have h1 := List.not_of_lt_findIdx (p := (· == n)) (xs := xs) (show m < xs.findIdx (· == n) from hm)
  obtain ⟨hl, e2⟩ := List.getElem?_eq_some_iff.mp hy
  rw [e2] at h1
  exact h1
theorem len_iL (xs : List Int) : (iL xs).length = xs.length := List.length_map _
theorem pg_ext {p q : Pg} (h1 : p.row = q.row) (h2 : p.kids = q.kids) (h3 : p.nxt = q.nxt) : p = q := by
  cases p; cases q; cases h1; cases h2; cases h3; rfl
def sp_Forest_put_beside (K : PySem.W.Frag) : Sp := fun vs H Q _ => ∃ (A : FT → Addr) (F : Fo) (above n key new : Int) (u : Pg), vs = [.ref (A .fO), .int above, .int n, .int key, .int new] ∧ RepF K H A F ∧ F.pages above = some u ∧ n ∈ u.kids ∧ u.row.length ≤ 1000 ∧ u.kids.length ≤ 1000 ∧
  ∀ H' A', RepF K H' A' (F.set above (beside u n key new)) → A' .fO = A .fO → Stp K H H' (footF F A) (footF (F.set above (beside u n key new)) A') → Q .non H'
theorem add_pages {F : Fo} {p : Pg} {m : Int} : (F.add p).pages m = if m = F.last + 1 then some p else F.pages m := rfl
theorem set_set {F : Fo} {n : Int} {p q : Pg} : (F.set n p).set n q = F.set n q := by
  unfold Fo.set
  congr 1
  funext x
  simp only [setP]
  split <;> rfl
def sp_Forest_split (K : PySem.W.Frag) : Sp := fun vs H Q _ => ∃ (A : FT → Addr) (F : Fo) (above n : Int) (p : Pg), vs = [.ref (A .fO), .int above, .int n] ∧ RepF K H A F ∧ F.pages n = some p ∧ p.row.length = 3 ∧ p.kids.length ≤ 100 ∧
  (above ≠ 0 → above ≠ n ∧ ∃ u, F.pages above = some u ∧ n ∈ u.kids ∧ u.row.length ≤ 1000 ∧ u.kids.length ≤ 1000) ∧ (∀ m, F.last < m → F.pages m = none) ∧ F.last ≤ 999990 ∧
  ∀ H' A' t, RepF K H' A' (F.split above n) → A' .fO = A .fO → Stp K H H' (footF F A) (footF (F.split above n) A') →
    H' t = some (.tup [.int (p.row.getD 1 0), .int (F.last + 1), if above = 0 then .int (F.last + 2) else .non]) → Q (.ref t) H'
theorem set_comm {F : Fo} {n m : Int} {p q : Pg} (h : n ≠ m) : (F.set n p).set m q = (F.set m q).set n p := by
  unfold Fo.set
  congr 1
  funext x
  simp only [setP]
  by_cases h1 : x = m
  · rw [if_pos h1, if_neg (fun z => h (z.symm.trans h1)), if_pos h1]
  · rw [if_neg h1]
    by_cases h2 : x = n
    · rw [if_pos h2, if_pos h2]
    · rw [if_neg h2, if_neg h2, if_neg h1]
theorem set_other {F : Fo} {n m : Int} {p q : Pg} (h : m ≠ n) (hm : F.pages m = some q) : (F.set n p).pages m = some q := by rw [set_pages, if_neg h]; exact hm
theorem set_this {F : Fo} {n : Int} {p : Pg} : (F.set n p).pages n = some p := by rw [set_pages, if_pos rfl]
theorem iL_erase0 {xs : List Int} : (iL xs).eraseIdx 0 = iL xs.tail := by cases xs <;> rfl
theorem iL_ins0 {xs : List Int} {z : Int} : (iL xs).take (0 : Int).toNat ++ [V.int z] ++ (iL xs).drop (0 : Int).toNat = iL (z :: xs) := rfl
theorem iL_dropLast {xs : List Int} : (iL xs).dropLast = iL xs.dropLast := by simp [iL, List.map_dropLast]
theorem iL_snoc {xs : List Int} {z : Int} : iL xs ++ [V.int z] = iL (xs ++ [z]) := by simp [iL]
theorem iL_set {xs : List Int} {i : Nat} {z : Int} : (iL xs).set i (V.int z) = iL (xs.set i z) := List.map_set.symm
theorem iL_get0 {xs : List Int} (h : 1 ≤ xs.length) : (iL xs)[0]? = some (V.int (xs.getD 0 0)) := by cases xs with
  | nil => simp at h
  | cons a r => rfl
theorem iL_last {xs : List Int} (h : 1 ≤ xs.length) : (iL xs)[(iL xs).length - 1]? = some (V.int (xs.getLastD 0)) := by
  rw [len_iL]
  refine iL_at ?_
  rw [List.getLastD_eq_getLast?, List.getLast?_eq_getElem?, List.getElem?_eq_getElem (by omega)]
  rfl
theorem iL_getD {xs : List Int} {i : Nat} (h : i < xs.length) : (iL xs)[i]? = some (V.int (xs.getD i 0)) := iL_at (by rw [List.getD_eq_getElem?_getD, List.getElem?_eq_getElem h]; rfl)
theorem tail0 {xs : List Int} : xs.tail.getD 0 0 = xs.getD 1 0 := by cases xs <;> rfl
theorem seq0 {n : Nat} (h : 1 ≤ n) : seqIndex? 0 n = some 0 := by
  unfold seqIndex?
  simp
  omega
theorem ixN_nat {n i : Nat} (h : i < n) : ixN n (i : Int) = some i := by
  unfold ixN
  rw [if_pos (by omega), if_pos (by omega), Int.toNat_natCast]
def sp_Forest_moved (K : PySem.W.Frag) : Sp := fun vs H Q _ => ∃ (A : FT → Addr) (F : Fo) (above left right : Int) (tl : Bool) (u p1 p2 : Pg), vs = [.ref (A .fO), .int above, .int left, .int right, .bl tl] ∧ RepF K H A F ∧
  F.pages above = some u ∧ F.pages left = some p1 ∧ F.pages right = some p2 ∧ above ≠ left ∧ above ≠ right ∧ left ≠ right ∧ left ∈ u.kids ∧ u.kids.idxOf left < u.row.length ∧ p1.row.length ≤ 1000 ∧ p2.row.length ≤ 1000 ∧ p1.kids.length ≤ 1000 ∧ p2.kids.length ≤ 1000 ∧
  (if tl = true then 2 ≤ p2.row.length else 2 ≤ p1.row.length) ∧ (p1.kids ≠ [] → 1 ≤ p2.kids.length) ∧
  ∀ H', RepF K H' A (F.moved above left right tl) → Stp K H H' (footF F A) (footF (F.moved above left right tl) A) → Q .non H'
/-! ### sorted of a dict's int keys, any number of them -/
section
variable {X : Cx}
def rSortKeys : List V → Hp → VK → Prop := fun xs H Q => ∃ (a : Addr) (kvs : List (Key × V)) (ks : List Int), xs = [.ref a] ∧ Rd H a (.dK kvs) ∧
  kvs.map (·.1) = ks.map Sum.inl ∧ ∀ (ys : List Int) (p : Addr), ys.Perm ks → ys.Pairwise (· ≤ ·) → H p = none → Q (.ref p) (upd H p (.lst (iL ys)))
theorem call_sortedDA (calm : X.calm = true) : CallR X (.builtin "sorted") rSortKeys := by
  rintro pins sh σ H xs us Q J r ⟨a, kvs, ks, rfl, hd, hks, fin⟩
  obtain ⟨u, rfl, ru⟩ := vals1 r
  cases ru
  obtain ⟨big, noS, vs, rel, dd⟩ := dk_rd J.hok hd
  obtain ⟨ep, dat⟩ := dd.dictAt
  have same_keys : vs.map (·.1) = ks.map Sum.inl := rel.keys.symm.trans hks
  have nvs : vs.length = ks.length := by simpa using congrArg List.length same_keys
  have nkv : kvs.length = ks.length := by simpa using congrArg List.length hks
  have n16 : vs.length ≤ sizeLine := by rw [nvs, ← nkv]; exact big
  refine Calls.call_function_entry kind_sorted plain_sorted entry_sorted (args_sorted1 _) ?_
  unfold Builtin.«sorted»
  refine wpAny_bind (wpAny_pure ?_)
  have src := PySem.W.kdl_dict (prog := X.prog) (w := X.w) (knd := mixKind X.prog X.w) (kvs := vs) (ep := ep) noS
  refine wpAny_bind (PySem.W.kdu_collect (A := X.A.in1) src (J.ok.hd calm) dat n16 ?_)
  intro h1 tk got keeps its
  have ngot : got.toList.length = ks.length := by rw [Array.length_toList, its.1, nvs]
  have gotI : IntsAre got.toList ks := by
    refine ints_each ngot fun j v e => ?_
    obtain ⟨k, x, f1, f2⟩ := its.2 j v (by rw [← Array.getElem?_toList]; exact e)
    have f3 : (vs.map (·.1))[j]? = some k := by rw [List.getElem?_map, f1]; rfl
    rw [same_keys, List.getElem?_map, Option.map_eq_some_iff] at f3
    obtain ⟨y, f4, rfl⟩ := f3
    obtain ⟨i, t, q1, q2⟩ | ⟨z, t, q1, q2⟩ := keyIs_shape (show keyIs (Sum.inl y) v = true from f2)
    · injection q1 with q1
      exact ⟨y, t, f4, by rw [q2, q1]⟩
    · cases q1
  have J1 : Inv X pins σ H { sh with heap := h1, toks := tk } := J.kept keeps
  refine wpAny_bind (wpAny_newList ?_ (by rw [ngot, ← nkv]; exact big))
  have at1 : (h1.push (seqObj "list" got.toList.toArray 0)).get? h1.objs.size = some (seqObj "list" got.toList.toArray 0) := Heap.get?_push_size _ rfl
  show wpAny _ _ _ _ _ { sh with heap := h1.push (seqObj "list" got.toList.toArray 0), toks := tk }
  refine wpAny_bind (wpAny_holding (wpAny_call_entry slot_list_sort ⟨_, at1, rfl⟩ entry_list_sort ?_ (args_list_sort _)))
  refine SrtO.list_sort_ord (s := { sh with heap := h1.push (seqObj "list" got.toList.toArray 0), toks := tk }) SrtO.swo_int at1 (by rw [ngot, ← nkv]; exact big) (fun two => SrtO.ints_sortable gotI two) ?_
  intro out o1 o2
  obtain ⟨p1, p2, p3⟩ := SrtO.ints_out gotI o1 o2
  refine ⟨_, rfl, ?_⟩
  obtain ⟨e', at2⟩ := PyProof.Rows.sortedHeap_at (vs := got.toList) (out := out.toArray) at1
  have fits : (iL (out.map SrtO.iv)).length ≤ sizeLine := by
    rw [List.length_map, p2.length_eq, ← nkv]
    exact big
  have made : ObjOk X.prog X.w (upd H h1.objs.size (.lst (iL (out.map SrtO.iv)))) (PyProof.Rows.sortedHeap (h1.push (seqObj "list" got.toList.toArray 0)) h1.objs.size got.toList out.toArray) h1.objs.size (.lst (iL (out.map SrtO.iv))) :=
    ⟨fits, out, e', vals_of_ints p1, at2⟩
  refine wpAny_pure ⟨_, rfl, .ref h1.objs.size, _, J1.laid (t' := tk) (fun b u e => ?_) (Nat.le_refl _) made, rfl, fin _ _ p2 p3 (J1.hok.fresh (Nat.le_refl _))⟩
  have lt : b < h1.objs.size := Heap.lt_size e
  rw [PyProof.Rows.sortedHeap_old (Nat.ne_of_lt lt) (by rw [size_push']; exact Nat.lt_succ_of_lt lt)]
  exact Heap.get?_push_of_some _ e
end

theorem iL_eraseIdx {xs : List Int} {i : Nat} : (iL xs).eraseIdx i = iL (xs.eraseIdx i) := by
  induction xs generalizing i with
  | nil => rfl
  | cons a r ih => cases i with
    | zero => rfl
    | succ i => exact congrArg (List.cons (V.int a)) ih
theorem seqI {n i : Nat} (h : i < n) : seqIndex? (i : Int) n = some i := by
  rw [seqIndex_of (by omega) (by omega)]
  rfl
def sp_Forest_joined (K : PySem.W.Frag) : Sp := fun vs H Q _ => ∃ (A : FT → Addr) (F : Fo) (above left right : Int) (u p1 p2 : Pg), vs = [.ref (A .fO), .int above, .int left, .int right] ∧ RepF K H A F ∧
  F.pages above = some u ∧ F.pages left = some p1 ∧ F.pages right = some p2 ∧ above ≠ left ∧ above ≠ right ∧ left ≠ right ∧ left ∈ u.kids ∧ u.kids.idxOf left < u.row.length ∧ u.kids.idxOf left + 1 < u.kids.length ∧
  p1.row.length ≤ 1000 ∧ p2.row.length ≤ 1000 ∧ p1.kids.length ≤ 1000 ∧ p2.kids.length ≤ 1000 ∧ u.row.length ≤ 1000 ∧ u.kids.length ≤ 1000 ∧
  ∀ H' A', RepF K H' A' (F.joined above left right) → A' .fO = A .fO → A' .pd = A .pd → (∀ m, A' (.pO m) = A (.pO m)) → Stp K H H' (footF F A) (footF (F.joined above left right) A') → Q (.bl (decide (u.row.length = 1))) H'
/-! ### the forest's rows -/
theorem sorted_ext : ∀ {xs ys : List Int}, xs.Pairwise (· < ·) → ys.Pairwise (· < ·) → (∀ a, a ∈ xs ↔ a ∈ ys) → xs = ys
  | [], [], _, _, _ => rfl
  | [], y :: r, _, _, h => by have := (h y).mpr (by simp); simp at this
  | x :: r, [], _, _, h => by have := (h x).mp (by simp); simp at this
  | x :: xs, y :: ys, hx, hy, h => by
    rw [List.pairwise_cons] at hx hy
    have e : x = y := by
      have h1 := (h x).mp (by simp)
      have h2 := (h y).mpr (by simp)
      rcases List.mem_cons.mp h1 with h1 | h1
      · exact h1
      · rcases List.mem_cons.mp h2 with h2 | h2
        · exact h2.symm
        · have := hx.1 y h2
          have := hy.1 x h1
          omega
    subst e
    congr 1
    refine sorted_ext hx.2 hy.2 fun a => ⟨fun ha => ?_, fun ha => ?_⟩
    · rcases List.mem_cons.mp ((h a).mp (by simp [ha])) with e | e
      · have := hx.1 a ha; omega
      · exact e
    · rcases List.mem_cons.mp ((h a).mpr (by simp [ha])) with e | e
      · have := hy.1 a ha; omega
      · exact e
theorem lt_of_le_nodup : ∀ {xs : List Int}, xs.Pairwise (· ≤ ·) → xs.Nodup → xs.Pairwise (· < ·)
  | [], _, _ => .nil
  | x :: r, h, n => by
    rw [List.pairwise_cons] at h
    rw [List.nodup_cons] at n
    refine List.pairwise_cons.mpr ⟨fun y hy => ?_, lt_of_le_nodup h.2 n.2⟩
    have := h.1 y hy
    have : x ≠ y := fun e => n.1 (e ▸ hy)
    omega
theorem dom_sorted {F : Fo} : F.dom.Pairwise (· < ·) := by
  unfold Fo.dom
  refine List.Pairwise.filter _ (List.pairwise_map.mpr (List.Pairwise.imp ?_ List.pairwise_lt_range))
  intro a b h
  show (a : Int) < (b : Int)
  omega
theorem mem_dom {F : Fo} (hd : ∀ n p, F.pages n = some p → 0 ≤ n ∧ n ≤ F.last) {n : Int} : n ∈ F.dom ↔ (F.pages n).isSome = true := by
  unfold Fo.dom
  rw [List.mem_filter, List.mem_map]
  constructor
  · exact fun h => h.2
  · intro h
    obtain ⟨p, hp⟩ := Option.isSome_iff_exists.mp h
    have := hd n p hp
    exact ⟨⟨n.toNat, List.mem_range.mpr (by omega), by show ((n.toNat : Nat) : Int) = n; omega⟩, h⟩
def keyI : Key → Int
  | .inl n => n
  | .inr _ => 0
theorem DOk.keys {kvs : List (Key × V)} {f : Int → Option V} (d : DOk kvs f) : kvs.map (·.1) = (kvs.map fun p => keyI p.1).map Sum.inl := by
  rw [List.map_map]
  refine List.map_congr_left fun p hp => ?_
  obtain ⟨n, e⟩ := d.int p hp
  show p.1 = Sum.inl (keyI p.1)
  rw [e]
  rfl
theorem DOk.mem {kvs : List (Key × V)} {f : Int → Option V} (d : DOk kvs f) (n : Int) : n ∈ (kvs.map fun p => keyI p.1) ↔ (f n).isSome = true := by
  rw [← d.at_ n, ← valV_any (Sum.inl n) kvs, List.any_eq_true, List.mem_map]
  constructor
  · rintro ⟨p, hp, e⟩
    obtain ⟨m, e2⟩ := d.int p hp
    rw [e2] at e
    have e3 : m = n := e
    exact ⟨p, hp, by rw [e2, e3]; simp⟩
  · rintro ⟨p, hp, e⟩
    have e2 : p.1 = Sum.inl n := of_decide_eq_true e
    exact ⟨p, hp, by rw [e2]; rfl⟩
theorem DOk.nodup {kvs : List (Key × V)} {f : Int → Option V} (d : DOk kvs f) : (kvs.map fun p => keyI p.1).Nodup := by
  have h := d.nd
  rw [d.keys] at h
  exact (List.pairwise_map.mp h).imp fun {a b} q e => q (by rw [e])
theorem sorted_dom {F : Fo} {kvs : List (Key × V)} {f : Int → Option V} (d : DOk kvs f) (hf : ∀ n, (f n).isSome = (F.pages n).isSome) (hd : ∀ n p, F.pages n = some p → 0 ≤ n ∧ n ≤ F.last) {ys : List Int}
    (h1 : ys.Perm (kvs.map fun p => keyI p.1)) (h2 : ys.Pairwise (· ≤ ·)) : ys = F.dom :=
  sorted_ext (lt_of_le_nodup h2 (h1.symm.nodup d.nodup)) dom_sorted fun a => by rw [h1.mem_iff, d.mem, hf, mem_dom hd]
def RowAt (H : Hp) (a : Addr) (r : Int × Pg) : Prop := ∃ x y, H a = some (.tup [.int r.1, .ref x, .ref y, optV r.2.nxt]) ∧ H x = some (.tup (iL r.2.row)) ∧ H y = some (.tup (iL r.2.kids))
theorem RowAt.keep {H H' : Hp} {a : Addr} {r : Int × Pg} (h : RowAt H a r) (k : ∀ b xs, H b = some (.tup xs) → H' b = some (.tup xs)) : RowAt H' a r := by
  obtain ⟨x, y, h1, h2, h3⟩ := h
  exact ⟨x, y, k _ _ h1, k _ _ h2, k _ _ h3⟩
theorem paired_imp {α β : Type} {P Q : α → β → Prop} : ∀ {xs : List α} {ys : List β}, Paired P xs ys → (∀ a b, P a b → Q a b) → Paired Q xs ys
  | _, _, .nil, _ => .nil
  | _, _, .cons h t, f => .cons (f _ _ h) (paired_imp t f)
theorem paired_snoc {α β : Type} {P : α → β → Prop} : ∀ {xs : List α} {ys : List β} {a : α} {b : β}, Paired P xs ys → P a b → Paired P (xs ++ [a]) (ys ++ [b])
  | _, _, _, _, .nil, h => .cons h .nil
  | _, _, _, _, .cons r t, h => .cons r (paired_snoc t h)
theorem take_snoc {α : Type} {xs : List α} {i : Nat} {x : α} (h : xs[i]? = some x) : xs.take (i + 1) = xs.take i ++ [x] := by rw [List.take_succ, h]; rfl
def sp_Forest_rows (K : PySem.W.Frag) : Sp := fun vs H Q _ => ∃ (A : FT → Addr) (F : Fo), vs = [.ref (A .fO)] ∧ RepF K H A F ∧ (∀ n p, F.pages n = some p → 0 ≤ n ∧ n ≤ F.last) ∧ F.last ≤ 900000 ∧
  ∀ H' t ts, Same H H' → H t = none → H' t = some (.lst (ts.map V.ref)) → Paired (RowAt H') ts F.rows → (∀ a ∈ ts, H a = none) → Q (.ref t) H'
/-! ### how a machine stands in the heap -/
inductive MT where
  | mO | mD | lk | en | hs | hO (i : Nat) | hD (i : Nat) | hP (i : Nat) | hH (i : Nat) | hS (i : Nat) | aL (i j : Nat)
  deriving DecidableEq
structure Lay where
  f : FT → Addr
  m : MT → Addr
def ruleS (left : Bool) : Str := if left = true then "left first" else "careless"
def fldM (M : Mc) (A : Lay) : List (Str × V) := [("rule", .str (ruleS M.left)), ("forest", .ref (A.f .fO)), ("locks", .ref (A.m .lk)), ("ends", .ref (A.m .en)), ("hands", .ref (A.m .hs))]
def fldH (x : Ha) (p h s : Addr) : List (Str × V) := [("program", .ref p), ("at", .int x.at_), ("held", .ref h), ("want", optV x.want), ("again", optV x.again), ("said", .ref s)]
def ansV (A : MT → Addr) (i j : Nat) : Ans → V
  | .b x => .bl x
  | .l _ => .ref (A (.aL i j))
def saidL (A : MT → Addr) (i : Nat) (l : List Ans) : List V := l.mapIdx fun j a => ansV A i j a
def objM (K : PySem.W.Frag) (M : Mc) (A : Lay) : MT → Option HO
  | .mO => some (.ins (He.ga K "Machine") (A.m .mD) (fldM M A))
  | .mD => some (.own (A.m .mO))
  | .lk => none
  | .en => none
  | .hs => some (.lst ((List.range M.n).map fun i => V.ref (A.m (.hO i))))
  | .hO i => if i < M.n then some (.ins (He.ga K "Hand") (A.m (.hD i)) (fldH (M.ha i) (A.m (.hP i)) (A.m (.hH i)) (A.m (.hS i)))) else none
  | .hD i => if i < M.n then some (.own (A.m (.hO i))) else none
  | .hP _ => none
  | .hH i => if i < M.n then some (.lst (iL (M.ha i).held)) else none
  | .hS i => if i < M.n then some (.lst (saidL A.m i (M.ha i).said)) else none
  | .aL i j => if i < M.n then (match (M.ha i).said[j]? with
    | some (.l xs) => some (.lst (iL xs))
    | _ => none) else none
def liveM (M : Mc) : MT → Prop
  | .hO i => i < M.n
  | .hD i => i < M.n
  | .hP i => i < M.n
  | .hH i => i < M.n
  | .hS i => i < M.n
  | .aL i j => i < M.n ∧ ∃ xs, (M.ha i).said[j]? = some (.l xs)
  | _ => True
def deedV : Deed → List V
  | .put k => [.str "put", .int k]
  | .take k => [.str "take", .int k]
  | .ask k => [.str "ask", .int k]
  | .walk lo hi => [.str "walk", .int lo, .int hi]
def DeedAt (K : PySem.W.Frag) (H : Hp) (a : Addr) (d : Deed) : Prop := SqT K H a (deedV d)
def EndAt (H : Hp) (a : Addr) (e : Nat × Nat) : Prop := H a = some (.tup [.int e.1, .int e.2])
structure Rep (K : PySem.W.Frag) (H : Hp) (A : Lay) (M : Mc) : Prop where
  fo : RepF K H A.f M.fo
  obj : ∀ t o, objM K M A t = some o → H (A.m t) = some o
  lk : ∃ kvs, H (A.m .lk) = some (.dK kvs) ∧ DOk kvs (fun n => (M.locks n).map fun h => V.int (h : Nat))
  en : ∃ es : List Addr, H (A.m .en) = some (.lst (es.map V.ref)) ∧ Paired (EndAt H) es M.ends
  pr : ∀ i, i < M.n → ∃ ds : List Addr, H (A.m (.hP i)) = some (.lst (ds.map V.ref)) ∧ Paired (DeedAt K H) ds (M.ha i).prog
  inj : ∀ t u, liveM M t → liveM M u → A.m t = A.m u → t = u
  sep : ∀ t u, liveM M t → liveF M.fo u → A.m t ≠ A.f u
def foot (M : Mc) (A : Lay) (b : Addr) : Prop := (∃ t, liveM M t ∧ A.m t = b) ∨ footF M.fo A.f b
section
variable {K : PySem.W.Frag} {H H' : Hp} {A : Lay} {M M' : Mc}
theorem objM_live {t : MT} {o : HO} (h : objM K M A t = some o) : liveM M t := by
  cases t with
  | aL i j =>
    simp only [objM] at h
    split at h
    · split at h
      · rename_i hi _ xs e
        exact ⟨hi, xs, e⟩
      · cases h
    · cases h
  | _ => first
    | trivial
    | cases h
    | (simp only [objM] at h; split at h <;> first | assumption | cases h)
theorem objM_own {t : MT} {o : HO} (h : objM K M A t = some o) : OwnK o := by
  cases t with
  | aL i j =>
    simp only [objM] at h
    split at h
    · split at h
      · cases h; trivial
      · cases h
    · cases h
  | lk => cases h
  | en => cases h
  | hP i => cases h
  | _ => first
    | (cases h; trivial)
    | (simp only [objM] at h; split at h <;> (cases h; try trivial))
theorem live_objM {t : MT} (h : liveM M t) (n1 : t ≠ .lk) (n2 : t ≠ .en) (n3 : ∀ i, t ≠ .hP i) : ∃ o, objM K M A t = some o := by
  cases t with
  | aL i j =>
    obtain ⟨hi, xs, e⟩ := h
    exact ⟨.lst (iL xs), by simp only [objM, if_pos hi, e]⟩
  | lk => exact absurd rfl n1
  | en => exact absurd rfl n2
  | hP i => exact absurd rfl (n3 i)
  | _ => first
    | exact ⟨_, rfl⟩
    | exact ⟨_, if_pos h⟩
theorem Rep.there (R : Rep K H A M) {t : MT} (h : liveM M t) : ∃ o, H (A.m t) = some o ∧ OwnK o := by
  cases t with
  | lk => obtain ⟨kvs, e, _⟩ := R.lk; exact ⟨_, e, trivial⟩
  | en => obtain ⟨es, e, _⟩ := R.en; exact ⟨_, e, trivial⟩
  | hP i => obtain ⟨ds, e, _⟩ := R.pr i h; exact ⟨_, e, trivial⟩
  | _ =>
    obtain ⟨o, ho⟩ := live_objM (K := K) (A := A) h (by simp) (by simp) (by simp)
    exact ⟨o, R.obj _ o ho, objM_own ho⟩
theorem Rep.owned (R : Rep K H A M) {b : Addr} (h : foot M A b) : ∃ o, H b = some o ∧ OwnK o := by
  rcases h with ⟨t, l, e⟩ | ⟨t, l, e⟩
  · rw [← e]; exact R.there l
  · rw [← e]; exact R.fo.there l
theorem Rep.notfree (R : Rep K H A M) {p : Addr} (hp : H p = none) : ¬ foot M A p := fun h => by
  obtain ⟨o, ho, _⟩ := R.owned h
  rw [hp] at ho; cases ho
theorem Rep.nottup (R : Rep K H A M) {p : Addr} {xs : List V} (hp : H p = some (.tup xs)) : ¬ foot M A p := fun h => by
  obtain ⟨o, ho, k⟩ := R.owned h
  rw [hp] at ho
  exact k.tup xs (Option.some.inj ho).symm
theorem Rep.notfrz (R : Rep K H A M) {p : Addr} {b : Obj} {u : HO} (hp : H p = some (.frz b u)) : ¬ foot M A p := fun h => by
  obtain ⟨o, ho, k⟩ := R.owned h
  rw [hp] at ho
  exact k.frz b u (Option.some.inj ho).symm
/-- tuples and locked things stand through a step -/
theorem Rep.tup (R : Rep K H A M) {f' : Addr → Prop} (S : Stp K H H' (foot M A) f') {b : Addr} {xs : List V} (h : H b = some (.tup xs)) : H' b = some (.tup xs) :=
  S.fr b _ h (R.nottup h) fun ps z => by cases z
theorem Rep.sqT (R : Rep K H A M) {f' : Addr → Prop} (S : Stp K H H' (foot M A) f') {b : Addr} {xs : List V} (h : SqT K H b xs) : SqT K H' b xs := by
  rcases h with (h | ⟨o, h⟩) | h
  · exact .inl (.inl (R.tup S h))
  · exact .inl (.inr ⟨o, S.fr b _ h (R.notfrz h) fun ps z => by cases z⟩)
  · exact .inr h
/-- the same machine over a heap that keeps what it owns, the tuples and what is locked -/
theorem Rep.frame (R : Rep K H A M) (h : ∀ b, foot M A b → H' b = H b) (ht : ∀ b xs, H b = some (.tup xs) → H' b = some (.tup xs)) (hz : ∀ b o u, H b = some (.frz o u) → H' b = some (.frz o u)) : Rep K H' A M where
  fo := R.fo.frame fun b hb => h b (.inr hb)
  obj := fun t o e => (h _ (.inl ⟨t, objM_live e, rfl⟩)).trans (R.obj t o e)
  lk := by
    obtain ⟨kvs, e, d⟩ := R.lk
    exact ⟨kvs, (h _ (.inl ⟨.lk, trivial, rfl⟩)).trans e, d⟩
  en := by
    obtain ⟨es, e, d⟩ := R.en
    exact ⟨es, (h _ (.inl ⟨.en, trivial, rfl⟩)).trans e, paired_imp d fun a b x => ht _ _ x⟩
  pr := fun i hi => by
    obtain ⟨ds, e, d⟩ := R.pr i hi
    refine ⟨ds, (h _ (.inl ⟨.hP i, hi, rfl⟩)).trans e, paired_imp d fun a b x => ?_⟩
    rcases x with (x | ⟨o, x⟩) | x
    · exact .inl (.inl (ht _ _ x))
    · exact .inl (.inr ⟨o, hz _ _ _ x⟩)
    · exact .inr x
  inj := R.inj
  sep := R.sep
theorem Rep.same (R : Rep K H A M) (s : Same H H') : Rep K H' A M := R.frame (fun b hb => by
  obtain ⟨o, ho, _⟩ := R.owned hb
  rw [s b o ho, ho]) (fun b xs e => s _ _ e) fun b o u e => s _ _ e
/-- a store at one of the machine's own things -/
theorem Rep.store {t0 : MT} {o0 : HO} (R : Rep K H A M) (l0 : liveM M t0) (n1 : t0 ≠ .lk) (n2 : t0 ≠ .en) (n3 : ∀ i, t0 ≠ .hP i) (hF : M'.fo = M.fo) (hn : M'.n = M.n) (hl : M'.locks = M.locks) (he : M'.ends = M.ends) (hp : ∀ i, (M'.ha i).prog = (M.ha i).prog)
    (live : ∀ t, liveM M' t → liveM M t) (h0 : objM K M' A t0 = some o0) (same : ∀ t, t ≠ t0 → objM K M' A t = objM K M A t) : Rep K (upd H (A.m t0) o0) A M' := by
  have ne : ∀ t, liveM M t → t ≠ t0 → A.m t ≠ A.m t0 := fun t l n e => n (R.inj t t0 l l0 e)
  obtain ⟨u0, hu0, ok0⟩ := R.there l0
  have ntu : ∀ b xs, H b = some (.tup xs) → b ≠ A.m t0 := fun b xs e z => by
    rw [z, hu0] at e
    exact ok0.tup xs (Option.some.inj e)
  have nfr : ∀ b o u, H b = some (.frz o u) → b ≠ A.m t0 := fun b o u e z => by
    rw [z, hu0] at e
    exact ok0.frz o u (Option.some.inj e)
  refine ⟨?_, fun t o e => ?_, ?_, ?_, fun i hi => ?_, fun t u a b => R.inj t u (live t a) (live u b), fun t u a b => R.sep t u (live t a) (by rw [← hF]; exact b)⟩
  · rw [hF]
    exact R.fo.frame fun b ⟨t, l, z⟩ => upd_ne fun w => R.sep t0 t l0 l (w.symm.trans z.symm)
  · by_cases h : t = t0
    · subst h
      rw [h0] at e
      rw [upd_same]
      exact e
    · have e2 := (same t h).symm.trans e
      rw [upd_ne (ne t (objM_live e2) h)]
      exact R.obj t o e2
  · obtain ⟨kvs, e, d⟩ := R.lk
    rw [hl]
    exact ⟨kvs, (upd_ne (ne .lk trivial (Ne.symm n1))).trans e, d⟩
  · obtain ⟨es, e, d⟩ := R.en
    rw [he]
    exact ⟨es, (upd_ne (ne .en trivial (Ne.symm n2))).trans e, paired_imp d fun a b x => (upd_ne (ntu _ _ x)).trans x⟩
  · rw [hn] at hi
    obtain ⟨ds, e, d⟩ := R.pr i hi
    rw [hp]
    refine ⟨ds, (upd_ne (ne (.hP i) hi (Ne.symm (n3 i)))).trans e, paired_imp d fun a b x => ?_⟩
    rcases x with (x | ⟨o, x⟩) | x
    · exact .inl (.inl ((upd_ne (ntu _ _ x)).trans x))
    · exact .inl (.inr ⟨o, (upd_ne (nfr _ _ _ x)).trans x⟩)
    · exact .inr x
theorem foot_to (hF : M'.fo = M.fo) (live : ∀ t, liveM M' t → liveM M t) {b : Addr} (h : foot M' A b) : foot M A b := by
  rcases h with ⟨t, l, e⟩ | h
  · exact .inl ⟨t, live t l, e⟩
  · rw [hF] at h; exact .inr h
/-- a forest's step under a machine -/
theorem Rep.forest {A' : FT → Addr} {F' : Fo} (R : Rep K H A M) (RF : RepF K H' A' F') (S : Stp K H H' (footF M.fo A.f) (footF F' A')) (e0 : A' .fO = A.f .fO) : Rep K H' ⟨A', A.m⟩ { M with fo := F' } ∧ Stp K H H' (foot M A) (foot { M with fo := F' } ⟨A', A.m⟩) := by
  have nf : ∀ t, liveM M t → ¬ footF M.fo A.f (A.m t) := fun t l ⟨u, lu, z⟩ => R.sep t u l lu z.symm
  have old : ∀ t o, liveM M t → H (A.m t) = some o → OwnK o → H' (A.m t) = some o := fun t o l e ok => S.fr _ o e (nf t l) fun ps z => ok.tbl ps z
  have nt : ∀ b xs, H b = some (.tup xs) → H' b = some (.tup xs) := fun b xs e => S.fr b _ e (fun z => R.nottup e (.inr z)) fun ps z => by cases z
  have nz : ∀ b o u, H b = some (.frz o u) → H' b = some (.frz o u) := fun b o u e => S.fr b _ e (fun z => R.notfrz e (.inr z)) fun ps z => by cases z
  have lv : ∀ t, liveM { M with fo := F' } t ↔ liveM M t := fun t => by cases t <;> exact Iff.rfl
  refine ⟨⟨RF, fun t o e => ?_, ?_, ?_, fun i hi => ?_, fun t u a b => R.inj t u ((lv t).mp a) ((lv u).mp b), fun t u a b z => ?_⟩, ⟨fun b o e n1 n2 => S.fr b o e (fun z => n1 (.inr z)) n2, S.dm, fun b hb => ?_, S.ta⟩⟩
  · have e2 : objM K M A t = some o := by
      rw [← e]
      cases t with
      | mO => simp only [objM, fldM, e0]
      | _ => rfl
    exact old t o (objM_live e2) (R.obj t o e2) (objM_own e2)
  · obtain ⟨kvs, e, d⟩ := R.lk
    exact ⟨kvs, old .lk _ trivial e trivial, d⟩
  · obtain ⟨es, e, d⟩ := R.en
    exact ⟨es, old .en _ trivial e trivial, paired_imp d fun a b x => nt _ _ x⟩
  · obtain ⟨ds, e, d⟩ := R.pr i hi
    refine ⟨ds, old (.hP i) _ hi e trivial, paired_imp d fun a b x => ?_⟩
    rcases x with (x | ⟨o, x⟩) | x
    · exact .inl (.inl (nt _ _ x))
    · exact .inl (.inr ⟨o, nz _ _ _ x⟩)
    · exact .inr x
  · have z' : A.m t = A' u := z
    rcases S.gr (A.m t) ⟨u, b, z'.symm⟩ with h | h
    · exact nf t ((lv t).mp a) h
    · obtain ⟨o, ho, _⟩ := R.there ((lv t).mp a)
      rw [h] at ho; cases ho
  · rcases hb with ⟨t, l, z⟩ | hb
    · exact .inl (.inl ⟨t, (lv t).mp l, z⟩)
    · rcases S.gr b hb with h | h
      · exact .inl (.inr h)
      · exact .inr h
end

/-! ### stores to a machine -/
theorem nodup_len : ∀ (N : Nat) {xs : List Int}, xs.Nodup → (∀ x ∈ xs, 0 ≤ x ∧ x < N) → xs.length ≤ N
  | 0, [], _, _ => Nat.le_refl _
  | 0, x :: r, _, h => by have := h x (by simp); omega
  | N + 1, xs, n, h => by
    by_cases hN : (N : Int) ∈ xs
    · have h1 := nodup_len N (xs := xs.erase (N : Int)) (n.erase _) fun x hx => by
        have h2 := h x (List.mem_of_mem_erase hx)
        have h3 : x ≠ (N : Int) := fun e => by
          rw [e] at hx
          exact (List.Nodup.not_mem_erase n) hx
        omega
      rw [List.length_erase_of_mem hN] at h1
      omega
    · have h1 := nodup_len N (xs := xs) n fun x hx => by
        have h2 := h x hx
        have h3 : x ≠ (N : Int) := fun e => hN (e ▸ hx)
        omega
      omega
theorem DOk.len {kvs : List (Key × V)} {f : Int → Option V} (d : DOk kvs f) {N : Nat} (h : ∀ p, (f p).isSome = true → 0 ≤ p ∧ p < N) : kvs.length ≤ N := by
  have := nodup_len N d.nodup fun x hx => h x ((d.mem x).mp hx)
  rwa [List.length_map] at this
section
variable {K : PySem.W.Frag} {H H' : Hp} {A : Lay} {M M' : Mc} {i : Nat}
theorem Rep.mO (R : Rep K H A M) : H (A.m .mO) = some (.ins (He.ga K "Machine") (A.m .mD) (fldM M A)) := R.obj .mO _ rfl
theorem Rep.hs (R : Rep K H A M) : H (A.m .hs) = some (.lst ((List.range M.n).map fun i => V.ref (A.m (.hO i)))) := R.obj .hs _ rfl
theorem Rep.hO (R : Rep K H A M) (hi : i < M.n) : H (A.m (.hO i)) = some (.ins (He.ga K "Hand") (A.m (.hD i)) (fldH (M.ha i) (A.m (.hP i)) (A.m (.hH i)) (A.m (.hS i)))) := R.obj (.hO i) _ (if_pos hi)
theorem Rep.hH (R : Rep K H A M) (hi : i < M.n) : H (A.m (.hH i)) = some (.lst (iL (M.ha i).held)) := R.obj (.hH i) _ (if_pos hi)
theorem Rep.hS (R : Rep K H A M) (hi : i < M.n) : H (A.m (.hS i)) = some (.lst (saidL A.m i (M.ha i).said)) := R.obj (.hS i) _ (if_pos hi)
theorem Rep.hand_at (R : Rep K H A M) (hi : i < M.n) : ((List.range M.n).map fun i => V.ref (A.m (.hO i)))[i]? = some (V.ref (A.m (.hO i))) := by
  rw [List.getElem?_map, List.getElem?_range hi]
  rfl
theorem Rep.deed (R : Rep K H A M) (hi : i < M.n) {d : Deed} (hd : (M.ha i).prog[(M.ha i).at_]? = some d) : ∃ (ds : List Addr) (a : Addr), H (A.m (.hP i)) = some (.lst (ds.map V.ref)) ∧ (ds.map V.ref)[(M.ha i).at_]? = some (V.ref a) ∧ DeedAt K H a d := by
  obtain ⟨ds, e, p⟩ := R.pr i hi
  have key : ∀ {xs : List Addr} {ys : List Deed} {j : Nat}, Paired (DeedAt K H) xs ys → ys[j]? = some d → ∃ a, xs[j]? = some a ∧ DeedAt K H a d := by
    intro xs ys j p
    induction p generalizing j with
    | nil => intro h; simp at h
    | cons r _ ih =>
      intro h
      cases j with
      | zero => simp at h; subst h; exact ⟨_, rfl, r⟩
      | succ j => simpa using ih (by simpa using h)
  obtain ⟨a, e1, e2⟩ := key p hd
  exact ⟨ds, a, e, by rw [List.getElem?_map, e1]; rfl, e2⟩
theorem Rep.proglen (R : Rep K H A M) (hi : i < M.n) : ∃ (ds : List Addr), H (A.m (.hP i)) = some (.lst (ds.map V.ref)) ∧ ds.length = (M.ha i).prog.length := by
  obtain ⟨ds, e, p⟩ := R.pr i hi
  exact ⟨ds, e, Paired.length p⟩
theorem setHa_this {x : Ha} : (M.setHa i x).ha i = x := if_pos rfl
theorem setHa_n {x : Ha} : (M.setHa i x).n = M.n := rfl
theorem setHa_ne {x : Ha} {j : Nat} (h : j ≠ i) : (M.setHa i x).ha j = M.ha j := if_neg h
/-- fields of a hand that are no lists -/
theorem Rep.handIn (R : Rep K H A M) (hi : i < M.n) (x : Ha) (h1 : x.prog = (M.ha i).prog) (h2 : x.held = (M.ha i).held) (h3 : x.said = (M.ha i).said) :
    Rep K (upd H (A.m (.hO i)) (.ins (He.ga K "Hand") (A.m (.hD i)) (fldH x (A.m (.hP i)) (A.m (.hH i)) (A.m (.hS i))))) A (M.setHa i x) ∧
    Stp K H (upd H (A.m (.hO i)) (.ins (He.ga K "Hand") (A.m (.hD i)) (fldH x (A.m (.hP i)) (A.m (.hH i)) (A.m (.hS i))))) (foot M A) (foot (M.setHa i x) A) := by
  have live : ∀ t, liveM (M.setHa i x) t → liveM M t := fun t l => by
    cases t with
    | aL j k =>
      obtain ⟨hj, xs, e⟩ := l
      refine ⟨hj, xs, ?_⟩
      by_cases hji : j = i
      · subst hji; rw [setHa_this, h3] at e; exact e
      · rw [setHa_ne hji] at e; exact e
    | _ => exact l
  refine ⟨R.store hi (by simp) (by simp) (by simp) rfl rfl rfl rfl (fun j => ?_) live ?_ fun t ht => ?_, (Stp.own (.inl ⟨.hO i, hi, rfl⟩) (R.hO hi) trivial).to fun b h => foot_to (M := M) (M' := M.setHa i x) rfl live h⟩
  · by_cases hj : j = i
    · rw [hj, setHa_this, h1]
    · rw [setHa_ne hj]
  · show (if i < M.n then _ else _) = _
    rw [if_pos hi, setHa_this]
  · cases t with
    | hO j =>
      have hj : j ≠ i := fun e => ht (by rw [e])
      simp only [objM, setHa_ne hj]; rfl
    | hH j =>
      by_cases hj : j = i
      · subst hj; simp only [objM, setHa_this, h2]; rfl
      · simp only [objM, setHa_ne hj]; rfl
    | hS j =>
      by_cases hj : j = i
      · subst hj; simp only [objM, setHa_this, h3]; rfl
      · simp only [objM, setHa_ne hj]; rfl
    | aL j k =>
      by_cases hj : j = i
      · subst hj; simp only [objM, setHa_this, h3]; rfl
      · simp only [objM, setHa_ne hj]; rfl
    | _ => rfl
/-- what a hand has locked -/
theorem Rep.heldIn (R : Rep K H A M) (hi : i < M.n) (l : List Int) : Rep K (upd H (A.m (.hH i)) (.lst (iL l))) A (M.hold i l) ∧ Stp K H (upd H (A.m (.hH i)) (.lst (iL l))) (foot M A) (foot (M.hold i l) A) := by
  have live : ∀ t, liveM (M.hold i l) t → liveM M t := fun t z => by
    cases t with
    | aL j k =>
      obtain ⟨hj, xs, e⟩ := z
      refine ⟨hj, xs, ?_⟩
      by_cases hji : j = i
      · subst hji; unfold Mc.hold at e; rw [setHa_this] at e; exact e
      · unfold Mc.hold at e; rw [setHa_ne hji] at e; exact e
    | _ => exact z
  refine ⟨R.store (t0 := .hH i) hi (by simp) (by simp) (by simp) rfl rfl rfl rfl (fun j => ?_) live ?_ fun t ht => ?_, (Stp.own (.inl ⟨.hH i, hi, rfl⟩) (R.hH hi) trivial).to fun b h => foot_to (M := M) (M' := M.hold i l) rfl live h⟩
  · by_cases hj : j = i
    · rw [hj]; unfold Mc.hold; rw [setHa_this]
    · unfold Mc.hold; rw [setHa_ne hj]
  · show (if i < M.n then _ else _) = _
    unfold Mc.hold
    rw [if_pos hi, setHa_this]
  · unfold Mc.hold
    cases t with
    | hO j =>
      by_cases hj : j = i
      · subst hj; simp only [objM, setHa_this, fldH]; rfl
      · simp only [objM, setHa_ne hj]; rfl
    | hH j =>
      have hj : j ≠ i := fun e => ht (by rw [e])
      simp only [objM, setHa_ne hj]; rfl
    | hS j =>
      by_cases hj : j = i
      · subst hj; simp only [objM, setHa_this]; rfl
      · simp only [objM, setHa_ne hj]; rfl
    | aL j k =>
      by_cases hj : j = i
      · subst hj; simp only [objM, setHa_this]; rfl
      · simp only [objM, setHa_ne hj]; rfl
    | _ => rfl
/-- the locks -/
theorem Rep.lockTo (R : Rep K H A M) {kvs' : List (Key × V)} {g : Int → Option Nat} (d : DOk kvs' (fun n => (g n).map fun h => V.int (h : Nat))) :
    Rep K (upd H (A.m .lk) (.dK kvs')) A { M with locks := g } ∧ Stp K H (upd H (A.m .lk) (.dK kvs')) (foot M A) (foot { M with locks := g } A) := by
  obtain ⟨kvs, e0, _⟩ := R.lk
  have ne : ∀ t, liveM M t → t ≠ .lk → A.m t ≠ A.m .lk := fun t l n e => n (R.inj t .lk l trivial e)
  have nt : ∀ b xs, H b = some (.tup xs) → b ≠ A.m .lk := fun b xs e z => by rw [z, e0] at e; cases e
  have nz : ∀ b o u, H b = some (.frz o u) → b ≠ A.m .lk := fun b o u e z => by rw [z, e0] at e; cases e
  have lv : ∀ t, liveM { M with locks := g } t ↔ liveM M t := fun t => by cases t <;> exact Iff.rfl
  refine ⟨⟨R.fo.frame fun b ⟨t, l, z⟩ => upd_ne fun w => R.sep .lk t trivial l (w.symm.trans z.symm), fun t o e => ?_, ⟨kvs', upd_same, d⟩, ?_, fun i hi => ?_, fun t u a b => R.inj t u ((lv t).mp a) ((lv u).mp b), fun t u a b => R.sep t u ((lv t).mp a) b⟩,
    (Stp.own (.inl ⟨.lk, trivial, rfl⟩) e0 trivial).to fun b h => foot_to rfl (fun t => (lv t).mp) h⟩
  · have e2 : objM K M A t = some o := by rw [← e]; cases t <;> rfl
    have n0 : t ≠ .lk := fun z => by rw [z] at e2; cases e2
    exact (upd_ne (ne t (objM_live e2) n0)).trans (R.obj t o e2)
  · obtain ⟨es, e, q⟩ := R.en
    exact ⟨es, (upd_ne (ne .en trivial (by simp))).trans e, paired_imp q fun a b x => (upd_ne (nt _ _ x)).trans x⟩
  · obtain ⟨ds, e, q⟩ := R.pr i hi
    refine ⟨ds, (upd_ne (ne (.hP i) hi (by simp))).trans e, paired_imp q fun a b x => ?_⟩
    rcases x with (x | ⟨o, x⟩) | x
    · exact .inl (.inl ((upd_ne (nt _ _ x)).trans x))
    · exact .inl (.inr ⟨o, (upd_ne (nz _ _ _ x)).trans x⟩)
    · exact .inr x
theorem Rep.lockIn (R : Rep K H A M) (p : Int) (h : Nat) : ∃ kvs : List (Key × V), H (A.m .lk) = some (.dK kvs) ∧ DOk kvs (fun n => (M.locks n).map fun h => V.int (h : Nat)) ∧
    Rep K (upd H (A.m .lk) (.dK (putK kvs (Sum.inl p) (.int h)))) A (M.lockP p h) ∧ Stp K H (upd H (A.m .lk) (.dK (putK kvs (Sum.inl p) (.int h)))) (foot M A) (foot (M.lockP p h) A) := by
  obtain ⟨kvs, e, d⟩ := R.lk
  exact ⟨kvs, e, d, R.lockTo (g := fun x => if x = p then some h else M.locks x) ((d.put p (.int h)).congr fun n => by
    by_cases hn : n = p
    · rw [if_pos hn, if_pos hn]; rfl
    · rw [if_neg hn, if_neg hn])⟩
theorem Rep.freeIn (R : Rep K H A M) (p : Int) : ∃ kvs : List (Key × V), H (A.m .lk) = some (.dK kvs) ∧ DOk kvs (fun n => (M.locks n).map fun h => V.int (h : Nat)) ∧
    Rep K (upd H (A.m .lk) (.dK (dropK kvs (Sum.inl p)))) A (M.freeP p) ∧ Stp K H (upd H (A.m .lk) (.dK (dropK kvs (Sum.inl p)))) (foot M A) (foot (M.freeP p) A) := by
  obtain ⟨kvs, e, d⟩ := R.lk
  exact ⟨kvs, e, d, R.lockTo (g := fun x => if x = p then none else M.locks x) ((d.drop p).congr fun n => by
    by_cases hn : n = p
    · rw [if_pos hn, if_pos hn]; rfl
    · rw [if_neg hn, if_neg hn])⟩
/-- the order of the ends -/
theorem Rep.endIn (R : Rep K H A M) {t : Addr} {e : Nat × Nat} (ht : EndAt H t e) : ∃ es : List Addr, H (A.m .en) = some (.lst (es.map V.ref)) ∧ es.length = M.ends.length ∧
    Rep K (upd H (A.m .en) (.lst (es.map V.ref ++ [V.ref t]))) A { M with ends := M.ends ++ [e] } ∧ Stp K H (upd H (A.m .en) (.lst (es.map V.ref ++ [V.ref t]))) (foot M A) (foot { M with ends := M.ends ++ [e] } A) := by
  obtain ⟨es, e0, q⟩ := R.en
  have ne : ∀ t, liveM M t → t ≠ .en → A.m t ≠ A.m .en := fun t l n e => n (R.inj t .en l trivial e)
  have nt : ∀ b xs, H b = some (.tup xs) → b ≠ A.m .en := fun b xs e z => by rw [z, e0] at e; cases e
  have nz : ∀ b o u, H b = some (.frz o u) → b ≠ A.m .en := fun b o u e z => by rw [z, e0] at e; cases e
  have lv : ∀ t, liveM { M with ends := M.ends ++ [e] } t ↔ liveM M t := fun t => by cases t <;> exact Iff.rfl
  refine ⟨es, e0, Paired.length q, ⟨R.fo.frame fun b ⟨t, l, z⟩ => upd_ne fun w => R.sep .en t trivial l (w.symm.trans z.symm), fun t o e => ?_, ?_, ?_, fun i hi => ?_, fun t u a b => R.inj t u ((lv t).mp a) ((lv u).mp b), fun t u a b => R.sep t u ((lv t).mp a) b⟩,
    (Stp.own (.inl ⟨.en, trivial, rfl⟩) e0 trivial).to fun b h => foot_to rfl (fun t => (lv t).mp) h⟩
  · have e2 : objM K M A t = some o := by rw [← e]; cases t <;> rfl
    have n0 : t ≠ .en := fun z => by rw [z] at e2; cases e2
    exact (upd_ne (ne t (objM_live e2) n0)).trans (R.obj t o e2)
  · obtain ⟨kvs, e, d⟩ := R.lk
    exact ⟨kvs, (upd_ne (ne .lk trivial (by simp))).trans e, d⟩
  · refine ⟨es ++ [t], by rw [upd_same]; simp, paired_snoc (paired_imp q fun a b x => (upd_ne (nt _ _ x)).trans x) ((upd_ne (nt _ _ ht)).trans ht)⟩
  · obtain ⟨ds, e, q⟩ := R.pr i hi
    refine ⟨ds, (upd_ne (ne (.hP i) hi (by simp))).trans e, paired_imp q fun a b x => ?_⟩
    rcases x with (x | ⟨o, x⟩) | x
    · exact .inl (.inl ((upd_ne (nt _ _ x)).trans x))
    · exact .inl (.inr ⟨o, (upd_ne (nz _ _ _ x)).trans x⟩)
    · exact .inr x
/-- what a hand has said: an answer more; a list's own place is q -/
def sayA (A : Lay) (i j : Nat) (a : Ans) (q : Addr) : Lay := match a with
  | .b _ => A
  | .l _ => { A with m := setA A.m (.aL i j) q }
def sayV (a : Ans) (q : Addr) : V := match a with
  | .b x => .bl x
  | .l _ => .ref q
theorem saidL_snoc {A : MT → Addr} {i : Nat} {l : List Ans} {a : Ans} : saidL A i (l ++ [a]) = saidL A i l ++ [ansV A i l.length a] := by
  unfold saidL
  rw [List.mapIdx_append]
  simp
theorem saidL_set {A : MT → Addr} {i k j : Nat} {l : List Ans} {q : Addr} (h : k ≠ i ∨ l.length ≤ j) : saidL (setA A (.aL i j) q) k l = saidL A k l := by
  unfold saidL
  refine List.ext_getElem (by simp) fun m h1 h2 => ?_
  rw [List.getElem_mapIdx, List.getElem_mapIdx]
  cases l[m]'(by simpa using h1) with
  | b x => rfl
  | l xs =>
    refine congrArg V.ref (setA_ne fun z => ?_)
    injection z with z1 z2
    simp at h1
    rcases h with h | h
    · exact h z1
    · omega
theorem saidL_len {A : MT → Addr} {i : Nat} {l : List Ans} : (saidL A i l).length = l.length := by unfold saidL; simp
theorem Rep.sayIn (R : Rep K H A M) (hi : i < M.n) (a : Ans) {q : Addr} (hq : ∀ xs, a = .l xs → H q = some (.lst (iL xs)) ∧ ¬ foot M A q) :
    Rep K (upd H (A.m (.hS i)) (.lst (saidL A.m i (M.ha i).said ++ [sayV a q]))) (sayA A i (M.ha i).said.length a q) (M.setHa i { M.ha i with said := (M.ha i).said ++ [a] }) ∧
    (∀ f : Addr → Prop, (∀ b, foot M A b ∨ (b = q ∧ ∃ xs, a = .l xs) → f b) → Stp K H (upd H (A.m (.hS i)) (.lst (saidL A.m i (M.ha i).said ++ [sayV a q]))) f (foot (M.setHa i { M.ha i with said := (M.ha i).said ++ [a] }) (sayA A i (M.ha i).said.length a q))) := by
  have n0 : ∀ t, liveM M t → t ≠ .hS i → A.m t ≠ A.m (.hS i) := fun t l n e => n (R.inj t (.hS i) l hi e)
  have tup : ∀ b xs, H b = some (.tup xs) → b ≠ A.m (.hS i) := fun b xs e z => by rw [z, R.hS hi] at e; cases e
  have frz : ∀ b o u, H b = some (.frz o u) → b ≠ A.m (.hS i) := fun b o u e z => by rw [z, R.hS hi] at e; cases e
  have A_f : (sayA A i (M.ha i).said.length a q).f = A.f := by cases a <;> rfl
  -- the new place, and all others
  have A_m : ∀ t, liveM M t → (sayA A i (M.ha i).said.length a q).m t = A.m t := fun t l => by
    cases a with
    | b x => rfl
    | l xs =>
      refine setA_ne fun z => ?_
      rw [z] at l
      obtain ⟨_, ys, e⟩ := l
      rw [List.getElem?_eq_none (Nat.le_refl _)] at e
      cases e
  have live : ∀ t, liveM (M.setHa i { M.ha i with said := (M.ha i).said ++ [a] }) t → liveM M t ∨ (t = .aL i (M.ha i).said.length ∧ ∃ xs, a = .l xs) := fun t l => by
    cases t with
    | aL j k =>
      obtain ⟨hj, xs, e⟩ := l
      by_cases hji : j = i
      · subst hji
        rw [setHa_this] at e
        by_cases hk : k < (M.ha j).said.length
        · rw [List.getElem?_append_left hk] at e
          exact .inl ⟨hj, xs, e⟩
        · rw [List.getElem?_append_right (by omega)] at e
          have hk2 : k = (M.ha j).said.length := by
            have := (List.getElem?_eq_some_iff.mp e).1
            simp at this
            omega
          subst hk2
          rw [Nat.sub_self] at e
          exact .inr ⟨rfl, xs, by simpa using e⟩
      · rw [setHa_ne hji] at e
        exact .inl ⟨hj, xs, e⟩
    | _ => exact .inl l
  have newA : ∀ xs, a = .l xs → (sayA A i (M.ha i).said.length a q).m (.aL i (M.ha i).said.length) = q := fun xs e => by rw [e]; exact setA_same
  refine ⟨⟨?_, fun t o e => ?_, ?_, ?_, fun j hj => ?_, fun t u lt lu e => ?_, fun t u lt lu e => ?_⟩, fun f hf => ⟨fun b o e nb _ => ?_, fun b h => upd_free h, fun b hb => ?_, fun t => t.own (R.hS hi) trivial⟩⟩
  · rw [A_f]
    exact R.fo.frame fun b ⟨t, l, z⟩ => upd_ne fun w => R.sep (.hS i) t hi l (w.symm.trans z.symm)
  · rcases live t (objM_live e) with l | ⟨rfl, xs, ea⟩
    · rw [A_m t l]
      by_cases ht : t = .hS i
      · subst ht
        simp only [objM, setHa_n, if_pos hi, setHa_this] at e
        rw [upd_same, ← e]
        show some (HO.lst (saidL A.m i (M.ha i).said ++ [sayV a q])) = some (HO.lst (saidL (sayA A i (M.ha i).said.length a q).m i ((M.ha i).said ++ [a])))
        rw [saidL_snoc]
        cases a with
        | b x => rfl
        | l ys =>
          show _ = some (HO.lst (saidL (setA A.m (.aL i (M.ha i).said.length) q) i (M.ha i).said ++ [V.ref (setA A.m (.aL i (M.ha i).said.length) q (.aL i (M.ha i).said.length))]))
          rw [saidL_set (.inr (Nat.le_refl _)), setA_same]
          rfl
      · rw [upd_ne (n0 t l ht)]
        refine R.obj t o ?_
        rw [← e]
        have am := A_m
        cases t with
        | mO => simp only [objM, fldM, A_f, am .mD trivial, am .lk trivial, am .en trivial, am .hs trivial]; rfl
        | mD => simp only [objM, am .mO trivial]
        | lk => rfl
        | en => rfl
        | hs =>
          simp only [objM]
          refine congrArg (fun z => some (HO.lst z)) (List.map_congr_left fun j hj => ?_)
          rw [am (.hO j) (List.mem_range.mp hj)]
        | hO j =>
          have hj : j < M.n := l
          simp only [objM, am (.hD j) hj, am (.hP j) hj, am (.hH j) hj, am (.hS j) hj]
          by_cases hji : j = i
          · subst hji; simp only [setHa_this, fldH]; rfl
          · simp only [setHa_ne hji]; rfl
        | hD j =>
          have hj : j < M.n := l
          simp only [objM, am (.hO j) hj]; rfl
        | hP j => rfl
        | hH j =>
          by_cases hji : j = i
          · subst hji; simp only [objM, setHa_this]; rfl
          · simp only [objM, setHa_ne hji]; rfl
        | hS j =>
          have hji : j ≠ i := fun z => ht (by rw [z])
          simp only [objM, setHa_ne hji]
          have : saidL (sayA A i (M.ha i).said.length a q).m j (M.ha j).said = saidL A.m j (M.ha j).said := by
            cases a with
            | b x => rfl
            | l xs => exact saidL_set (.inl hji)
          rw [this]
          rfl
        | aL j k =>
          obtain ⟨hj, xs, ex⟩ := l
          by_cases hji : j = i
          · subst hji
            simp only [objM, setHa_this]
            rw [List.getElem?_append_left (List.getElem?_eq_some_iff.mp ex).1]
            rfl
          · simp only [objM, setHa_ne hji]; rfl
    · rw [newA xs ea]
      obtain ⟨h1, h2⟩ := hq xs ea
      rw [upd_ne (fun z => h2 (.inl ⟨.hS i, hi, z.symm⟩)), h1, ← e]
      simp only [objM, setHa_n, if_pos hi, setHa_this]
      rw [List.getElem?_append_right (Nat.le_refl _), Nat.sub_self, ea]
      rfl
  · obtain ⟨kvs, e, d⟩ := R.lk
    rw [A_m .lk trivial]
    exact ⟨kvs, (upd_ne (n0 .lk trivial (by simp))).trans e, d⟩
  · obtain ⟨es, e, d⟩ := R.en
    rw [A_m .en trivial]
    exact ⟨es, (upd_ne (n0 .en trivial (by simp))).trans e, paired_imp d fun a b x => (upd_ne (tup _ _ x)).trans x⟩
  · obtain ⟨ds, e, d⟩ := R.pr j hj
    rw [A_m (.hP j) hj]
    have ep : ((M.setHa i { M.ha i with said := (M.ha i).said ++ [a] }).ha j).prog = (M.ha j).prog := by
      by_cases hji : j = i
      · subst hji; rw [setHa_this]
      · rw [setHa_ne hji]
    rw [ep]
    refine ⟨ds, (upd_ne (n0 (.hP j) hj (by simp))).trans e, paired_imp d fun a b x => ?_⟩
    rcases x with (x | ⟨o, x⟩) | x
    · exact .inl (.inl ((upd_ne (tup _ _ x)).trans x))
    · exact .inl (.inr ⟨o, (upd_ne (frz _ _ _ x)).trans x⟩)
    · exact .inr x
  · rcases live t lt with l1 | ⟨rfl, xs, ea⟩
    · rcases live u lu with l2 | ⟨rfl, xs, ea⟩
      · rw [A_m t l1, A_m u l2] at e
        exact R.inj t u l1 l2 e
      · rw [A_m t l1, newA xs ea] at e
        exact absurd (.inl ⟨t, l1, e⟩) (hq xs ea).2
    · rcases live u lu with l2 | ⟨rfl, _, _⟩
      · rw [A_m u l2, newA xs ea] at e
        exact absurd (.inl ⟨u, l2, e.symm⟩) (hq xs ea).2
      · rfl
  · rw [A_f] at e
    rcases live t lt with l1 | ⟨rfl, xs, ea⟩
    · rw [A_m t l1] at e
      exact R.sep t u l1 lu e
    · rw [newA xs ea] at e
      exact (hq xs ea).2 (.inr ⟨u, lu, e.symm⟩)
  · rw [upd_ne (fun z => nb (hf _ (.inl (.inl ⟨.hS i, hi, z.symm⟩))))]
    exact e
  · refine .inl (hf b ?_)
    rcases hb with ⟨t, l, z⟩ | hb
    · rcases live t l with l1 | ⟨rfl, xs, ea⟩
      · exact .inl (.inl ⟨t, l1, (A_m t l1).symm.trans z⟩)
      · exact .inr ⟨by rw [← z, newA xs ea], xs, ea⟩
    · rw [A_f] at hb
      exact .inl (.inr hb)
end

/-! ### the machine's small defs -/
/-- the things of a machine stay where they are, but for answers' lists -/
def LayEq (M : Mc) (A A' : Lay) : Prop := ∀ t, (∀ i j, t = .aL i j → j < (M.ha i).said.length) → A'.m t = A.m t
theorem LayEq.refl {M : Mc} (A : Lay) : LayEq M A A := fun _ _ => rfl
theorem LayEq.of {M N : Mc} {A A' : Lay} (h : LayEq N A A') (e : ∀ i, (M.ha i).said.length = (N.ha i).said.length) : LayEq M A A' := fun t z => h t fun i j w => by
  rw [← e i]
  exact z i j w
def ToldAt (H0 H : Hp) (f : Addr → Prop) (v : V) (t : Told) : Prop := ∃ a, v = .ref a ∧ H0 a = none ∧ match t with
  | .rests => H a = some (.tup [.str "rests"])
  | .waits p => H a = some (.tup [.str "waits", .int p])
  | .locks p => H a = some (.tup [.str "locks", .int p])
  | .begins => H a = some (.tup [.str "begins"])
  | .goes p => H a = some (.tup [.str "goes", .int p])
  | .ends (.b x) => H a = some (.tup [.str "ends", .bl x])
  | .ends (.l xs) => ∃ q, H a = some (.tup [.str "ends", .ref q]) ∧ H q = some (.lst (iL xs)) ∧ H0 q = none ∧ ¬ f q
  | .splits p q => H a = some (.tup [.str "splits", .int p, .int q])
  | .moves p q => H a = some (.tup [.str "moves", .int p, .int q])
  | .joins p q => H a = some (.tup [.str "joins", .int p, .int q])
/-- what a step of the machine promises: pre ahead; M' and what is told behind -/
def spStep (K : PySem.W.Frag) (more : List V → Prop) (r : Mc × Told) (A : Lay) (M : Mc) (H : Hp) (Q : VK) : Prop :=
  ∀ H' A' v, Rep K H' A' r.1 → Stp K H H' (foot M A) (foot r.1 A') → LayEq M A A' → ToldAt H H' (foot r.1 A') v r.2 → Q v H'
theorem leC {i n : Nat} (h : i < n) : decide ((i : Int) < ((n : Nat) : Int)) = true := decide_eq_true (by omega)
theorem hlen {M : Mc} {A : Lay} : (((List.range M.n).map fun i => V.ref (A.m (.hO i))).length : Int) = (M.n : Int) := by rw [List.length_map, List.length_range]
/-- the hand's object, read as self.hands[hand] -/
def sp_Machine_need_hand (K : PySem.W.Frag) : Sp := fun vs H Q _ => ∃ (A : Lay) (M : Mc) (h : Nat), vs = [.ref (A.m .mO), .int h] ∧ Rep K H A M ∧ h < M.n ∧ Q (.ref (A.m (.hO h))) H
def sp_Machine_rests (K : PySem.W.Frag) : Sp := fun vs H Q _ => ∃ (A : Lay) (M : Mc) (h : Nat), vs = [.ref (A.m .mO), .int h] ∧ Rep K H A M ∧ h < M.n ∧ Q (.bl (M.rests h)) H
def sp_Machine_waits (K : PySem.W.Frag) : Sp := fun vs H Q _ => ∃ (A : Lay) (M : Mc) (h : Nat), vs = [.ref (A.m .mO), .int h] ∧ Rep K H A M ∧ h < M.n ∧ Q (.bl (M.waits h)) H
def sp_Hand_deed (K : PySem.W.Frag) : Sp := fun vs H Q _ => ∃ (A : Lay) (M : Mc) (h : Nat) (d : Deed), vs = [.ref (A.m (.hO h))] ∧ Rep K H A M ∧ h < M.n ∧ (M.ha h).prog[(M.ha h).at_]? = some d ∧ ∀ a, DeedAt K H a d → Q (.ref a) H
/-- pages are left: ps, a list of its own -/
def sp_Machine_leave (K : PySem.W.Frag) : Sp := fun vs H Q _ => ∃ (A : Lay) (M : Mc) (h : Nat) (a : Addr) (ps : List Int), vs = [.ref (A.m .mO), .int h, .ref a] ∧ Rep K H A M ∧ h < M.n ∧ H a = some (.lst (iL ps)) ∧ ¬ foot M A a ∧
  ps.Nodup ∧ (∀ p ∈ ps, p ∈ (M.ha h).held ∧ (M.locks p).isSome = true) ∧ ∀ H', Rep K H' A (M.leave h ps) → Stp K H H' (foot M A) (foot (M.leave h ps) A) → Q .non H'
theorem leave_snoc {M : Mc} {h : Nat} {ps : List Int} {p : Int} : M.leave h (ps ++ [p]) = (M.leave h ps).leave1 h p := by unfold Mc.leave; rw [List.foldl_append]; rfl
theorem leave_n {M : Mc} {h : Nat} {ps : List Int} : (M.leave h ps).n = M.n := by
  induction ps generalizing M with
  | nil => rfl
  | cons p r ih => exact ih
theorem leave1_held {M : Mc} {h : Nat} {p : Int} : ((M.leave1 h p).ha h).held = (M.ha h).held.erase p := by
  unfold Mc.leave1 Mc.hold
  rw [setHa_this]
theorem leave_mem {M : Mc} {h : Nat} {q : Int} : ∀ {ps : List Int}, q ∉ ps → q ∈ (M.ha h).held → (M.locks q).isSome = true → q ∈ ((M.leave h ps).ha h).held ∧ ((M.leave h ps).locks q).isSome = true := by
  intro ps
  induction ps generalizing M with
  | nil => exact fun _ h1 h2 => ⟨h1, h2⟩
  | cons p r ih =>
    intro hn h1 h2
    have hp : q ≠ p := fun e => hn (by rw [e]; simp)
    refine ih (M := M.leave1 h p) (fun z => hn (by simp [z])) ?_ ?_
    · rw [leave1_held]
      exact (List.mem_erase_of_ne hp).mpr h1
    · show (if q = p then none else M.locks q).isSome = true
      rw [if_neg hp]
      exact h2
theorem erase_at {xs : List Int} {p : Int} (h : p ∈ xs) : ∃ j : Nat, xs[j]? = some p ∧ (∀ m : Nat, m < j → xs[m]? ≠ some p) ∧ xs.eraseIdx j = xs.erase p := by
  refine ⟨xs.idxOf p, ?_, fun m hm e => ?_, ?_⟩
  · rw [List.getElem?_eq_getElem (List.idxOf_lt_length_iff.mpr h)]
    exact congrArg some (List.getElem_idxOf _)
  · have h1 := List.not_of_lt_findIdx (p := (· == p)) (xs := xs) (show m < xs.findIdx (· == p) from hm)
    obtain ⟨hl, e2⟩ := List.getElem?_eq_some_iff.mp e
    rw [e2] at h1
    simp at h1
  · exact (List.erase_eq_eraseIdx_of_idxOf rfl).symm
def sp_Machine_goes (K : PySem.W.Frag) : Sp := fun vs H Q _ => ∃ (A : Lay) (M : Mc) (h : Nat) (p : Int), vs = [.ref (A.m .mO), .int h, .int p] ∧ Rep K H A M ∧ h < M.n ∧ spStep K (fun _ => True) (M.goes h p) A M H Q
theorem bind2 {α : Type} {P : α → Prop} {x : α} (h : P x) : ∃ y, P y := ⟨x, h⟩
/-! ### the machine's defs: an end, a lock, down -/
theorem setHa_setHa {M : Mc} {i : Nat} {x y : Ha} : (M.setHa i x).setHa i y = M.setHa i y := by
  unfold Mc.setHa
  congr 1
  funext j
  show (if j = i then y else if j = i then x else M.ha j) = if j = i then y else M.ha j
  split <;> rfl
theorem leave1_ha {M : Mc} {h : Nat} {p : Int} : (M.leave1 h p).ha h = { M.ha h with held := (M.ha h).held.erase p } := by
  unfold Mc.leave1 Mc.hold
  rw [setHa_this]
  rfl
theorem leave_ha {M : Mc} {h : Nat} : ∀ {ps : List Int}, (M.leave h ps).ha h = { M.ha h with held := ((M.leave h ps).ha h).held } := by
  intro ps
  induction ps generalizing M with
  | nil => rfl
  | cons p r ih =>
    have e := ih (M := M.leave1 h p)
    have e2 : (M.leave h (p :: r)) = (M.leave1 h p).leave h r := rfl
    rw [e2]
    rw [e, leave1_ha]
theorem leave_fo {M : Mc} {h : Nat} : ∀ {ps : List Int}, (M.leave h ps).fo = M.fo := by
  intro ps
  induction ps generalizing M with
  | nil => rfl
  | cons p r ih => exact ih
theorem leave_ends {M : Mc} {h : Nat} : ∀ {ps : List Int}, (M.leave h ps).ends = M.ends := by
  intro ps
  induction ps generalizing M with
  | nil => rfl
  | cons p r ih => exact ih
theorem leave_said {M : Mc} {h j : Nat} : ∀ {ps : List Int}, ((M.leave h ps).ha j).said = (M.ha j).said := by
  intro ps
  induction ps generalizing M with
  | nil => rfl
  | cons p r ih =>
    refine (ih (M := M.leave1 h p)).trans ?_
    by_cases e : j = h
    · subst e
      rw [leave1_ha]
    · show ((((M.freeP p).hold h _)).ha j).said = _
      unfold Mc.hold
      rw [setHa_ne e]
      rfl
theorem str_ne {a b : V} (h : a ≠ b) : decide (a = b) = false := decide_eq_false h
def sp_Machine_ends_with (K : PySem.W.Frag) : Sp := fun vs H Q _ => ∃ (A : Lay) (M : Mc) (h : Nat) (a : Ans) (q : Addr), vs = [.ref (A.m .mO), .int h, sayV a q] ∧ Rep K H A M ∧ h < M.n ∧ (∀ xs, a = .l xs → H q = some (.lst (iL xs)) ∧ ¬ foot M A q) ∧
  (M.ha h).held.Nodup ∧ (∀ p ∈ (M.ha h).held, (M.locks p).isSome = true) ∧ (M.ha h).held.length ≤ 1000000 ∧ M.ends.length ≤ 1000000 ∧ (M.ha h).said.length ≤ 1000000 ∧
  ∀ H' A' t, Rep K H' A' (M.endsWith h a).1 → Stp K H H' (foot M A) (foot (M.endsWith h a).1 A') → LayEq M A A' → H t = none → H' t = some (.tup [.str "ends", sayV a q]) → Q (.ref t) H'
structure Safe (M : Mc) : Prop where
  pg : ∀ n p, M.fo.pages n = some p → 1 ≤ n ∧ n ≤ M.fo.last ∧ p.row.length ≤ 3 ∧ p.kids.length ≤ 4
  l0 : 0 ≤ M.fo.last
  l1 : M.fo.last ≤ 800000
  nd : ∀ h, h < M.n → (M.ha h).held.Nodup
  lk : ∀ h, h < M.n → ∀ p ∈ (M.ha h).held, (M.locks p).isSome = true
  ld : ∀ p, (M.locks p).isSome = true → 0 ≤ p ∧ p ≤ M.fo.last
  en : M.ends.length ≤ 100000
  sd : ∀ h, h < M.n → (M.ha h).said.length ≤ 100000
theorem Safe.held {M : Mc} (S : Safe M) {h : Nat} (hi : h < M.n) : (M.ha h).held.length ≤ 800001 := by
  have := nodup_len 800001 (S.nd h hi) fun x hx => by
    have := S.ld x (S.lk h hi x hx)
    have := S.l1
    omega
  exact this
theorem Safe.locks {M : Mc} (S : Safe M) {kvs : List (Key × V)} (d : DOk kvs (fun n => (M.locks n).map fun h => V.int (h : Nat))) : kvs.length < sizeLine := by
  have := d.len (N := 800001) fun p hp => by
    rw [Option.isSome_map] at hp
    have := S.ld p hp
    have := S.l1
    omega
  exact small64 (by omega)
theorem leave_held {M : Mc} {h : Nat} {ps : List Int} (hn : (M.ha h).held.Nodup) : ((M.leave h ps).ha h).held = (M.ha h).held.filter fun x => decide (x ∉ ps) := by
  induction ps generalizing M with
  | nil => exact (List.filter_eq_self.mpr (by simp)).symm
  | cons p r ih =>
    have e : M.leave h (p :: r) = (M.leave1 h p).leave h r := rfl
    rw [e, ih (by rw [leave1_held]; exact hn.erase p), leave1_held, hn.erase_eq_filter, List.filter_filter]
    refine List.filter_congr fun x _ => ?_
    by_cases h1 : x = p <;> by_cases h2 : x ∈ r <;> simp [h1, h2]
theorem filter_last {xs : List Int} (hn : xs.Nodup) (h0 : xs ≠ []) : xs.filter (fun x => decide (x ∉ xs.dropLast)) = [xs.getLastD 0] := by
  have e : xs = xs.dropLast ++ [xs.getLastD 0] := by
    rw [List.getLastD_eq_getLast?, List.getLast?_eq_some_getLast h0]
    exact (List.dropLast_concat_getLast h0).symm
  generalize xs.getLastD 0 = z at e
  generalize hd : xs.dropLast = ys at e
  subst e
  rw [List.filter_append, List.filter_eq_nil_iff.mpr, List.filter_cons_of_pos]
  · rfl
  · simp only [decide_eq_true_eq]
    intro hz
    rw [List.nodup_append] at hn
    exact hn.2.2 z hz z (by simp) rfl
  · intro x hx
    simp [hx]
theorem hold_eq {M : Mc} {h : Nat} {l : List Int} : M.hold h l = M.setHa h { M.ha h with held := l } := rfl
theorem len_map_ref {es : List Addr} : (es.map V.ref).length = es.length := List.length_map _
def sp_Machine_lock (K : PySem.W.Frag) : Sp := fun vs H Q _ => ∃ (A : Lay) (M : Mc) (h : Nat) (p : Int), vs = [.ref (A.m .mO), .int h] ∧ Rep K H A M ∧ h < M.n ∧ Safe M ∧ (M.ha h).want = some p ∧ spStep K (fun _ => True) (M.lock h p) A M H Q
/-- the last page's kid at the deed's key can be read -/
def KidOk (M : Mc) (n k : Int) : Prop := n ≠ 0 → ∃ p, M.fo.pages n = some p ∧ p.row.length ≤ 1000 ∧ place p.row k < p.kids.length
theorem deedV_key {d : Deed} : ∃ s r, deedV d = V.str s :: V.int d.key :: r := by cases d <;> exact ⟨_, _, rfl⟩
theorem last_at {xs : List Int} (h : xs ≠ []) : atI (iL xs) (-1) = some (V.int (xs.getLastD 0)) := by
  have hl : 1 ≤ xs.length := by cases xs with
    | nil => exact absurd rfl h
    | cons a r => simp
  unfold atI ixN
  rw [if_neg (by decide), if_pos (by rw [len_iL]; omega)]
  show (iL xs)[((-1 : Int) + ((iL xs).length : Nat)).toNat]? = _
  rw [show ((-1 : Int) + ((iL xs).length : Nat)).toNat = (iL xs).length - 1 by rw [len_iL]; omega]
  exact iL_last hl
theorem cut_last {xs : List Int} : cutV (iL xs) none (some (-1)) = iL xs.dropLast := by
  unfold cutV
  have e : HT.sIx (iL xs).length (iL xs).length (some (-1)) = xs.length - 1 := by
    unfold HT.sIx
    rw [len_iL]
    simp
    try omega
  rw [e]
  show ((iL xs).drop 0).take (xs.length - 1 - 0) = _
  rw [List.drop_zero, Nat.sub_zero, List.dropLast_eq_take]
  simp [iL]
def sp_Machine_down (K : PySem.W.Frag) : Sp := fun vs H Q _ => ∃ (A : Lay) (M : Mc) (h : Nat) (d : Deed), vs = [.ref (A.m .mO), .int h] ∧ Rep K H A M ∧ h < M.n ∧ Safe M ∧ (M.ha h).held ≠ [] ∧ (M.ha h).prog[(M.ha h).at_]? = some d ∧ KidOk M (M.lastP h) d.key ∧
  spStep K (fun _ => True) (M.down h) A M H Q
/-! ### walk -/
theorem filter_getLastD {f : Int → Bool} {xs : List Int} (h0 : xs ≠ []) (hf : f (xs.getLastD 0) = true) : (xs.filter f).getLastD 0 = xs.getLastD 0 ∧ xs.filter f ≠ [] := by
  have e : xs = xs.dropLast ++ [xs.getLastD 0] := by
    rw [List.getLastD_eq_getLast?, List.getLast?_eq_some_getLast h0]
    exact (List.dropLast_concat_getLast h0).symm
  generalize xs.getLastD 0 = z at e hf
  generalize xs.dropLast = ys at e
  subst e
  rw [List.filter_append, List.filter_cons_of_pos hf]
  simp
theorem getLastD_mem {xs : List Int} (h0 : xs ≠ []) : xs.getLastD 0 ∈ xs := by
  rw [List.getLastD_eq_getLast?, List.getLast?_eq_some_getLast h0]
  exact List.getLast_mem h0
/-- a hand that walks, at a leaf -/
structure WalkOk (M : Mc) (h : Nat) (lo hi : Int) : Prop where
  deed : (M.ha h).prog[(M.ha h).at_]? = some (.walk lo hi)
  ne : (M.ha h).held ≠ []
  pg : ∀ p ∈ (M.ha h).held, p = 0 ∨ ∃ q, M.fo.pages p = some q
  leaf : ∃ q, M.lastP h ≠ 0 ∧ M.fo.pages (M.lastP h) = some q ∧ q.kids = []
theorem chain2 {a b c : Int} : (if decide (a ≤ b) = true then decide (b ≤ c) else false) = decide (a ≤ b ∧ b ≤ c) := by
  by_cases h : a ≤ b <;> simp [h]
theorem flat_len {f : Int → List Int} (hf : ∀ x, (f x).length ≤ 3) : ∀ xs : List Int, (xs.flatMap f).length ≤ 3 * xs.length
  | [] => by simp
  | x :: r => by
    rw [List.flatMap_cons, List.length_append, List.length_cons]
    have := hf x
    have := flat_len hf r
    omega
theorem cut13 : ¬ (HT.sIx 3 0 (some 1) = 0 ∧ HT.sIx 3 3 none = 3) := by decide
def sp_Machine_walk (K : PySem.W.Frag) : Sp := fun vs H Q _ => ∃ (A : Lay) (M : Mc) (h : Nat) (lo hi : Int), vs = [.ref (A.m .mO), .int h] ∧ Rep K H A M ∧ h < M.n ∧ Safe M ∧ WalkOk M h lo hi ∧ spStep K (fun _ => True) (M.walk h lo hi) A M H Q
/-! ### put -/
structure PutOk (M : Mc) (h : Nat) (k : Int) : Prop where
  deed : (M.ha h).prog[(M.ha h).at_]? = some (.put k)
  ne : (M.ha h).held ≠ []
  pg : ∃ p, M.lastP h ≠ 0 ∧ M.fo.pages (M.lastP h) = some p ∧ (p.row.length = 3 → 2 ≤ (M.ha h).held.length ∧ ((M.ha h).held.dropLast.getLastD 0 ≠ 0 → (M.ha h).held.dropLast.getLastD 0 ≠ M.lastP h ∧
    ∃ u, M.fo.pages ((M.ha h).held.dropLast.getLastD 0) = some u ∧ M.lastP h ∈ u.kids)) ∧ (p.row.length ≠ 3 → p.kids ≠ [] → place p.row k < p.kids.length) ∧ (p.kids = [] → p.row.Pairwise (· ≤ ·))
def Mc.addO (M : Mc) (h : Nat) (o : Option Int) : Mc := match o with
  | some p => (M.lockP p h).hold h ((M.ha h).held ++ [p])
  | none => M
def Mc.adds (M : Mc) (h : Nat) (os : List (Option Int)) : Mc := os.foldl (fun M o => M.addO h o) M
theorem adds_snoc {M : Mc} {h : Nat} {os : List (Option Int)} {o : Option Int} : M.adds h (os ++ [o]) = (M.adds h os).addO h o := by unfold Mc.adds; rw [List.foldl_append]; rfl
theorem adds_n {M : Mc} {h : Nat} {os : List (Option Int)} : (M.adds h os).n = M.n := by
  induction os generalizing M with
  | nil => rfl
  | cons o r ih =>
    refine (ih (M := M.addO h o)).trans ?_
    cases o <;> rfl
theorem adds_locks {M : Mc} {h : Nat} {os : List (Option Int)} {p : Int} (z : ((M.adds h os).locks p).isSome = true) : (M.locks p).isSome = true ∨ some p ∈ os := by
  induction os generalizing M with
  | nil => exact .inl z
  | cons o r ih =>
    rcases ih (M := M.addO h o) z with y | y
    · cases o with
      | none => exact .inl y
      | some q =>
        by_cases e : p = q
        · exact .inr (by simp [e])
        · refine .inl ?_
          have y : ((if p = q then some h else M.locks p) : Option Nat).isSome = true := y
          rwa [if_neg e] at y
    · exact .inr (by simp [y])
theorem adds_held {M : Mc} {h : Nat} {os : List (Option Int)} : ((M.adds h os).ha h).held.length ≤ (M.ha h).held.length + os.length := by
  induction os generalizing M with
  | nil => simp [Mc.adds]
  | cons o r ih =>
    have := ih (M := M.addO h o)
    have e : ((M.addO h o).ha h).held.length ≤ (M.ha h).held.length + 1 := by
      cases o with
      | none => exact Nat.le_succ _
      | some p =>
        show (((M.lockP p h).hold h ((M.ha h).held ++ [p])).ha h).held.length ≤ _
        rw [hold_eq, setHa_this, List.length_append]
        exact Nat.le_refl _
    show (((M.addO h o).adds h r).ha h).held.length ≤ _
    rw [List.length_cons]
    omega
theorem hold_hold {M : Mc} {h : Nat} {a b : List Int} : (M.hold h a).hold h b = M.hold h b := by
  rw [hold_eq (M := M.hold h a), hold_eq (M := M), hold_eq (M := M), setHa_setHa, setHa_this]
theorem addO_eq {M : Mc} {h : Nat} {l : List Int} {x : Int} : (M.hold h l).addO h (some x) = (M.lockP x h).hold h (l ++ [x]) := by
  show ((M.lockP x h).hold h l).hold h (((M.hold h l).ha h).held ++ [x]) = _
  rw [hold_hold, hold_eq (M := M) (l := l), setHa_this]
theorem adds_two {M : Mc} {h : Nat} {l : List Int} {r x y : Int} : (((M.hold h l).freeP r).adds h [some x, some y]) = ((((M.freeP r).lockP x h).lockP y h).hold h (l ++ [x] ++ [y])) := by
  show ((((M.freeP r).hold h l).addO h (some x)).addO h (some y)) = _
  rw [addO_eq, addO_eq]
theorem adds_one {M : Mc} {h : Nat} {l : List Int} {r y : Int} : (((M.hold h l).freeP r).adds h [none, some y]) = (((M.freeP r).lockP y h).hold h (l ++ [y])) := by
  show (((M.freeP r).hold h l).addO h (some y)) = _
  rw [addO_eq]
theorem last2_at {xs : List Int} (h : 2 ≤ xs.length) : atI (iL xs) (-2) = some (V.int (xs.dropLast.getLastD 0)) := by
  have e : xs = xs.dropLast ++ [xs.getLastD 0] := by
    rw [List.getLastD_eq_getLast?, List.getLast?_eq_some_getLast (by intro z; rw [z] at h; simp at h)]
    exact (List.dropLast_concat_getLast _).symm
  have h1 : xs.dropLast ≠ [] := by intro z; rw [z] at e; rw [e] at h; simp at h
  have e2 : xs.dropLast = xs.dropLast.dropLast ++ [xs.dropLast.getLastD 0] := by
    rw [List.getLastD_eq_getLast?, List.getLast?_eq_some_getLast h1]
    exact (List.dropLast_concat_getLast _).symm
  generalize xs.dropLast.getLastD 0 = a at *
  generalize xs.dropLast.dropLast = ys at *
  rw [e2] at e
  generalize xs.getLastD 0 = b at *
  subst e
  unfold atI ixN
  rw [if_neg (by decide), if_pos (by rw [len_iL]; omega)]
  show (iL _)[((-2 : Int) + ((iL _).length : Nat)).toNat]? = _
  rw [show ((-2 : Int) + ((iL (ys ++ [a] ++ [b])).length : Nat)).toNat = ys.length by rw [len_iL]; simp; omega]
  simp [iL]
theorem if_ex {c : Bool} {α : Type} {P1 P2 Q : α → Prop} {a b : α} (e1 : P1 a) (e2 : P2 b) (h : Q (if c = true then a else b)) : if c = true then (∃ v, P1 v ∧ Q v) else (∃ v, P2 v ∧ Q v) := by
  cases c
  · exact ⟨b, e2, h⟩
  · exact ⟨a, e1, h⟩
theorem ite_int {c : Prop} [Decidable c] {a b : Int} : (if decide c = true then V.int a else V.int b) = V.int (if c then a else b) := by by_cases e : c <;> simp [e]
theorem ite_opt {c : Prop} [Decidable c] {a : Int} : (if c then V.int a else V.non) = optV (if c then some a else none) := by split <;> rfl
theorem map_get {α β : Type} {f : α → β} {xs : List α} {j : Nat} {y : β} (h : (xs.map f)[j]? = some y) : ∃ x, xs[j]? = some x ∧ y = f x := by
  rw [List.getElem?_map] at h
  cases e : xs[j]? with
  | none => rw [e] at h; cases h
  | some x => rw [e] at h; exact ⟨x, rfl, (Option.some.inj h).symm⟩
theorem ins_perm (k : Int) : ∀ xs : List Int, (ins k xs).Perm (xs ++ [k])
  | [] => List.Perm.refl _
  | a :: r => by
    unfold ins
    split
    · exact (List.perm_append_comm (l₁ := [k]) (l₂ := a :: r))
    · exact (ins_perm k r).cons a
theorem ins_pw (k : Int) : ∀ xs : List Int, xs.Pairwise (· ≤ ·) → (ins k xs).Pairwise (· ≤ ·)
  | [], _ => by simp [ins]
  | a :: r, h => by
    have h' := List.pairwise_cons.mp h
    unfold ins
    split
    · refine List.pairwise_cons.mpr ⟨fun x hx => ?_, h⟩
      rcases List.mem_cons.mp hx with e | e
      · omega
      · have := h'.1 x e; omega
    · refine List.pairwise_cons.mpr ⟨fun x hx => ?_, ins_pw k r h'.2⟩
      have := (ins_perm k r).mem_iff.mp hx
      simp only [List.mem_append, List.mem_singleton] at this
      rcases this with e | e
      · exact h'.1 x e
      · omega
theorem sorted_eq {a b : List Int} (p : a.Perm b) (ha : a.Pairwise (· ≤ ·)) (hb : b.Pairwise (· ≤ ·)) : a = b := p.eq_of_pairwise (fun x y _ _ h1 h2 => Int.le_antisymm h1 h2) ha hb
theorem inV_int {k : Int} {xs : List Int} : inV (V.int k) (iL xs) = decide (k ∈ xs) := by
  induction xs with
  | nil => simp [inV, iL]
  | cons a r ih =>
    have e : inV (V.int k) (iL (a :: r)) = (decide (a = k) || inV (V.int k) (iL r)) := by
      rfl
    rw [e, ih]
    by_cases h : a = k
    · simp [h]
    · have h2 : ¬ k = a := fun z => h z.symm
      simp [h, h2]
def sp_Machine_put (K : PySem.W.Frag) : Sp := fun vs H Q _ => ∃ (A : Lay) (M : Mc) (h : Nat) (k : Int), vs = [.ref (A.m .mO), .int h] ∧ Rep K H A M ∧ h < M.n ∧ Safe M ∧ PutOk M h k ∧ spStep K (fun _ => True) (M.put h k) A M H Q
/-! ### a neighbour is wanted -/
theorem kid_at {xs : List Int} {j : Nat} (h : j < xs.length) {z : Int} (hz : z = (j : Int)) : atI (iL xs) z = some (V.int (xs.getD j 0)) := by
  refine at_of hz ?_
  rw [List.getD_eq_getElem?_getD, List.getElem?_eq_getElem h]
  show (xs.map V.int)[j]? = _
  rw [List.getElem?_map, List.getElem?_eq_getElem h]
  rfl
structure NbOk (M : Mc) (h : Nat) (above here : Int) : Prop where
  pg : ∃ u, M.fo.pages above = some u ∧ here ∈ u.kids ∧ 2 ≤ u.kids.length
  held : here ∈ (M.ha h).held
def sp_Machine_wants_neighbour (K : PySem.W.Frag) : Sp := fun vs H Q _ => ∃ (A : Lay) (M : Mc) (h : Nat) (above here : Int), vs = [.ref (A.m .mO), .int h, .int above, .int here] ∧ Rep K H A M ∧ h < M.n ∧ Safe M ∧ NbOk M h above here ∧ spStep K (fun _ => True) (M.neighbour h above here) A M H Q
/-! ### sorted([a, b], key=lambda n: xs.index(n)) -/
theorem upd_nn {H : Hp} {a b : Addr} {o : HO} (e : upd H a o b = none) : H b = none := by
  unfold upd at e
  split at e
  · cases e
  · exact e
section
variable {X : Cx} {pins : List (Addr × Obj)} {σ : L2.St} {H : Hp} {s : Shared}
/-- a lambda is made; nothing that is known becomes unknown -/
theorem lam_new {T : List (Addr × Str)} {c P : Addr} {prm : Arguments} {bd : Expr} {sc : Scope} {po : Pos} {E Q : Value → Shared → Prop} (I : Inv X pins σ H s) (TB : LamX.TabB X.base X.mg c P) (cd : X.env.code = .ref c)
    (mem : (P, X.env.qual ++ "<lambda>") ∈ T) (uni : ∀ z ∈ T, z.1 = P → z.2 = X.env.qual ++ "<lambda>") (tabs : LamX.Tabs T H) (nod : defaultsOf prm X.env = ([], [])) (cap : ∀ y ∈ sc.names, y.2 = .free → ∃ c, X.env.cells.lookup y.1 = some c)
    (k : ∀ (f c2 : Addr) (pm ct : Value) (G : Hp) (r : Shared), Inv X pins σ G r → LamX.ExtN H G → (∀ b, G b = none → H b = none) → LamX.Tabs T G →
      r.heap.get? f = some (PySem.W.kla_obj "<lambda>" (X.env.qual ++ "<lambda>") prm bd sc (cloFrom X.env.cells sc.names []) pm c2 ct) → f ≠ X.env.locals → X.base.get? f = none → G c2 = some (LamX.CodeO c2 (X.env.qual ++ "<lambda>")) → Q (.ref f) r) :
    wpAny (model X.prog X.w) X.A (eval (.Lambda prm bd sc po) X.env) Q E s := by
  obtain ⟨ps, atP, tri, names⟩ := tabs _ mem
  have hP : s.heap.get? P = some { cls := .none, data := .fields ps } := I.hok P _ atP
  have BA : s.heap.BuiltinsAt X.mg P := TB.bm.keeps I.bk
  have newf : ∀ h' : Heap, s.heap.objs.size ≤ h'.objs.size → h'.objs.size ≠ X.env.locals ∧ X.base.get? h'.objs.size = none := fun h' z => by
    refine ⟨fun e => ?_, ?_⟩
    · have := I.lt
      rw [← e] at this
      exact absurd (Nat.lt_of_lt_of_le this z) (Nat.lt_irrefl _)
    · cases e : X.base.get? h'.objs.size with
      | none => rfl
      | some o =>
        exact absurd (Nat.lt_of_lt_of_le (Heap.lt_size (I.bk _ _ e)) z) (Nat.lt_irrefl _)
  refine PySem.W.kla_eval nod ?_
  cases hc : codeAmong po ps.toList with
  | some cv =>
    obtain ⟨c2, rfl, hco⟩ := names po cv hc
    refine PySem.W.kla_makeFunctionHit (mg := X.mg) (c := c) (P := P) (ps := ps) (closure_ok cap) I.ok.glob (I.mod.glob.keeps I.bk) cd (TB.code.keeps I.bk) hP tri hc BA fun ct h' tk kp hsz => ?_
    obtain ⟨n1, n2⟩ := newf h' hsz
    exact k h'.objs.size c2 ((X.mg "__name__").getD .none) ct H _ (I.kept fun b o e => Heap.get?_push_of_some _ (kp b o e)) (LamX.ExtN.refl H) (fun _ e => e) tabs (Heap.get?_push_size _ rfl) n1 n2 hco
  | none =>
    refine PySem.W.kla_makeFunction (mg := X.mg) (c := c) (P := P) (ps := ps) (closure_ok cap) I.ok.glob (I.mod.glob.keeps I.bk) cd (TB.code.keeps I.bk) hP tri hc TB.gP BA fun c1 ct h' tk kp hge hlt rec tab => ?_
    obtain ⟨c2, oc, vs, t, e2, hoc, hd, hv⟩ := rec
    cases e2
    obtain ⟨n1, n2⟩ := newf h' (Nat.le_trans hge (Nat.le_of_lt hlt))
    have nC : H c1 = none := I.hok.fresh hge
    have J := LamX.inv_table (t' := tk) (more := #[rawInt po.line, rawInt po.col, .ref c1]) (h' := h'.push (PySem.W.kla_obj "<lambda>" (X.env.qual ++ "<lambda>") prm bd sc (cloFrom X.env.cells sc.names []) ((X.mg "__name__").getD .none) c1 ct)) (q := X.env.qual ++ "<lambda>") I atP
      (fun b o hb e => Heap.get?_push_of_some _ (kp b o hb e)) (Heap.get?_push_of_some _ tab) hge ⟨oc, vs, t, Heap.get?_push_of_some _ hoc, hd, hv⟩
    have ext : LamX.ExtN H (upd (upd H P (.tbl (ps ++ #[rawInt po.line, rawInt po.col, .ref c1]))) c1 (LamX.CodeO c1 (X.env.qual ++ "<lambda>"))) := fun b o e n => by
      have e1 : b ≠ c1 := ne_of_none e nC
      have e3 : b ≠ P := fun z => n ps (Option.some.inj (e.symm.trans (by rw [z]; exact atP)))
      rw [upd_ne e1, upd_ne e3, e]
    have lst : (ps ++ #[rawInt po.line, rawInt po.col, .ref c1]).toList = ps.toList ++ [rawInt po.line, rawInt po.col, .ref c1] := by simp
    refine k h'.objs.size c1 ((X.mg "__name__").getD .none) ct _ _ J ext (fun b e => upd_nn (upd_nn e)) (fun z hz => ?_) (Heap.get?_push_size _ rfl) n1 n2 upd_same
    by_cases hb : z.1 = P
    · rw [uni z hz hb, hb]
      refine ⟨_, by rw [upd_ne (ne_of_none atP nC), upd_same], by rw [lst]; exact PySem.TriplesOk_snoc _ _ _ _ tri, fun p2 cv hcv => ?_⟩
      rw [lst] at hcv
      rcases LamX.among_app _ tri hcv with y | y
      · obtain ⟨c0, w1, w2⟩ := names p2 cv y
        exact ⟨c0, w1, ext _ _ w2 LamX.codeO_ne⟩
      · exact ⟨c1, y, upd_same⟩
    · obtain ⟨qs, a1, a2, a3⟩ := tabs z hz
      refine ⟨qs, by rw [upd_ne (ne_of_none a1 nC), upd_ne hb]; exact a1, a2, fun p2 cv hcv => ?_⟩
      obtain ⟨c0, w1, w2⟩ := a3 p2 cv hcv
      exact ⟨c0, w1, ext _ _ w2 LamX.codeO_ne⟩
end

/-- the lambda's turn: where the number stands in the list -/
theorem lam_turn {P : Program} {w : World} {A : Around} {r : Shared} {f c2 c a : Addr} {pm ct : Value} {prm : Arguments} {sc : Scope} {nm xs q : Str} {q1 q2 q3 q4 : Pos} {cl : List (Str × Addr)} {ks : List Int} {its : List Value} {n : Nat} {sl : Array (Option Value)} {z : Int} {t : Tok}
    (hf : r.heap.get? f = some (PySem.W.kla_obj "<lambda>" q prm (.Call (.Attribute (.Name xs q1) "index" q2) [.Name nm q3] [] q4) sc cl pm c2 ct)) (hc : r.heap.CodeRec (.ref c2) q) (lim : r.heap.NoLimit) (dep : A.depth < recursionLimit)
    (bind : ∀ v, bindArgs (PySem.W.kla_fn "<lambda>" q prm (.Call (.Attribute (.Name xs q1) "index" q2) [.Name nm q3] [] q4) sc cl pm (.ref c2) ct) ⟨[v], []⟩ = pure [(nm, v)])
    (s1 : sc.isCoroutine = false) (s2 : sc.isGenerator = false) (s3 : sc.kind = .function) (s4 : ∀ x ∈ sc.names, x.2 ≠ .cell) (s5 : sc.names.lookup nm = some .local) (s6 : sc.names.lookup xs = some .free) (line : (q2.endLine == q4.line) = true)
    (n1 : (xs == ("__debug__" : Str)) = false) (n2 : (xs == ("__classdict__" : Str)) = false) (n3 : (nm == ("__debug__" : Str)) = false)
    (hcl : cl.lookup xs = some c) (cell : r.heap.IsCell c (some (.ref a))) (ho : r.heap.get? a = some { cls := .type "list", dict := none, data := .seq its.toArray n, slots := sl }) (rv : Vals (ks.map V.int) its) (hlen : its.length ≤ sizeLine) (hz : z ∈ ks) :
    wpAny (model P w) A (call (.ref f) [.int z t]) (fun v r' => ∃ h' tk t', r' = { r with heap := h', toks := tk } ∧ v = .int (ks.idxOf z : Nat) t' ∧ ∀ b o, r.heap.get? b = some o → h'.get? b = some o) (fun _ _ => False) r := by
  refine wpAny_call (PySem.W.kla_callFunE dep hf rfl s1 s2 rfl hc ?_)
  show wpAny _ _ (bindArgs (PySem.W.kla_fn "<lambda>" q prm (.Call (.Attribute (.Name xs q1) "index" q2) [.Name nm q3] [] q4) sc cl pm (.ref c2) ct) _) _ _ _
  rw [bind]
  refine wpAny_pure (wpAny_newFunctionEnv s4 (fun x hx => by rw [List.mem_singleton.mp hx]; exact s5) (fun h1 hns hsb => ⟨lim.fresh _ hsb, ?_⟩) s3)
  show codeAny _ _ (.expr _ (PySem.W.envX q sc r.heap.objs.size f (.ref c2) cl)) _ _
  have kp : ∀ b o, r.heap.get? b = some o → h1.get? b = some o := fun b o e => hsb.extBut b o (Nat.ne_of_lt (Heap.lt_size e)) (Heap.get?_push_of_some _ e)
  refine PySem.W.kla_codeExpr ?_
  have ho1 := kp _ _ ho
  refine wpAny_Call_method_late (by rfl) (by rfl) line rfl (wpAny_Name (wpAny_loadName_free s3 s6 hcl (cell.keeps kp) ?_ n2) n1)
  refine ⟨"list", "list.index", PySem.F.plainAttrs_list, PySem.F.slot_list_index, PySem.F.type_list_index, ⟨_, ho1, rfl⟩, fun b e => ⟨_, by cases e; exact ho1, rfl⟩, ?_⟩
  refine Calls.callWith_builtin rfl (Calls.evalArgs_plain (Calls.spliced_cons (wpAny_Name (wpAny_loadName_local (v := .int z t) s3 s5 hns (by simp) (Calls.spliced_nil ?_)) n3)))
  have hj : ks.idxOf z < its.toArray.size := by
    have := rv.length
    rw [List.length_map] at this
    rw [List.size_toArray, ← this]
    exact List.idxOf_lt_length_iff.mpr hz
  have fys := flat_iL ks
  have at_of : ∀ m (hm : m < its.toArray.size), ∃ y, (iL ks)[m]? = some y ∧ L2.RelV y its.toArray[m] := fun m hm => by
    have hm' : m < its.length := by simpa using hm
    have hk : m < (iL ks).length := by have := rv.length; show m < (ks.map V.int).length; omega
    have e : (iL ks)[m]? = some (iL ks)[m] := List.getElem?_eq_getElem hk
    obtain ⟨u, hu, ru⟩ := rv.get e
    obtain ⟨_, he⟩ := List.getElem?_eq_some_iff.mp hu
    exact ⟨_, e, by rw [List.getElem_toArray, he]; exact ru⟩
  have ry : L2.RelV (V.int z) (.int z t) := ⟨t, rfl⟩
  refine call_meets PySem.F.slot_list_index ⟨_, ho1, rfl⟩ PySem.F.entry_list_index (PySem.F.args_list_index_2 _ _)
    (SeqAt.list_indexAt a its.toArray n none sl (.int z t) (eqU (.int z)) (ks.idxOf z) hj (by have h9 := sizeLine_eq; have h8 := hj; rw [List.size_toArray] at h8; omega) ?_ ?_) ⟨ho1, fun u hu => mem_eqAt ry rfl rv fys u (by simpa using hu), ?_⟩
  · obtain ⟨y, e, ru⟩ := at_of _ hj
    rw [eqU_of ru (flat_at fys e)]
    rw [idx_at hz] at e
    cases e
    exact eqV_int z
  · intro m hm hlt
    obtain ⟨y, e, ru⟩ := at_of m hm
    rw [eqU_of ru (flat_at fys e)]
    exact idx_no m y hlt e
  · exact ⟨_, _, _, rfl, rfl, kp⟩

section
variable {X : Cx} {pins : List (Addr × Obj)} {σ : L2.St} {G : Hp} {r : Shared}
theorem obj_there {P : Program} {w : World} {H : Hp} {h : Heap} {a : Addr} {o : HO} (x : ObjOk P w H h a o) : ∃ u, h.get? a = some u := by
  cases o with
  | lst xs => obtain ⟨_, _, _, _, e⟩ := x; exact ⟨_, e⟩
  | tup xs => obtain ⟨_, _, _, o, e, _⟩ := x; exact ⟨_, e⟩
  | dK kvs => obtain ⟨_, _, _, _, o, _, _, e, _⟩ := x; exact ⟨_, e⟩
  | dT kvs => obtain ⟨_, _, _, _, o, _, _, e, _⟩ := x; exact ⟨_, e⟩
  | set S n => obtain ⟨o, _, _, _, e, _⟩ := x; exact ⟨_, e⟩
  | ins C dx fs => obtain ⟨_, _, _, e, _⟩ := x; exact ⟨_, e⟩
  | own y => exact x
  | xd fs => obtain ⟨mA, ⟨o, _, _, e, _⟩, _⟩ := x; exact ⟨_, e⟩
  | rng lo hi => obtain ⟨_, _, _, e⟩ := x; exact ⟨_, e⟩
  | frz u v => exact ⟨_, x.1⟩
  | tbl ps => exact ⟨_, x⟩
  | met f y => exact ⟨_, x⟩
  | ext φ => exact x.2.1
theorem inv_new {h2 : Heap} {D tk : Nat} {o : HO} (I : Inv X pins σ G r) (kept : ∀ b u, b ≠ X.env.locals → r.heap.get? b = some u → h2.get? b = some u) (ns : ∀ m, r.heap.Ns X.env.locals m → h2.Ns X.env.locals m)
    (hD : r.heap.get? D = none) (nw : ObjOk X.prog X.w (upd G D o) h2 D o) : Inv X pins σ (upd G D o) { r with heap := h2, toks := tk } := by
  have nD : G D = none := by
    cases e : G D with
    | none => rfl
    | some u => 
      obtain ⟨ob, z⟩ := obj_there (I.hok D u e)
      rw [hD] at z
      cases z
  have ne : ∀ b u, r.heap.get? b = some u → b ≠ D := fun b u e z => by rw [z, hD] at e; cases e
  have nt : ∀ b u, G b = some u → b ≠ D := fun b u e => ne_of_none e nD
  have nl : ∀ b u, G b = some u → b ≠ X.env.locals := fun b u e => ne_of_none e I.free
  refine I.step (g' := r.gens) (d' := r.drawn) (ch := []) (fun b hb => absurd hb (by simp)) (fun b u n _ _ e _ => kept b u n e) (fun b u n _ _ e _ => ⟨u.slots, kept b u n e⟩) (fun b u _ e n => by rw [upd_ne (ne b u e)]; exact n)
    (fun b u _ e => ?_) (fun b xs e => by rw [upd_ne (nt b _ e)]; exact e) (fun b u v e => by rw [upd_ne (nt b _ e)]; exact e) (fun b ps e => ⟨#[], by rw [upd_ne (nt b _ e), e]; simp⟩) ns (fun b u e => ?_) I.bare
  · by_cases hb : b = X.env.locals
    · obtain ⟨m, hn, _⟩ := I.loc
      obtain ⟨o1, _, _, z, _⟩ := ns m hn
      rw [hb]
      exact ⟨o1, z⟩
    · exact ⟨u, kept b u hb e⟩
  · by_cases hb : b = D
    · rw [hb, upd_same] at e
      cases e
      rw [hb]
      exact nw
    · rw [upd_ne hb] at e
      refine (I.hok b u e).stay (fun d v hd q => kept d v ?_ q) (fun d q => by rw [upd_ne (nt d _ q)]; exact q) (fun d xs q => by rw [upd_ne (nt d _ q)]; exact q)
      rcases hd with z | z
      · rw [z]; exact nl b u e
      · exact nl d _ z
def allNews (base h : Heap) (L : Addr) : List (Addr × Obj) := (List.range h.objs.size).filterMap fun b => match h.get? b with
  | some o => if b ≠ L ∧ base.get? b = none then some (b, o) else none
  | none => none
theorem allNews_mem {base h : Heap} {L b : Addr} {o : Obj} : (b, o) ∈ allNews base h L ↔ h.get? b = some o ∧ b ≠ L ∧ base.get? b = none := by
  unfold allNews
  rw [List.mem_filterMap]
  constructor
  · rintro ⟨x, _, hx⟩
    cases e : h.get? x with
    | none => rw [e] at hx; cases hx
    | some u =>
      rw [e] at hx
      dsimp only at hx
      split at hx
      · rename_i z
        cases hx
        exact ⟨e, z⟩
      · cases hx
  · rintro ⟨e, z⟩
    refine ⟨b, List.mem_range.mpr (Heap.lt_size e), ?_⟩
    rw [e]
    exact if_pos z
end

section
variable {X : Cx}
def tSrtLam (T : List (Addr × Str)) (j : Nat) (tl : TE) : TE := fun σ H Q => tl σ H fun x H1 => ∃ (l a : Addr) (p q : Int) (ks : List Int), x = .ref l ∧ H1 l = some (.lst [.int p, .int q]) ∧ σ[j]? = some (some (.ref a)) ∧ H1 a = some (.lst (iL ks)) ∧ p ∈ ks ∧ q ∈ ks ∧ LamX.Tabs T H1 ∧
  ∀ (H2 : Hp) (D : Addr), LamX.ExtN H1 H2 → (∀ b, H2 b = none → H1 b = none) → LamX.Tabs T H2 → H2 D = some (.lst (if ks.idxOf q < ks.idxOf p then [.int q, .int p] else [.int p, .int q])) → H1 D = none → Q (.ref D) H2
theorem pe_sortlam {T : List (Addr × Str)} {c0 P0 : Addr} {j : Nat} {ls : Expr} {tl : TE} {p0 q1 q2 q3 q4 pk pl pc : Pos} {prm : Arguments} {sc : Scope} {nm xs : Str} (hls : PE X ls tl) (hr : Room 0 X.A) (TB : LamX.TabB X.base X.mg c0 P0) (cd : X.env.code = .ref c0)
    (mem : (P0, X.env.qual ++ "<lambda>") ∈ T) (uni : ∀ z ∈ T, z.1 = P0 → z.2 = X.env.qual ++ "<lambda>") (hm : X.mg "sorted" = none) (hg : Gl X "sorted") (hN : X.N[j]? = some xs) (hxs : X.env.scope.names.lookup xs = some .cell)
    (nod : defaultsOf prm X.env = ([], [])) (fre : ∀ y ∈ sc.names, y.2 = .free → X.env.scope.names.lookup y.1 = some .cell)
    (bind : ∀ (v : Value) (cl : List (Str × Addr)) (pm : Value) (c2 : Addr) (ct : Value), bindArgs (PySem.W.kla_fn "<lambda>" (X.env.qual ++ "<lambda>") prm (.Call (.Attribute (.Name xs q1) "index" q2) [.Name nm q3] [] q4) sc cl pm (.ref c2) ct) ⟨[v], []⟩ = pure [(nm, v)])
    (s1 : sc.isCoroutine = false) (s2 : sc.isGenerator = false) (s3 : sc.kind = .function) (s4 : ∀ x ∈ sc.names, x.2 ≠ .cell) (s5 : sc.names.lookup nm = some .local) (s6 : sc.names.lookup xs = some .free) (line : (q2.endLine == q4.line) = true)
    (n1 : (xs == ("__debug__" : Str)) = false) (n2 : (xs == ("__classdict__" : Str)) = false) (n3 : (nm == ("__debug__" : Str)) = false)
    (he : backTo pc (starEach [ls] X.env) = [(false, eval ls X.env)]) :
    PE X (.Call (.Name "sorted" p0) [ls] [⟨some "key", .Lambda prm (.Call (.Attribute (.Name xs q1) "index" q2) [.Name nm q3] [] q4) sc pl, pk⟩] pc) (tSrtLam T j tl) := by
  refine ⟨fun pins s σ H Q I h => ?_⟩
  refine wpAny_Call_Name_kw (ld_blt (u := .builtin "sorted") I hg hm (by decide +kernel) ?_)
  refine PyProof.Rows.callWith_kw ?_ he (by rw [he]; rfl) rfl rfl
  rw [he]
  refine Calls.spliced_cons (thn (hls.run pins s σ H _ I h) fun u r1 ⟨x, H1, I1, rx, q1⟩ => Calls.spliced_nil ?_)
  obtain ⟨l, a, p, q, ks, rfl, hl, hj, ha, hp, hq, tabs, k⟩ := q1
  obtain rfl : u = Value.ref l := rx
  show wpAny _ _ (evalAll [do let v ← eval (.Lambda prm (.Call (.Attribute (.Name xs q1) "index" q2) [.Name nm q3] [] q4) sc pl) X.env; standAt pc; pure v]) _ _ r1
  refine wpAny_evalAll_cons (wpAny_bind (lam_new I1 TB cd mem uni tabs nod (fun y hy e => I1.ok.has _ (.inl (fre y hy e))) fun f c2 pm ct G r J ext dm tabs2 hf fL fB hc2 => wpAny_bind (wpAny_standAt (wpAny_pure (wpAny_evalAll_nil ?_)))))
  show wpAny _ _ (call (.builtin "sorted") [.ref l] [(Str.ofString "key", .ref f)]) _ _ r
  have hl2 : G l = some (.lst [.int p, .int q]) := ext _ _ hl (fun ps z => by cases z)
  have ha2 : G a = some (.lst (iL ks)) := ext _ _ ha (fun ps z => by cases z)
  obtain ⟨its, rv, ⟨⟨cls, dd, data, sl⟩, n, ho, hcl, hdn, hd⟩, hlen⟩ := J.list (SqL.of ha2)
  simp only at hcl hd hdn
  subst hcl hd hdn
  obtain ⟨itl, rl, pl2, _⟩ := J.list (SqL.of hl2)
  obtain ⟨v1, v2, rfl, r1', r2'⟩ := Vals.two rl
  obtain ⟨t1, rfl⟩ : ∃ t, v1 = .int p t := r1'
  obtain ⟨t2, rfl⟩ : ∃ t, v2 = .int q t := r2'
  obtain ⟨m, Ns, look⟩ := J.loc
  have F : Fr X.base X.env.locals r.heap m := ⟨Ns, J.bk, Nat.le_trans J.ok.bsz J.ok.above⟩
  have N : News X.base X.env.locals r.heap (allNews X.base r.heap X.env.locals) := fun z hz => allNews_mem.mp hz
  have kept : ∀ {h' : Heap} {more : List (Addr × Obj)}, Fr X.base X.env.locals h' m → (∀ z ∈ allNews X.base r.heap X.env.locals, z ∈ more) → News X.base X.env.locals h' more → ∀ b o, b ≠ X.env.locals → r.heap.get? b = some o → h'.get? b = some o := fun {h' more} F' sub N' b o hb e => by
    cases eb : X.base.get? b with
    | some u =>
      have := J.bk _ _ eb
      rw [e] at this
      cases this
      exact F'.keep _ _ eb
    | none => exact (N' _ (sub _ (allNews_mem.mpr ⟨e, hb, eb⟩))).1
  have nL : ∀ {b : Addr} {u : HO}, G b = some u → b ≠ X.env.locals := fun e => ne_of_none e J.free
  obtain ⟨ua, rua, lka⟩ := look j xs (.ref a) hN hj (.inr (.inl hxs))
  obtain rfl : ua = Value.ref a := rua
  obtain ⟨c, hc, cell⟩ : ∃ c, X.env.cells.lookup xs = some c ∧ r.heap.IsCell c (some (.ref a)) := by
    rcases lka with ⟨z, _⟩ | ⟨_, c, z1, z2⟩
    · have z : X.env.scope.names.lookup xs = some .local := z
      rw [hxs] at z
      cases z
    · exact ⟨c, z1, z2⟩
  have hfree : ∀ y ∈ sc.names, y.2 = .free → ∃ c, X.env.cells.lookup y.1 = some c := fun y hy e => I1.ok.has _ (.inl (fre y hy e))
  have hcc : (cloFrom X.env.cells sc.names []).lookup xs = some c := by
    obtain ⟨c5, e5⟩ := mem_lookup (cloFrom_has (cells := X.env.cells) (acc := []) (PySem.mem_of_lookup s6))
    rcases cloFrom_mem (PySem.mem_of_lookup e5) with z | ⟨_, z⟩
    · cases z
    · have z2 : c5 = c := by rw [z, hc] <;> rfl
      rw [e5, z2]
  have cL : c ≠ X.env.locals := fun z => by
    obtain ⟨o, e1, e2⟩ := cell
    obtain ⟨o2, _, _, e3, e4, _⟩ := Ns
    rw [z, e3] at e1
    cases e1
    rw [e4] at e2
    cases e2
  have itn : its.length ≤ sizeLine := by rw [← rv.length]; exact hlen
  have turn : ∀ (z : Int) (t : Tok), z ∈ ks → ∀ (h : Heap) (tk : Nat) (own : List (Addr × Obj)), Fr X.base X.env.locals h m → News X.base X.env.locals h (allNews X.base r.heap X.env.locals ++ own) →
      wpAny (model X.prog X.w) X.A.in1.in1 (call (.ref f) [.int z t]) (KskEnd X.base X.env.locals m (allNews X.base r.heap X.env.locals ++ own) (ks.idxOf z : Nat) { r with heap := h, toks := tk }) (fun _ _ => False) { r with heap := h, toks := tk } := fun z t hz h tk own F' N' => by
    have kp := kept F' (fun z hz => List.mem_append_left _ hz) N'
    obtain ⟨⟨oc, ws, tc, hoc, hdc, hvc⟩, _, _⟩ := J.hok c2 _ hc2
    have T := lam_turn (P := X.prog) (w := X.w) (A := X.A.in1.in1) (r := { r with heap := h, toks := tk }) (f := f) (c2 := c2) (c := c) (a := a) (pm := pm) (ct := ct) (prm := prm) (sc := sc) (nm := nm) (xs := xs) (q := X.env.qual ++ "<lambda>") (q1 := q1) (q2 := q2) (q3 := q3) (q4 := q4) (ks := ks) (its := its) (n := n) (sl := sl) (z := z) (t := t)
      (kp _ _ fL hf) ⟨c2, oc, ws, tc, rfl, kp _ _ (nL hc2) hoc, hdc, hvc⟩ (J.ok.mod.nolimit.keeps F'.keep) (by have := hr.dp; show X.A.depth < recursionLimit; omega) (fun v => bind v _ _ _ _) s1 s2 s3 s4 s5 s6 line n1 n2 n3 hcc
      (by obtain ⟨o, e1, e2⟩ := cell; exact ⟨o, kp _ _ cL e1, e2⟩) (kp _ _ (nL ha2) ho) rv itn hz
    refine wpAny_mono T (fun v r' ⟨h', tk', t', e1, e2, kp2⟩ => ?_) fun _ _ z => z
    obtain ⟨oL, a1, a2, hL, a3⟩ := F'.ns
    exact ⟨h', tk', t', e1, e2, ⟨⟨oL, a1, a2, kp2 _ _ hL, a3⟩, fun b o e => kp2 _ _ (F'.keep _ _ e), F'.above⟩, fun y hy => ⟨kp2 _ _ (N' y hy).1, (N' y hy).2⟩⟩
  have fin : ∀ (xs2 : List Int) (us : List Value) (D cn : Nat) (h' : Heap) (tk : Nat), Fr X.base X.env.locals h' m → News X.base X.env.locals h' ((D, PySem.W.listOf us.toArray cn) :: allNews X.base r.heap X.env.locals) → (∀ q ∈ allNews X.base r.heap X.env.locals, q.1 < D) →
      Vals (xs2.map V.int) us → xs2.length = 2 → xs2 = (if ks.idxOf q < ks.idxOf p then [q, p] else [p, q]) → EP X pins σ Q (.ref D) { r with heap := h', toks := tk } := fun xs2 us D cn h' tk F' N' lt rus l2 hx => by
    have kp := kept F' (fun z hz => List.mem_cons_of_mem _ hz) N'
    obtain ⟨gD, DL, Db⟩ := N' _ (List.mem_cons_self ..)
    have hD : r.heap.get? D = none := by
      cases e : r.heap.get? D with
      | none => rfl
      | some o => exact absurd (lt _ (allNews_mem.mpr ⟨e, DL, Db⟩)) (Nat.lt_irrefl _)
    have nD : G D = none := by
      cases e : G D with
      | none => rfl
      | some u =>
        obtain ⟨ob, z⟩ := obj_there (J.hok D u e)
        rw [hD] at z
        cases z
    have ns : ∀ m', r.heap.Ns X.env.locals m' → h'.Ns X.env.locals m' := fun m' h' => by
      obtain ⟨o1, es1, ep1, y1, y2, y3, y4⟩ := h'
      obtain ⟨o2, es2, ep2, z1, z2, z3, z4⟩ := Ns
      obtain ⟨o3, es3, ep3, w1, w2, w3, w4⟩ := F'.ns
      rw [z1] at y1
      cases y1
      rw [z2] at y2
      cases y2
      exact ⟨o3, es3, ep3, w1, w2, w3, fun x => by rw [w4, ← z4, y4]⟩
    have J2 := inv_new (tk := tk) (o := .lst (xs2.map V.int)) J kp ns hD ⟨by rw [List.length_map, l2]; decide, us, cn, rus, gD⟩
    have e3 : LamX.ExtN G (upd G D (.lst (xs2.map V.int))) := fun b o e _ => by rw [upd_ne (ne_of_none e nD)]; exact e
    refine ⟨.ref D, _, J2, rfl, k _ D (ext.trans e3) (fun b e => dm b (upd_nn e)) (tabs2.ext fun b o e => by rw [upd_ne (ne_of_none e nD)]; exact e) ?_ (dm _ nD)⟩
    rw [upd_same, hx]
    split <;> rfl
  refine ksk_two (b := false) (ks.idxOf p : Nat) (ks.idxOf q : Nat) F N pl2.isList (ksk_s1 _ _) (fun _ => ksk_l1 _ _) (fun _ => ksk_t1 _ _) (turn p t1 hp) (turn q t2 hq) (fun hle D cn h' tk F' N' lt => ?_) (fun hle D cn h' tk F' N' lt => ?_)
  · refine fin [p, q] _ D cn h' tk F' N' lt (.cons ⟨t1, rfl⟩ (.cons ⟨t2, rfl⟩ .nil)) rfl ?_
    have hle : ((ks.idxOf p : Nat) : Int) ≤ (ks.idxOf q : Nat) := hle
    rw [if_neg (by omega)]
  · refine fin [q, p] _ D cn h' tk F' N' lt (.cons ⟨t2, rfl⟩ (.cons ⟨t1, rfl⟩ .nil)) rfl ?_
    have hle : ((ks.idxOf q : Nat) : Int) ≤ (ks.idxOf p : Nat) := hle
    by_cases e : ks.idxOf q < ks.idxOf p
    · rw [if_pos e]
    · have e2 : ks.idxOf q = ks.idxOf p := by omega
      have e3 : p = q := by
        have := idx_at hp
        rw [← e2, idx_at hq] at this
        exact (V.int.inj (Option.some.inj this)).symm
      rw [if_neg e, e3]
end

/-- a def that makes a lambda: its code object by name -/
theorem okT {CX : CXT} {P : Program} {w : World} {K : PySem.W.Frag} {mg : Str → Option Value} {base : Heap} {x qual : Str} {params : Arguments} {body : List Stmt} {scope : Scope} {dvs : List V} {kws : List (Str × V)} {p : He.Defn} {fd : FuncData} {N ps : List Str} {k : Nat} {sp : Sp}
    (F : FunD K x qual params body scope dvs kws (He.fAd K p) fd) (S : FnScope N ps scope) (len : ∀ vs H Q E, sp vs H Q E → vs.length = ps.length)
    (walk : ∀ (A : Around) (outer : List Env) (s : Shared) (H : Hp) (vs : List V) (Q : VK) (E : XK), Room k (A.deeper (envOfC qual scope s.heap.objs.size (He.fAd K p) (.ref (He.cT K p).1))) → sp vs H Q E →
      ∃ t, PSs (cxOf CX P w K mg base N qual scope (He.fAd K p) (.ref (He.cT K p).1) A outer s H E) body t ∧ t { nx := fun _ H' => Q .non H', rt := Q } (start N vs) H) : FnOk P w K mg base CX (k + 1) (He.fAd K p) fd ps sp := by
  obtain ⟨oc, od, dV, kV, doc, pm, an, cdv, ct, osl, rfl, lk, hcd, _, _⟩ := F.ex
  obtain ⟨c, rfl⟩ := He.codeIn_ref hcd
  have e : (He.cT K p).1 = c := He.codeOf_eq lk rfl
  refine fn_of lk hcd S len fun A outer s H vs Q E hr hsp => ?_
  have z := walk A outer s H vs Q E (by rw [e]; exact hr) hsp
  rw [e] at z
  exact z

/-! ### mend -/
theorem dec_int {a b : Int} : decide (V.int a = V.int b) = decide (a = b) := by
  by_cases h : a = b
  · rw [decide_eq_true h, decide_eq_true (congrArg V.int h)]
  · rw [decide_eq_false h, decide_eq_false (fun z => h (V.int.inj z))]
/-- two neighbours below a page, locked -/
structure MendOk (M : Mc) (h : Nat) (above a b k : Int) : Prop where
  deed : (M.ha h).prog[(M.ha h).at_]? = some (.take k)
  hA : above ∈ (M.ha h).held
  ha : a ∈ (M.ha h).held
  hb : b ∈ (M.ha h).held
  lies : M.fo.child above k = a ∨ M.fo.child above k = b
  pg : ∃ u p1 p2, above ≠ 0 ∧ M.fo.pages above = some u ∧ M.fo.pages a = some p1 ∧ M.fo.pages b = some p2 ∧ above ≠ a ∧ above ≠ b ∧ a ∈ u.kids ∧ b ∈ u.kids ∧ place u.row k < u.kids.length ∧
    u.kids.length = u.row.length + 1 ∧ (u.kids.idxOf a + 1 = u.kids.idxOf b ∨ u.kids.idxOf b + 1 = u.kids.idxOf a) ∧ (p1.kids ≠ [] → 1 ≤ p2.kids.length) ∧ (p2.kids ≠ [] → 1 ≤ p1.kids.length)
theorem mend_eq {M : Mc} {h : Nat} {above a b k left right : Int} (hl : left = if (M.fo.pg above).kids.idxOf b < (M.fo.pg above).kids.idxOf a then b else a) (hr : right = if (M.fo.pg above).kids.idxOf b < (M.fo.pg above).kids.idxOf a then a else b) :
    M.mend h above a b k = (if 1 < (M.fo.pg (left + right - M.fo.child above k)).row.length then
      (({ M with fo := M.fo.moved above left right (decide (M.fo.child above k = left)) }).leave1 h (left + right - M.fo.child above k), .moves (M.fo.child above k) (left + right - M.fo.child above k))
    else if (M.fo.pg above).row.length = 1 then
      ({ (({ M with fo := M.fo.joined above left right }).leave1 h right).leave1 h above with fo := { (M.fo.joined above left right).del above with root := left } }, .joins left right)
    else (({ M with fo := M.fo.joined above left right }).leave1 h right, .joins left right)) := by
  subst hl hr
  rfl
def sp_Machine_mend (K : PySem.W.Frag) : Sp := fun vs H Q _ => ∃ (A : Lay) (M : Mc) (h : Nat) (above a b k : Int), vs = [.ref (A.m .mO), .int h, .int above, .int a, .int b] ∧ Rep K H A M ∧ TabsOk K H ∧ h < M.n ∧ Safe M ∧ MendOk M h above a b k ∧ spStep K (fun _ => True) (M.mend h above a b k) A M H Q
/-! ### take -/
theorem ToldAt.back {H0 H1 H : Hp} {f : Addr → Prop} {v : V} {t : Told} (h : ToldAt H1 H f v t) (dm : ∀ b, H1 b = none → H0 b = none) : ToldAt H0 H f v t := by
  obtain ⟨a, e1, e2, e3⟩ := h
  refine ⟨a, e1, dm _ e2, ?_⟩
  cases t with
  | ends x =>
    cases x with
    | b y => exact e3
    | l xs =>
      obtain ⟨q, q1, q2, q3, q4⟩ := e3
      exact ⟨q, q1, q2, dm _ q3, q4⟩
  | _ => exact e3
/-- what a take meets at the pages it has locked -/
structure TakeOk (M : Mc) (h : Nat) (k : Int) : Prop where
  deed : (M.ha h).prog[(M.ha h).at_]? = some (.take k)
  ne : (M.ha h).held ≠ []
  last : M.lastP h ≠ 0 ∧ ∃ p, M.fo.pages (M.lastP h) = some p
  two : ∀ a b, (M.ha h).held.dropLast.filter (fun x => decide (x ≠ 0)) = [a, b] → MendOk M h a b (M.lastP h) k
  few : ((M.ha h).held.dropLast.filter (fun x => decide (x ≠ 0))).length ≤ 2
  nb : ∀ p a, M.fo.pages (M.lastP h) = some p → (M.ha h).held.dropLast.filter (fun x => decide (x ≠ 0)) = [a] → p.row.length = 1 → NbOk M h a (M.lastP h)
  kid : ∀ p, M.fo.pages (M.lastP h) = some p → p.kids ≠ [] → place p.row k < p.kids.length
def sp_Machine_take (K : PySem.W.Frag) : Sp := fun vs H Q _ => ∃ (A : Lay) (M : Mc) (h : Nat) (k : Int), vs = [.ref (A.m .mO), .int h] ∧ Rep K H A M ∧ TabsOk K H ∧ h < M.n ∧ Safe M ∧ TakeOk M h k ∧ spStep K (fun _ => True) (M.take h k) A M H Q
/-! ### work, turn -/
def deedW : Deed → Str
  | .put _ => "put"
  | .take _ => "take"
  | .ask _ => "ask"
  | .walk _ _ => "walk"
theorem deedV_at {d : Deed} : (deedV d)[0]? = some (V.str (deedW d)) ∧ (deedV d)[1]? = some (V.int d.key) := by cases d <;> exact ⟨rfl, rfl⟩
theorem str_no {a b : Str} (h : a ≠ b) : decide (V.str a = V.str b) = false := decide_eq_false fun z => h (V.str.inj z)
theorem str_yes {a : Str} : decide (V.str a = V.str a) = true := decide_eq_true rfl
theorem w1 : ("take" : Str) ≠ "put" := by decide +kernel
theorem w2 : ("ask" : Str) ≠ "put" := by decide +kernel
theorem w3 : ("ask" : Str) ≠ "take" := by decide +kernel
theorem w4 : ("ask" : Str) ≠ "walk" := by decide +kernel
theorem w5 : ("walk" : Str) ≠ "put" := by decide +kernel
theorem w6 : ("walk" : Str) ≠ "take" := by decide +kernel
/-- what a step's work may meet -/
structure WorkOk (M : Mc) (h : Nat) (d : Deed) : Prop where
  deed : (M.ha h).prog[(M.ha h).at_]? = some d
  ne : (M.ha h).held ≠ []
  put : ∀ k, d = .put k → M.lastP h ≠ 0 → PutOk M h k
  take : ∀ k, d = .take k → M.lastP h ≠ 0 → TakeOk M h k
  pg : M.lastP h ≠ 0 → ∃ p, M.fo.pages (M.lastP h) = some p ∧ (p.kids ≠ [] → place p.row d.key < p.kids.length) ∧ (p.kids = [] → ∀ lo hi, d = .walk lo hi → WalkOk M h lo hi)
def sp_Machine_work (K : PySem.W.Frag) : Sp := fun vs H Q _ => ∃ (A : Lay) (M : Mc) (h : Nat) (d : Deed), vs = [.ref (A.m .mO), .int h] ∧ Rep K H A M ∧ TabsOk K H ∧ h < M.n ∧ Safe M ∧ WorkOk M h d ∧ spStep K (fun _ => True) (M.work h) A M H Q
/-- a hand's step may be done -/
structure TurnOk (M : Mc) (h : Nat) : Prop where
  safe : Safe M
  work : M.rests h = false → (M.ha h).want = none → (M.ha h).held ≠ [] → ∃ d, WorkOk M h d
def sp_Machine_turn (K : PySem.W.Frag) : Sp := fun vs H Q _ => ∃ (A : Lay) (M : Mc) (h : Nat), vs = [.ref (A.m .mO), .int h] ∧ Rep K H A M ∧ TabsOk K H ∧ h < M.n ∧ TurnOk M h ∧ spStep K (fun _ => True) (M.turn h) A M H Q
/-! ### what is asked of a machine -/
def sp_Machine_locked (K : PySem.W.Frag) : Sp := fun vs H Q _ => ∃ (A : Lay) (M : Mc) (h : Nat), vs = [.ref (A.m .mO), .int h] ∧ Rep K H A M ∧ h < M.n ∧ ∀ p H', H p = none → Same H H' → H' p = some (.lst (iL (M.ha h).held)) → Q (.ref p) H'
def sp_Machine_wanted (K : PySem.W.Frag) : Sp := fun vs H Q _ => ∃ (A : Lay) (M : Mc) (h : Nat), vs = [.ref (A.m .mO), .int h] ∧ Rep K H A M ∧ h < M.n ∧ Q (optV (M.ha h).want) H
def sp_Machine_root_now (K : PySem.W.Frag) : Sp := fun vs H Q _ => ∃ (A : Lay) (M : Mc), vs = [.ref (A.m .mO)] ∧ Rep K H A M ∧ Q (.int M.fo.root) H
def sp_Machine_order (K : PySem.W.Frag) : Sp := fun vs H Q _ => ∃ (A : Lay) (M : Mc), vs = [.ref (A.m .mO)] ∧ Rep K H A M ∧ ∀ (es : List Addr) p H', Paired (EndAt H) es M.ends → H p = none → Same H H' → H' p = some (.lst (es.map V.ref)) → Q (.ref p) H'
theorem done_iff {M : Mc} : decide (((List.range M.n).filter fun h => !M.rests h) = []) = M.done := by
  unfold Mc.done
  rw [Bool.eq_iff_iff, decide_eq_true_iff, List.filter_eq_nil_iff, List.all_eq_true]
  simp
theorem decide_map_nil {xs : List Nat} : decide ((xs.map Int.ofNat) = []) = decide (xs = []) := by cases xs <;> simp
def sp_Machine_is_done (K : PySem.W.Frag) : Sp := fun vs H Q _ => ∃ (A : Lay) (M : Mc), vs = [.ref (A.m .mO)] ∧ Rep K H A M ∧ M.n ≤ 1000 ∧ ∀ H', Same H H' → Q (.bl M.done) H'
def sp_Machine_pages_now (K : PySem.W.Frag) : Sp := fun vs H Q _ => ∃ (A : Lay) (M : Mc), vs = [.ref (A.m .mO)] ∧ Rep K H A M ∧ Safe M ∧ ∀ H' t ts, Same H H' → H t = none → H' t = some (.lst (ts.map V.ref)) → Paired (RowAt H') ts M.fo.rows → (∀ a ∈ ts, H a = none) → Q (.ref t) H'
/-! ### the step may be done -/
theorem INV.safe {M : Mc} {g : Gh} {mu : Nat → Nat} (I : INV M g mu) : Safe M := by
  have T := I.tree
  have l0 := I.last0
  have hb := I.bound
  refine ⟨fun n p hp => ?_, l0, by omega, I.nd, fun h hh p hp => by rw [(I.lks p h).mpr ⟨hh, hp⟩]; rfl, fun p hp => ?_, ?_, fun h hh => ?_⟩
  · have P := T.page n p hp
    refine ⟨P.pos, T.last n p hp, P.most, ?_⟩
    rcases P.body with ⟨_, e, _⟩ | ⟨v, _, _, _, ch⟩
    · rw [e]; simp
    · have := ch.len
      have := P.most
      omega
  · obtain ⟨j, hj⟩ := Option.isSome_iff_exists.mp hp
    obtain ⟨j1, j2⟩ := (I.lks p j).mp hj
    have HJ := I.hand j j1
    have : p = 0 ∨ ∃ q, M.fo.pages p = some q := by
      rcases Nat.lt_or_ge (M.ha j).at_ (M.ha j).prog.length with w | w
      · obtain ⟨kk, _, _, s⟩ := HJ.go w
        exact s.held T p j2
      · rw [(HJ.rest (Nat.le_antisymm HJ.le w)).1] at j2
        simp at j2
    rcases this with w | ⟨q, w⟩
    · omega
    · have := (T.page _ _ w).pos
      have := T.last _ _ w
      omega
  · rw [I.ends]
    have hle : ∀ n, n ≤ M.n → sumN n (fun h => (M.ha h).at_) ≤ 40 * n := fun n => by
      induction n with
      | zero => intro _; exact Nat.le_refl _
      | succ n ih =>
        intro hn
        rw [sumN_succ]
        have := ih (by omega)
        have := (I.hand n (by omega)).le
        have := I.plen n (by omega)
        omega
    have := hle M.n (Nat.le_refl _)
    have := I.n4
    omega
  · rw [I.said h hh]
    have := (I.hand h hh).le
    have := I.plen h hh
    omega
theorem place_le {row : List Int} {k : Int} : place row k ≤ row.length := List.length_filter_le _ _
theorem place_ok {F : Fo} {g : Gh} (T : FoOk F g) {n : Int} {p : Pg} (hp : F.pages n = some p) (hk : p.kids ≠ []) (k : Int) : place p.row k < p.kids.length := by
  rcases (T.page n p hp).body with ⟨_, e, _⟩ | ⟨v, _, _, _, ch⟩
  · exact absurd e hk
  · have := ch.len
    have := place_le (row := p.row) (k := k)
    omega
theorem INV.turnOk {M : Mc} {g : Gh} {mu : Nat → Nat} (I : INV M g mu) {h : Nat} (hh : h < M.n) : TurnOk M h := by
  have T := I.tree
  refine ⟨I.safe, fun hr wn ne => ?_⟩
  have lt : (M.ha h).at_ < (M.ha h).prog.length := by
    have := (I.hand h hh).le
    unfold Mc.rests at hr
    have := of_decide_eq_false hr
    omega
  obtain ⟨k, hm, hk9, s⟩ := (I.hand h hh).go lt
  have dm := (deed_mem lt).1
  have held := s.held T
  have page : ∀ {x : Int} {q : Pg}, M.fo.pages x = some q → x ≠ 0 := fun {x q} hx => by have := (T.page _ _ hx).pos; omega
  have leafrow : ∀ {x : Int} {q : Pg}, M.fo.pages x = some q → q.kids = [] → q.row.Pairwise (· ≤ ·) := fun {x q} hx hk => by
    have P := T.page _ _ hx
    exact (P.leaf (P.leaf_iff.mp hk)).2.1.1.imp fun {a b} z => by omega
  have pg : M.lastP h ≠ 0 → ∃ p, M.fo.pages (M.lastP h) = some p ∧ (p.kids ≠ [] → place p.row (M.deed h).key < p.kids.length) ∧ (p.kids = [] → ∀ lo hi, M.deed h = .walk lo hi → WalkOk M h lo hi) := fun l0 => by
    have hl : M.lastP h ∈ (M.ha h).held := last_mem ne
    obtain ⟨q, hq⟩ := (held _ hl).resolve_left l0
    exact ⟨q, hq, fun hk => place_ok T hq hk _, fun hk lo hi hd => ⟨by rw [← hd]; exact dm, ne, held, q, l0, hq, hk⟩⟩
  refine ⟨M.deed h, dm, ne, fun key hd l0 => ?_, fun key hd l0 => ?_, pg⟩
  · obtain ⟨q, hq, hkid, _⟩ := pg l0
    refine ⟨by rw [← hd]; exact dm, ne, q, l0, hq, fun h3 => ?_, fun _ hk => place_ok T hq hk _, fun hk => leafrow hq hk⟩
    have hlast : M.lastP h = (M.ha h).held.getLastD 0 := rfl
    generalize (M.ha h).held = he at *
    generalize (M.ha h).again = ag at *
    rw [wn] at s
    cases s with
    | idle => exact absurd rfl ne
    | gate => exact absurd hlast l0
    | one e => exact ⟨Nat.le_refl _, fun z => absurd rfl z⟩
    | @two pre p c u q' t hu hc hq' hi ok =>
      rw [gl1] at hlast
      rw [dl1, snoc_last, hlast]
      refine ⟨by simp, fun _ => ⟨fun z => ?_, u, hu, hc⟩⟩
      obtain ⟨_, _, w, _⟩ := T.kid hu hc
      rw [z] at w; omega
    | three t hu ma mb hc hq h1 hi hd' ok adj => rw [hd] at hd'; cases hd'
    | leafs hd' ch h0 => rw [hd] at hd'; cases hd'
  · obtain ⟨q, hq, hkid, _⟩ := pg l0
    have hlast : M.lastP h = (M.ha h).held.getLastD 0 := rfl
    have hmem : ∀ {x}, x ∈ (M.ha h).held → x ∈ (M.ha h).held := fun {x} z => z
    generalize hhe : (M.ha h).held = he at *
    generalize (M.ha h).again = ag at *
    rw [wn] at s
    have deed' : (M.ha h).prog[(M.ha h).at_]? = some (.take key) := by rw [← hd]; exact dm
    cases s with
    | idle => exact absurd rfl ne
    | gate => exact absurd hlast l0
    | one e =>
      refine ⟨deed', by rw [hhe]; exact ne, ⟨l0, q, hq⟩, fun a b z => ?_, by rw [hhe]; simp, fun p a _ z => ?_, fun p hp hk => place_ok T hp hk _⟩
      · rw [hhe] at z; simp at z
      · rw [hhe] at z; simp at z
    | @two pre p c u q' t hu hc hq' hi ok =>
      have fl : ((pre ++ [p, c]).dropLast.filter fun x => decide (x ≠ 0)) = [p] := by rw [dl1, List.filter_append, filt0 t]; simp [page hu]
      refine ⟨deed', by rw [hhe]; exact ne, ⟨l0, q, hq⟩, fun a b z => ?_, by rw [hhe, fl]; simp, fun p' a hp' z h1 => ?_, fun p hp hk => place_ok T hp hk _⟩
      · rw [hhe, fl] at z; simp at z
      · rw [hhe, fl] at z
        have : p = a := by simpa using z
        subst this
        rw [gl1] at hlast
        refine ⟨⟨u, hu, by rw [hlast]; exact hc, ?_⟩, by rw [hhe, hlast]; simp⟩
        rcases (T.page _ _ hu).body with ⟨_, e, _⟩ | ⟨v, _, w, _, ch⟩
        · rw [e] at hc; simp at hc
        · have := ch.len; omega
    | @three pre p a b c key' u q' t hu ma mb hc hq' h1 hi hd' ok adj =>
      have kd : ∀ {x}, x ∈ u.kids → ∃ qx, M.fo.pages x = some qx ∧ x ≠ 0 ∧ p ≠ x := fun {x} hx => by
        obtain ⟨qx, w, w2, _⟩ := T.kid hu hx
        exact ⟨qx, w, page w, fun z => by rw [z] at w2; omega⟩
      obtain ⟨pa, a1, a2, a3⟩ := kd ma
      obtain ⟨pb, b1, b2, b3⟩ := kd mb
      have fl : ((pre ++ [p, a, b]).dropLast.filter fun x => decide (x ≠ 0)) = [p, a] := by rw [dl2, List.filter_append, filt0 t]; simp [page hu, a2]
      rw [gl2] at hlast
      refine ⟨deed', by rw [hhe]; exact ne, ⟨l0, q, hq⟩, fun x y z => ?_, by rw [hhe, fl]; simp, fun p' x hp' z h1 => ?_, fun p hp hk => place_ok T hp hk _⟩
      · rw [hhe, fl] at z
        have z' : p = x ∧ a = y := by simpa using z
        obtain ⟨z1, z2⟩ := z'
        subst z1; subst z2
        rw [hlast]
        have adj2 : u.kids.idxOf a + 1 = u.kids.idxOf b ∨ u.kids.idxOf b + 1 = u.kids.idxOf a := by
          rcases adj with w | ⟨_, w⟩
          · exact .inl w
          · exact .inr w
        have hk2 : key' = key := by rw [hd] at hd'; injection hd' with e; exact e.symm
        subst hk2
        have md : Mend M g h pre p a b c key' u q' := ⟨hhe, t, hu, ma, mb, hc, hq', h1, hi, ok, adj2⟩
        have hl := md.lies T
        have uk : u.kids ≠ [] := fun z => by rw [z] at ma; simp at ma
        have lv1 : g.lv a = g.lv b := by
          obtain ⟨_, _, w1, _⟩ := T.kid hu ma
          obtain ⟨_, _, w2, _⟩ := T.kid hu mb
          omega
        have len : ∀ {x y : Int} {px py : Pg}, M.fo.pages x = some px → M.fo.pages y = some py → g.lv x = g.lv y → px.kids ≠ [] → 1 ≤ py.kids.length := fun {x y px py} hx hy e hk => by
          have X := T.page _ _ hx
          have Y := T.page _ _ hy
          have : py.kids ≠ [] := fun z => hk (X.leaf_iff.mpr (by rw [e]; exact Y.leaf_iff.mp z))
          exact List.length_pos_iff.mpr this
        refine ⟨deed', by rw [hhe]; simp, by rw [hhe]; simp, by rw [hhe]; simp, by rw [hl]; exact hc, u, pa, pb, page hu, hu, a1, b1, a3, b3, ma, mb, place_ok T hu uk _, ?_, adj2, len a1 b1 lv1, len b1 a1 lv1.symm⟩
        rcases (T.page _ _ hu).body with ⟨_, e, _⟩ | ⟨v, _, _, _, ch⟩
        · exact absurd e uk
        · exact ch.len
      · rw [hhe, fl] at z; simp at z
    | leafs hd' ch h0 => rw [hd] at hd'; cases hd'

/-! ### the making -/
def sp_Hand_init (K : PySem.W.Frag) : Sp := fun vs H Q _ => ∃ (x dx a : Addr) (xs : List V), vs = [.ref x, .ref a] ∧ H x = some (.ins (He.ga K "Hand") dx []) ∧ SqL K H a xs ∧
  ∀ H' p h s, (∀ b o, H b = some o → b ≠ x → H' b = some o) → H p = none → H h = none → H s = none → p ≠ h → p ≠ s → h ≠ s → H' x = some (.ins (He.ga K "Hand") dx (fldH ⟨[], 0, [], none, none, []⟩ p h s)) →
    H' p = some (.lst xs) → H' h = some (.lst []) → H' s = some (.lst []) → (∀ b, H' b = none → H b = none) → Q .non H'
theorem cutTo {xs : List V} {j : Nat} (h : j ≤ xs.length) : cutV xs none (some (j : Int)) = xs.take j := by
  unfold cutV
  have e : HT.sIx xs.length xs.length (some (j : Int)) = j := by
    unfold HT.sIx
    simp
    rw [if_neg (by omega)]
    omega
  rw [e]
  show ((xs.drop 0).take (j - 0)) = _
  rw [List.drop_zero, Nat.sub_zero]
def sp_need_keys (K : PySem.W.Frag) : Sp := fun vs H Q _ => ∃ (a : Addr) (ks : List Int), vs = [.ref a] ∧ SqL K H a (iL ks) ∧ KeysOk ks ∧ ∀ H', Same H H' → Q .non H'
abbrev N_need_keys : List Str := ["keys", "at"]
theorem sc_need_keys : FnScope N_need_keys ["keys"] (defScope s_need_keys) := ⟨rfl, rfl, rfl, by decide +kernel, rfl, by decide +kernel, by decide +kernel⟩
theorem b_need_keys {w : World} {K : PySem.W.Frag} {mg : Str → Option Value} {base : Heap} (T : Txt w K mg base) : Binds K (fdOf K d_need_keys.at_) ["keys"] [] := T.f_need_keys.bindsN fun _ _ _ _ _ _ us hl => match us, hl with | [_], _ => rfl
theorem ok_need_keys {P : Program} {w : World} {K : PySem.W.Frag} {mg : Str → Option Value} {base : Heap} (T : Txt w K mg base) : FnOk P w K mg base CX0 1 (He.fAd K d_need_keys.at_) (fdOf K d_need_keys.at_) ["keys"] (sp_need_keys K) := by
  refine T.f_need_keys.ok sc_need_keys (fun vs H Q E h => ?_) (fun cdv A outer s H vs Q E hr h => ?_)
  · obtain ⟨a, ks, rfl, _⟩ := h
    rfl
  · obtain ⟨a, ks, rfl, ha, ok, k⟩ := h
    refine ⟨_, PSs.nox (pss_cons (ps_if (pt_cmpR op_gt (pe_callB call_len_seq (by rfl) T.b_len PySem.boot_len (pa_cons (pv 0) pa_nil)) (pe_glob (v := .int 40) rfl (T.i_MOST_BEGIN).choose_spec ⟨_, rfl⟩) (nomark _)) (pss_one ps_never) pss_nil)
  (pss_one (ps_for PassesOwn.never rfl (pi_range1 (by rfl) T.b_range (pa_cons (pe_callB call_len_seq (by rfl) T.b_len PySem.boot_len (pa_cons (pv 0) pa_nil)) pa_nil)) (pg_name (i := 1) sc_need_keys.nd rfl (Or.inl rfl))
  (pss_one (ps_if (PW.pt (pw_or (pt_not (pt_chain op_le op_le pe_int (pe_ix ix_list (pv 0) (pv 1) (fun _ _ => rfl)) (pe_glob (v := .int 99) rfl (T.i_MOST_KEY).choose_spec ⟨_, rfl⟩))) (pw_or1 (pt_cmpR op_in_seq (pe_ix ix_list (pv 0) (pv 1) (fun _ _ => rfl)) (pe_slice sl_list (pv 0) po_none (po_some (pv 1))) (by rfl))))) (pss_one ps_never) pss_nil))))), ?_⟩
    have hl := ok.len
    refine ⟨_, rfl, _, _, rfl, .inl ha, _, _, rfl, rfl, _, rfl, ?_⟩
    refine ite2 (fun hc => ?_) (fun _ => ?_)
    · have := of_decide_eq_true hc
      rw [len_iL] at this
      omega
    refine ⟨_, rfl, _, _, rfl, .inl ha, _, rfl, by omega, by rw [len_iL]; omega, ?_⟩
    rw [len_iL, Int.toNat_natCast]
    refine for_range (fun j σ H2 => ∃ v, σ = [some (.ref a), v] ∧ Same H H2) ⟨_, rfl, Same.refl _⟩ ?_ ?_
    · rintro j σ H2 hj ⟨v, rfl, s2⟩
      have ha2 := Same.seq s2 ha
      have hz : ks[j]? = some ks[j] := List.getElem?_eq_getElem hj
      have hr := ok.rng ks[j] (List.getElem_mem hj)
      have hat : atI (iL ks) (0 + (j : Int)) = some (V.int ks[j]) := at_of (j := j) (by omega) (by show (ks.map V.int)[j]? = _; rw [List.getElem?_map, hz]; rfl)
      refine ⟨_, rfl, _, rfl, _, _, _, V.int ks[j], rfl, rfl, ha2, hat, _, _, rfl, rfl, _, rfl, ?_⟩
      rw [decide_eq_true hr.1]
      refine iteT ⟨_, _, rfl, rfl, _, rfl, ?_⟩
      rw [decide_eq_true hr.2]
      refine iteF ?_
      refine ⟨_, rfl, _, rfl, _, _, _, V.int ks[j], rfl, rfl, ha2, hat, _, rfl, _, rfl, _, rfl, _, _, rfl, ha2, fun l nl => ?_⟩
      have ec : cutV (iL ks) none (some (0 + (j : Int))) = iL (ks.take j) := by
        rw [Int.zero_add, cutTo (by rw [len_iL]; omega)]
        simp [iL]
      rw [ec]
      refine ⟨_, _, rfl, .inl (SqL.of upd_same), rfl, flat_iL _, ?_⟩
      have hno : ks[j] ∉ ks.take j := fun z => by
        obtain ⟨m, hm, e⟩ := List.mem_iff_getElem.mp z
        rw [List.length_take] at hm
        rw [List.getElem_take] at e
        have := (List.getElem_inj ok.nd).mp e
        omega
      rw [inV_int, decide_eq_false hno]
      exact ⟨_, rfl, iteF ⟨_, rfl, s2.trans (same_new nl)⟩⟩
    · rintro σ H2 ⟨v, rfl, s2⟩
      exact k _ s2

/-! ### the laws' dice -/
theorem map_int_get {ns : List Int} {i : Nat} {y : V} (h : (ns.map V.int)[i]? = some y) : ∃ z, ns[i]? = some z ∧ y = V.int z := by
  rw [List.getElem?_map] at h
  cases e : ns[i]? with
  | none => rw [e] at h; cases h
  | some z => rw [e] at h; exact ⟨z, rfl, (Option.some.inj h).symm⟩
theorem fmod_lt {a b : Int} (h : 0 < b) : 0 ≤ a.fmod b ∧ a.fmod b < b := by
  rw [Int.fmod_eq_emod_of_nonneg _ (Int.le_of_lt h)]
  exact ⟨Int.emod_nonneg _ (by omega), Int.emod_lt_of_pos _ h⟩
theorem nzP : (2147483647 : Int) ≠ 0 := by decide
/-- what was there at first stands, but for tables -/
structure Grown (H0 H : Hp) : Prop where
  fr : ∀ b o, H0 b = some o → (∀ ps, o ≠ .tbl ps) → H b = some o
  dm : ∀ b, H b = none → H0 b = none
theorem Grown.refl (H : Hp) : Grown H H := ⟨fun _ _ h _ => h, fun _ h => h⟩
theorem Grown.trans {H0 H1 H2 : Hp} (a : Grown H0 H1) (b : Grown H1 H2) : Grown H0 H2 := ⟨fun c o h n => b.fr c o (a.fr c o h n) n, fun c h => a.dm c (b.dm c h)⟩
theorem Grown.same {H H' : Hp} (s : Same H H') : Grown H H' := ⟨fun b o h _ => s b o h, fun b h => s.free h⟩
theorem Grown.put {H0 H : Hp} {p : Addr} {o : HO} (g : Grown H0 H) (hp : H0 p = none) : Grown H0 (upd H p o) := ⟨fun b u h n => by rw [upd_ne (ne_of_none h hp)]; exact g.fr b u h n, fun b h => g.dm b (upd_free h)⟩
theorem Grown.sqL {K : PySem.W.Frag} {H0 H : Hp} (g : Grown H0 H) {a : Addr} {xs : List V} (h : SqL K H0 a xs) : SqL K H a xs := by
  rcases h with (h | ⟨o, h⟩) | h
  · exact .inl (.inl (g.fr _ _ h fun ps z => by cases z))
  · exact .inl (.inr ⟨o, g.fr _ _ h fun ps z => by cases z⟩)
  · exact .inr h
/-- the dice at d, new behind H0: the script, how many are read, a mixed number, what is left of a great cell -/
structure Dice (K : PySem.W.Frag) (H0 H : Hp) (d : Addr) : Prop where
  v : ∃ (a : Addr) (ns : List Int) (i m c : Int), H d = some (.lst [.ref a, .int i, .int m, .int c]) ∧ SqL K H0 a (ns.map V.int) ∧ ns.length ≤ 63 ∧ 0 ≤ i ∧ 0 ≤ m ∧ m < 2147483647
  new : H0 d = none
  gr : Grown H0 H
theorem sq_ne {K : PySem.W.Frag} {H : Hp} {a d b : Addr} {ns : List Int} {xs : List V} {o : HO} (hd : H d = some (.lst (.ref b :: xs))) (hs : SqL K H a (ns.map V.int)) : SqL K (upd H d o) a (ns.map V.int) := by
  rcases hs with (h | ⟨u, h⟩) | h
  · refine .inl (.inl ?_)
    rw [upd_ne (fun z => ?_)]
    · exact h
    · rw [z, hd] at h
      cases ns with
      | nil => injection h with h; injection h with h; cases h
      | cons n ns => injection h with h; injection h with h; injection h with h; cases h
  · refine .inl (.inr ⟨u, ?_⟩)
    rw [upd_ne (fun z => ?_)]
    · exact h
    · rw [z, hd] at h; injection h with h; cases h
  · exact .inr h
def sp_l_dice (K : PySem.W.Frag) : Sp := fun vs H Q _ => ∃ (a : Addr) (ns : List Int), vs = [.ref a] ∧ SqL K H a (ns.map V.int) ∧ ns.length ≤ 63 ∧
  ∀ p H', H p = none → Same H H' → Dice K H H' p → Q (.ref p) H'
abbrev N_l_dice : List Str := ["_law_script", "_law_mixed", "_law_cell"]
theorem sc_l_dice : FnScope N_l_dice ["_law_script"] (defScope s_l_dice) := ⟨rfl, rfl, rfl, by decide +kernel, rfl, by decide +kernel, by decide +kernel⟩
theorem b_l_dice {w : World} {K : PySem.W.Frag} {mg : Str → Option Value} {base : Heap} (T : Txt w K mg base) : Binds K (fdOf K d_l_dice.at_) ["_law_script"] [] := T.f_l_dice.bindsN fun _ _ _ _ _ _ us hl => match us, hl with | [_], _ => rfl
theorem ok_l_dice {P : Program} {w : World} {K : PySem.W.Frag} {mg : Str → Option Value} {base : Heap} (T : Txt w K mg base) : FnOk P w K mg base CX0 1 (He.fAd K d_l_dice.at_) (fdOf K d_l_dice.at_) ["_law_script"] (sp_l_dice K) := by
  refine T.f_l_dice.ok sc_l_dice (fun vs H Q E h => ?_) (fun cdv A outer s H vs Q E hr h => ?_)
  · obtain ⟨a, ns, rfl, _⟩ := h
    rfl
  · obtain ⟨a, ns, rfl, hS, hl, k⟩ := h
    refine ⟨_, PSs.nox (pss_cons (ps_set (i := 1) sc_l_dice.nd rfl (Or.inl rfl) pe_int)
  (pss_cons (ps_for PassesOwn.never rfl (pi_list (pv 0)) (pg_name (i := 2) sc_l_dice.nd rfl (Or.inl rfl))
  (pss_one (ps_set (i := 1) sc_l_dice.nd rfl (Or.inl rfl) (pe_op op_modN (pe_op op_add (pe_op op_add (pe_op op_mul (pv 1) pe_int) (pe_op op_mul (pe_op op_modN (pv 2) pe_int) pe_int)) pe_int) pe_int))))
  (pss_one (ps_ret (pe_lst (pa_cons (pv 0) (pa_cons pe_int (pa_cons (pe_op op_mul (pv 1) (pe_callTy call_int1 (by rfl) T.b_int (by decide +kernel) (pa_cons (pe_cmpR op_gt (pe_callB call_len_seq (by rfl) T.b_len PySem.boot_len (pa_cons (pv 0) pa_nil)) pe_int (nomark _)) pa_nil))) (pa_cons pe_int pa_nil))))))))), ?_⟩
    refine ⟨_, rfl, a, rfl, ⟨_, hS⟩, for_list (K := K) (a := a) (xs := ns.map V.int) (fun i σ H2 => ∃ (m : Int) (v : Option V), σ = [some (.ref a), some (.int m), v] ∧ 0 ≤ m ∧ m < 2147483647 ∧ H2 = H)
      ⟨0, none, rfl, by decide, by decide, rfl⟩ (fun i σ H2 _ ⟨_, _, _, _, _, e⟩ => e ▸ hS) ?_ ?_⟩
    · rintro i y σ H2 hi ⟨m, v, rfl, h0, h1, rfl⟩
      obtain ⟨z, _, rfl⟩ := map_int_get hi
      have b := fmod_lt (a := z) (b := 2147483647) (by decide)
      refine ⟨_, rfl, _, _, rfl, rfl, .inl ⟨by omega, by omega⟩, _, rfl, _, _, rfl, rfl, nzP, _, _, rfl, rfl, .inl ⟨by omega, by omega⟩, _, _, rfl, rfl, _, _, rfl, rfl, _, _, rfl, rfl, nzP, ?_⟩
      have c := fmod_lt (a := m * 48271 + z.fmod 2147483647 * 69621 + 11) (b := 2147483647) (by decide)
      exact ⟨_, _, rfl, c.1, c.2, rfl⟩
    · rintro σ H2 ⟨m, v, rfl, h0, h1, rfl⟩
      refine ⟨_, rfl, _, rfl, _, rfl, _, _, rfl, .inl hS, _, _, rfl, rfl, .inr ⟨_, rfl, _, _, rfl, rfl, .inl ⟨by omega, by omega⟩, (show 4 ≤ sizeLine by decide), fun p np => k p _ np (fun b o e => by rw [upd_ne (ne_of_none e np)]; exact e) ?_⟩⟩
      refine ⟨⟨a, ns, 0, _, 0, upd_same, hS, hl, by decide, ?_⟩, np, Grown.same (same_new np)⟩
      split <;> omega
/-- a draw: any number below many; nothing but the dice changes -/
def sp_l_next (K : PySem.W.Frag) : Sp := fun vs H Q _ => ∃ (H0 : Hp) (d : Addr) (n : Int), vs = [.ref d, .int n] ∧ Dice K H0 H d ∧ 1 ≤ n ∧ n ≤ 1000000 ∧
  ∀ (v : Int) (o : HO), 0 ≤ v → v < n → Dice K H0 (upd H d o) d → Q (.int v) (upd H d o)
abbrev N_l_next : List Str := ["_law_dice_here", "_law_many", "_law_found", "_law_cell"]
theorem sc_l_next : FnScope N_l_next ["_law_dice_here", "_law_many"] (defScope s_l_next) := ⟨rfl, rfl, rfl, by decide +kernel, rfl, by decide +kernel, by decide +kernel⟩
theorem b_l_next {w : World} {K : PySem.W.Frag} {mg : Str → Option Value} {base : Heap} (T : Txt w K mg base) : Binds K (fdOf K d_l_next.at_) ["_law_dice_here", "_law_many"] [] := T.f_l_next.bindsN fun _ _ _ _ _ _ us hl => match us, hl with | [_, _], _ => rfl
theorem ok_l_next {P : Program} {w : World} {K : PySem.W.Frag} {mg : Str → Option Value} {base : Heap} (T : Txt w K mg base) : FnOk P w K mg base CX0 1 (He.fAd K d_l_next.at_) (fdOf K d_l_next.at_) ["_law_dice_here", "_law_many"] (sp_l_next K) := by
  refine T.f_l_next.ok sc_l_next (fun vs H Q E h => ?_) (fun cdv A outer s H vs Q E hr h => ?_)
  · obtain ⟨H0, d, n, rfl, _⟩ := h
    rfl
  · obtain ⟨H0, d, n, rfl, D, h1, h2, k'⟩ := h
    obtain ⟨⟨a, ns, i, m, c, hd, hS0, hl, i0, m0, m1⟩, nd, gr⟩ := D
    have hS := gr.sqL hS0
    have k : ∀ (v i' m' c' : Int), 0 ≤ v → v < n → 0 ≤ i' → 0 ≤ m' → m' < 2147483647 → Q (.int v) (upd H d (.lst [.ref a, .int i', .int m', .int c'])) := fun v i' m' c' v0 v1 j0 j1 j2 => k' v _ v0 v1 ⟨⟨a, ns, i', m', c', upd_same, hS0, hl, j0, j1, j2⟩, nd, gr.put nd⟩
    refine ⟨_, PSs.nox (pss_cons (ps_if (pt_cmpR op_gt (pe_ix ix_list (pv 0) pe_int (fun _ _ => rfl)) pe_int (nomark _)) (pss_cons (ps_set (i := 2) sc_l_next.nd rfl (Or.inl rfl) (pe_op op_modN (pe_ix ix_list (pv 0) pe_int (fun _ _ => rfl)) (pv 1)))
  (pss_cons (ps_asg (pe_op op_fdivN (pe_ix ix_list (pv 0) pe_int (fun _ _ => rfl)) (pv 1)) (pg_sub (pv 0) pe_int set_list))
  (pss_one (ps_ret (pv 2))))) pss_nil)
  (pss_cons (ps_asg (pe_op op_add (pe_ix ix_list (pv 0) pe_int (fun _ _ => rfl)) pe_int) (pg_sub (pv 0) pe_int set_list))
  (pss_cons (ps_if (pt_cmpR op_le (pe_ix ix_list (pv 0) pe_int (fun _ _ => rfl)) (pe_callB call_len_seq (by rfl) T.b_len PySem.boot_len (pa_cons (pe_ix ix_list (pv 0) pe_int (fun _ _ => rfl)) pa_nil)) (nomark _)) (pss_cons (ps_set (i := 3) sc_l_next.nd rfl (Or.inl rfl) (pe_ix ix_list (pe_ix ix_list (pv 0) pe_int (fun _ _ => rfl)) (pe_op op_sub (pe_ix ix_list (pv 0) pe_int (fun _ _ => rfl)) pe_int) (fun _ _ => rfl)))
  (pss_cons (ps_asg (pe_ifExp (pt_cmpR op_ge (pv 3) (pe_op op_pow pe_int pe_int) (nomark _)) (pe_op op_fdivN (pv 3) (pv 1)) pe_int) (pg_sub (pv 0) pe_int set_list))
  (pss_one (ps_ret (pe_op op_modN (pv 3) (pv 1)))))) pss_nil)
  (pss_cons (ps_asg (pe_op op_modN (pe_op op_mul (pe_ix ix_list (pv 0) pe_int (fun _ _ => rfl)) pe_int) pe_int) (pg_sub (pv 0) pe_int set_list))
  (pss_one (ps_ret (pe_op op_modN (pe_op op_fdivN (pe_ix ix_list (pv 0) pe_int (fun _ _ => rfl)) pe_int) (pv 1)))))))), ?_⟩
    have n0 : n ≠ 0 := by omega
    have nb : n.natAbs < 1073741824 := by omega
    -- if dice[3] > 0
    refine ⟨_, rfl, _, _, _, _, rfl, rfl, SqL.of hd, rfl, _, _, rfl, rfl, _, rfl, ?_⟩
    refine ite2 (fun hc => ?_) (fun hc => ?_)
    · refine ⟨_, rfl, _, _, _, _, rfl, rfl, SqL.of hd, rfl, _, rfl, _, _, rfl, rfl, n0, ?_⟩
      refine ⟨_, rfl, _, _, _, _, rfl, rfl, SqL.of hd, rfl, _, rfl, _, _, rfl, rfl, ⟨n0, nb⟩, _, rfl, _, _, _, _, rfl, rfl, hd, rfl, _, rfl, ?_⟩
      have b := fmod_lt (a := c) (b := n) (by omega)
      exact k _ _ _ _ b.1 b.2 i0 m0 m1
    · -- dice[1] = dice[1] + 1
      refine ⟨_, rfl, _, _, _, _, rfl, rfl, SqL.of hd, rfl, _, _, rfl, rfl, _, rfl, _, _, _, _, rfl, rfl, hd, rfl, ?_⟩
      have hd' : ∀ o, upd H d o d = some o := fun o => upd_same
      have hS' : ∀ o, SqL K (upd H d o) a (ns.map V.int) := fun o => sq_ne hd hS
      refine ⟨_, rfl, _, _, _, _, rfl, rfl, SqL.of (hd' _), rfl, _, rfl, _, _, _, _, rfl, rfl, SqL.of (hd' _), rfl, _, _, rfl, .inl (hS' _), _, _, rfl, rfl, _, rfl, ?_⟩
      refine ite2 (fun hc2 => ?_) (fun hc2 => ?_)
      · have hlt : i < ns.length := by
          have := of_decide_eq_true hc2
          rw [List.length_map] at this
          omega
        obtain ⟨z, hz⟩ : ∃ z, (ns.map V.int)[i.toNat]? = some (V.int z) := by
          rw [List.getElem?_map, List.getElem?_eq_getElem (by omega)]
          exact ⟨_, rfl⟩
        refine ⟨_, rfl, _, _, _, _, rfl, rfl, SqL.of (hd' _), rfl, _, rfl, _, _, _, _, rfl, rfl, SqL.of (hd' _), rfl, _, _, rfl, rfl, _, _, _, V.int z, rfl, rfl, hS' _, at_of (j := i.toNat) (by omega) hz, ?_⟩
        refine ⟨_, rfl, _, _, rfl, rfl, ⟨by decide, by decide, by decide⟩, _, _, rfl, rfl, _, rfl, ?_⟩
        have b := fmod_lt (a := z) (b := n) (by omega)
        refine ite2 (fun _ => ?_) (fun _ => ?_)
        · refine ⟨_, rfl, _, rfl, _, _, rfl, rfl, ⟨n0, nb⟩, _, rfl, _, _, _, _, rfl, rfl, hd' _, rfl, _, rfl, _, rfl, _, _, rfl, rfl, n0, ?_⟩
          rw [upd_upd]
          exact k _ _ _ _ b.1 b.2 (by omega) m0 m1
        · refine ⟨_, rfl, _, _, _, _, rfl, rfl, hd' _, rfl, _, rfl, _, rfl, _, _, rfl, rfl, n0, ?_⟩
          rw [upd_upd]
          exact k _ _ _ _ b.1 b.2 (by omega) m0 m1
      · refine ⟨_, rfl, _, _, _, _, rfl, rfl, SqL.of (hd' _), rfl, _, _, rfl, rfl, .inl ⟨by omega, by omega⟩, _, _, rfl, rfl, nzP, _, rfl, _, _, _, _, rfl, rfl, hd' _, rfl, ?_⟩
        have c2 := fmod_lt (a := m * 48271) (b := 2147483647) (by decide)
        rw [upd_upd]
        refine ⟨_, rfl, _, _, _, _, rfl, rfl, SqL.of (hd' _), rfl, _, _, rfl, rfl, ⟨by decide, by decide⟩, _, rfl, _, _, rfl, rfl, n0, ?_⟩
        have b := fmod_lt (a := ((m * 48271).fmod 2147483647).fdiv 7) (b := n) (by omega)
        exact k _ _ _ _ b.1 b.2 (by omega) c2.1 c2.2

/-! ### all keys -/
def sp_Forest_all_keys (K : PySem.W.Frag) : Sp := fun vs H Q _ => ∃ (A : FT → Addr) (F : Fo) (k k2 : Nat) (m : Int) (ks : List Int), vs = [.ref (A .fO)] ∧ RepF K H A F ∧ Desc F F.root k m ∧ Right F (some m) k2 ks ∧ ks.length ≤ 1000000 ∧
  ∀ H' t, Same H H' → H t = none → H' t = some (.lst (iL ks)) → Q (.ref t) H'
def sp_Machine_all_keys (K : PySem.W.Frag) : Sp := fun vs H Q _ => ∃ (A : Lay) (M : Mc) (k k2 : Nat) (m : Int) (ks : List Int), vs = [.ref (A.m .mO)] ∧ Rep K H A M ∧ Desc M.fo M.fo.root k m ∧ Right M.fo (some m) k2 ks ∧ ks.length ≤ 1000000 ∧
  ∀ H' t, Same H H' → H t = none → H' t = some (.lst (iL ks)) → Q (.ref t) H'
/-! ### what is a deed -/
theorem sqT_same {K : PySem.W.Frag} {H H' : Hp} {a : Addr} {xs : List V} (s : Same H H') (h : SqT K H a xs) : SqT K H' a xs := by
  rcases h with (h | ⟨o, h⟩) | h
  · exact .inl (.inl (s _ _ h))
  · exact .inl (.inr ⟨o, s _ _ h⟩)
  · exact .inr h
theorem kd_some {K : PySem.W.Frag} {w : World} {a : Addr} {k : Str} {v : V} (h : KDct K w a k v) : ∃ u, PySem.W.nsIn K a k = some (some u) ∧ RelV v u := by
  obtain ⟨_, _, u, _, _, h1, h2⟩ := h
  exact ⟨u, h1, h2⟩
theorem cutTail {x : V} {xs : List V} : cutV (x :: xs) (some 1) none = xs := by
  unfold cutV
  have e1 : HT.sIx (x :: xs).length (x :: xs).length none = (x :: xs).length := by
    unfold HT.sIx; simp
  have e2 : HT.sIx (x :: xs).length 0 (some 1) = 1 := by
    unfold HT.sIx
    simp
    try omega
  rw [e1, e2]
  simp
theorem cutNot {n : Nat} : ¬ (HT.sIx (n + 1) 0 (some 1) = 0 ∧ HT.sIx (n + 1) (n + 1) none = n + 1) := by
  unfold HT.sIx
  simp
  try omega
def deedArgs : Deed → List Int
  | .put k => [k]
  | .take k => [k]
  | .ask k => [k]
  | .walk lo hi => [lo, hi]
theorem deedV_eq {d : Deed} : deedV d = V.str (deedW d) :: iL (deedArgs d) := by cases d <;> rfl
theorem deed_args {d : Deed} (h : DeedOk d) : ∀ k ∈ deedArgs d, 0 ≤ k ∧ k ≤ 99 := by
  obtain ⟨h1, h2, h3⟩ := h
  intro k hk
  cases d with
  | walk lo hi =>
    obtain ⟨h4, h5⟩ := h3 lo hi rfl
    have h1' : 0 ≤ lo := h1
    have : k = lo ∨ k = hi := by simpa [deedArgs] using hk
    rcases this with e | e <;> omega
  | _ x =>
    have : k = x := by simpa [deedArgs] using hk
    subst this
    exact ⟨h1, h2⟩
theorem wa : ("put" : Str) ≠ "walk" := by decide +kernel
theorem wb : ("take" : Str) ≠ "walk" := by decide +kernel
theorem wc : ("ask" : Str) ≠ "walk" := by decide +kernel
def sp_is_deed (K : PySem.W.Frag) : Sp := fun vs H Q _ => ∃ (a : Addr) (d : Deed), vs = [.ref a] ∧ DeedAt K H a d ∧ DeedOk d ∧ ∀ H', Same H H' → Q (.bl true) H'
abbrev N_is_deed : List Str := ["deed", "key"]
theorem sc_is_deed : FnScope N_is_deed ["deed"] (defScope s_is_deed) := ⟨rfl, rfl, rfl, by decide +kernel, rfl, by decide +kernel, by decide +kernel⟩
theorem b_is_deed {w : World} {K : PySem.W.Frag} {mg : Str → Option Value} {base : Heap} (T : Txt w K mg base) : Binds K (fdOf K d_is_deed.at_) ["deed"] [] := T.f_is_deed.bindsN fun _ _ _ _ _ _ us hl => match us, hl with | [_], _ => rfl
theorem ok_is_deed {P : Program} {w : World} {K : PySem.W.Frag} {mg : Str → Option Value} {base : Heap} (T : Txt w K mg base) : FnOk P w K mg base CX0 1 (He.fAd K d_is_deed.at_) (fdOf K d_is_deed.at_) ["deed"] (sp_is_deed K) := by
  refine T.f_is_deed.ok sc_is_deed (fun vs H Q E h => ?_) (fun cdv A outer s H vs Q E hr h => ?_)
  · obtain ⟨a, d, rfl, _⟩ := h
    rfl
  · obtain ⟨a, d, rfl, ha, ok, k⟩ := h
    have hu := hu_of hr
    refine ⟨_, PSs.nox (pss_cons (ps_if (PW.pt (pw_or (pt_cmpR op_eq (pe_callB call_len_seq (by rfl) T.b_len PySem.boot_len (pa_cons (pv 0) pa_nil)) pe_int (nomark _)) (pw_or (pt_cmpR (op_notIn_kd T.z_WORDS.choose_spec.choose_spec) (pe_ix ix_tup (pv 0) pe_int (fun _ _ => rfl)) (pe_glob (v := .ref (He.ga K "WORDS")) rfl T.g_WORDS rfl) (by rfl)) (pw_or1 (pt_cmpR op_ne (pe_callB call_len_seq (by rfl) T.b_len PySem.boot_len (pa_cons (pv 0) pa_nil)) (pe_ix ix_kdict (pe_glob (v := .ref (He.ga K "WORDS")) rfl T.g_WORDS rfl) (pe_ix ix_tup (pv 0) pe_int (fun _ _ => rfl)) (fun _ _ => rfl)) (nomark _)))))) (pss_one (ps_ret pe_bl)) pss_nil)
  (pss_cons (ps_if (pt_cmpR (op_neD hr.units) (pe_lc (own := [("key", 1)]) (g := gName 1) rfl sc_is_deed.nd (pi_tup (pe_slice sl_tup (pv 0) (po_some pe_int) po_none)) (blkOk_by (own := [("key", 1)]) (N := N_is_deed) (sc := defScope s_is_deed) (by decide +kernel)) (fun _ _ _ _ _ => pg_name (i := 1) sc_is_deed.nd rfl (Or.inl rfl)) (fun _ _ _ _ _ => pts_one (pt_not (pt_chain op_le op_le pe_int (pv 1) (pe_glob (v := .int 99) rfl (T.i_MOST_KEY).choose_spec ⟨_, rfl⟩)))) (fun _ _ _ _ _ => (pv 1))) (pe_lst pa_nil) (nomark _)) (pss_one (ps_ret pe_bl)) pss_nil)
  (pss_one (ps_ret (pe_or (pe_cmpR op_ne (pe_ix ix_tup (pv 0) pe_int (fun _ _ => rfl)) pe_str (nomark _)) (pe_one (pe_cmpR op_le (pe_ix ix_tup (pv 0) pe_int (fun _ _ => rfl)) (pe_ix ix_tup (pv 0) pe_int (fun _ _ => rfl)) (nomark _)))))))), ?_⟩
    have ha' : SqT K H a (V.str (deedW d) :: iL (deedArgs d)) := by rw [← deedV_eq]; exact ha
    have hl : (V.str (deedW d) :: iL (deedArgs d)).length = (deedArgs d).length + 1 := by simp [iL]
    have hw : ∃ u, PySem.W.nsIn K (He.ga K "WORDS") (deedW d) = some (some u) ∧ RelV (.int ((deedArgs d).length + 1)) u := by
      cases d with
      | put k => exact kd_some T.z_WORDS_put
      | take k => exact kd_some T.z_WORDS_take
      | ask k => exact kd_some T.z_WORDS_ask
      | walk a b => exact kd_some T.z_WORDS_walk
    obtain ⟨u, hu1, hu2⟩ := hw
    have hkd : KDct K w (He.ga K "WORDS") (deedW d) (.int ((deedArgs d).length + 1)) := by
      obtain ⟨es, m, D⟩ := T.z_WORDS
      exact ⟨es, m, u, D.at_, D.lit, hu1, hu2⟩
    have n0 : ∀ m : Nat, decide (V.int ((m + 1 : Nat) : Int) = V.int 0) = false := fun m => decide_eq_false fun z => by
      have := V.int.inj z
      omega
    refine ⟨_, rfl, _, _, rfl, .inr ha', rfl, _, rfl, ?_⟩
    rw [hl, n0]
    refine iteF ?_
    refine ⟨_, rfl, _, _, _, V.str (deedW d), rfl, rfl, ha', at_of (j := 0) rfl rfl, _, _, rfl, rfl, hu1, _, rfl, iteF ?_⟩
    refine ⟨_, rfl, _, _, rfl, .inr ha', _, rfl, _, _, _, V.str (deedW d), rfl, rfl, ha', at_of (j := 0) rfl rfl, _, _, _, rfl, rfl, hkd, rfl, _, rfl, ?_⟩
    rw [hl, show decide (V.int (((deedArgs d).length + 1 : Nat) : Int) = V.int (((deedArgs d).length : Int) + 1)) = true from decide_eq_true (by simp)]
    refine iteF ?_
    have hcut : cutV (V.str (deedW d) :: iL (deedArgs d)) (some 1) none = iL (deedArgs d) := cutTail
    refine ⟨_, rfl, _, rfl, _, _, rfl, ha', by rw [hl]; exact cutNot, fun p np => ⟨p, rfl, ⟨_, SqT.of upd_same⟩, fun D nD => ?_⟩⟩
    rw [hcut] at nD ⊢
    have s1 := same_new (o := .tup (iL (deedArgs d))) np
    have pD : p ≠ D := fun z => by rw [← z, upd_same] at nD; cases nD
    refine lc_tup (K := K) (a := p) (xs := iL (deedArgs d)) (fun j H2 => Same H H2 ∧ H2 p = some (.tup (iL (deedArgs d))) ∧ H2 D = some (.lst [])) ⟨s1.trans (same_new nD), by rw [upd_ne pD, upd_same], upd_same⟩ (fun j H2 _ z => SqT.of z.2.1) ?_ ?_
    · rintro j x H2 hj ⟨s, hp, hD⟩
      obtain ⟨z, hz, rfl⟩ := iL_get hj
      have hr := deed_args ok z (List.mem_of_getElem? hz)
      refine ⟨rfl, _, rfl, _, _, rfl, rfl, _, rfl, ?_⟩
      rw [decide_eq_true hr.1]
      refine iteT ⟨_, _, rfl, rfl, _, rfl, ?_⟩
      rw [decide_eq_true hr.2]
      exact iteF ⟨s, hp, hD⟩
    · rintro H2 ⟨s, hp, hD⟩
      refine ⟨(show 0 ≤ sizeLine by decide), fun q nq => ?_⟩
      have s2 := same_new (o := .lst []) nq
      refine ⟨_, _, dp_int (xs := []) (SqL.of (s2 _ _ hD)), dp_int (xs := []) (SqL.of upd_same), shaped_ints [], shaped_ints [], _, rfl, ?_⟩
      refine iteF ?_
      have s3 : Same H (upd H2 q (.lst [])) := s.trans s2
      have ha3 := sqT_same s3 ha'
      refine ⟨_, rfl, _, _, _, V.str (deedW d), rfl, rfl, ha3, at_of (j := 0) rfl rfl, rfl, _, rfl, ?_⟩
      cases d with
      | walk lo hi =>
        have e : decide (V.str (deedW (.walk lo hi)) = V.str "walk") = true := decide_eq_true rfl
        rw [e]
        refine iteF ⟨_, rfl, _, _, _, V.int lo, rfl, rfl, ha3, at_of (j := 1) rfl rfl, _, rfl, _, _, _, V.int hi, rfl, rfl, ha3, at_of (j := 2) rfl rfl, _, _, rfl, rfl, ?_⟩
        show Q (V.bl (decide (lo ≤ hi))) _
        rw [decide_eq_true (ok.2.2 lo hi rfl).1]
        exact k _ s3
      | put x =>
        rw [show decide (V.str (deedW (.put x)) = V.str "walk") = false from decide_eq_false fun z => absurd (V.str.inj z) wa]
        exact iteT (k _ s3)
      | take x =>
        rw [show decide (V.str (deedW (.take x)) = V.str "walk") = false from decide_eq_false fun z => absurd (V.str.inj z) wb]
        exact iteT (k _ s3)
      | ask x =>
        rw [show decide (V.str (deedW (.ask x)) = V.str "walk") = false from decide_eq_false fun z => absurd (V.str.inj z) wc]
        exact iteT (k _ s3)
/-- programs: a list of lists of deeds -/
def ProgAt (K : PySem.W.Frag) (H : Hp) (a : Addr) (p : List Deed) : Prop := ∃ ds : List Addr, SqL K H a (ds.map V.ref) ∧ Paired (DeedAt K H) ds p
def ProgsAt (K : PySem.W.Frag) (H : Hp) (a : Addr) (ps : List (List Deed)) : Prop := ∃ as : List Addr, SqL K H a (as.map V.ref) ∧ Paired (ProgAt K H) as ps
theorem ProgAt.same {K : PySem.W.Frag} {H H' : Hp} {a : Addr} {p : List Deed} (h : ProgAt K H a p) (s : Same H H') : ProgAt K H' a p := by
  obtain ⟨ds, h1, h2⟩ := h
  exact ⟨ds, Same.seq s h1, paired_imp h2 fun a d z => sqT_same s z⟩
theorem ProgsAt.same {K : PySem.W.Frag} {H H' : Hp} {a : Addr} {ps : List (List Deed)} (h : ProgsAt K H a ps) (s : Same H H') : ProgsAt K H' a ps := by
  obtain ⟨ds, h1, h2⟩ := h
  exact ⟨ds, Same.seq s h1, paired_imp h2 fun a d z => z.same s⟩
theorem paired_len {α β : Type} {P : α → β → Prop} : ∀ {xs : List α} {ys : List β}, Paired P xs ys → xs.length = ys.length
  | _, _, .nil => rfl
  | _, _, .cons _ t => by rw [List.length_cons, List.length_cons, paired_len t]
theorem paired_get {α β : Type} {P : α → β → Prop} : ∀ {xs : List α} {ys : List β} {i : Nat} {y : β}, Paired P xs ys → ys[i]? = some y → ∃ x, xs[i]? = some x ∧ P x y
  | _, _, _, _, .nil, h => by simp at h
  | _, _, 0, y, .cons (a := x) h t, e => by
    simp at e
    exact ⟨x, rfl, e ▸ h⟩
  | _, _, i + 1, y, .cons h t, e => by
    obtain ⟨x, h1, h2⟩ := paired_get t (by simpa using e)
    exact ⟨x, by simpa using h1, h2⟩
theorem ref_at {as : List Addr} {i : Nat} {x : Addr} (h : as[i]? = some x) : (as.map V.ref)[i]? = some (V.ref x) := by rw [List.getElem?_map, h]; rfl
def sp_need_programs (K : PySem.W.Frag) : Sp := fun vs H Q _ => ∃ (a : Addr) (ps : List (List Deed)), vs = [.ref a] ∧ ProgsAt K H a ps ∧ ProgsOk ps ∧ ∀ H', Same H H' → Q .non H'
/-! ### a new machine in the heap -/
theorem Stp.sqL {K : PySem.W.Frag} {H H' : Hp} {f f' : Addr → Prop} (S : Stp K H H' f f') {a : Addr} {xs : List V} (h : SqL K H a xs) (hf : ¬ f a) : SqL K H' a xs := by
  rcases h with (h | ⟨o, h⟩) | h
  · exact .inl (.inl (S.fr _ _ h hf fun ps z => by cases z))
  · exact .inl (.inr ⟨o, S.fr _ _ h hf fun ps z => by cases z⟩)
  · exact .inr h
theorem Stp.sqT {K : PySem.W.Frag} {H H' : Hp} {f f' : Addr → Prop} (S : Stp K H H' f f') {a : Addr} {xs : List V} (h : SqT K H a xs) (hf : ¬ f a) : SqT K H' a xs := by
  rcases h with (h | ⟨o, h⟩) | h
  · exact .inl (.inl (S.fr _ _ h hf fun ps z => by cases z))
  · exact .inl (.inr ⟨o, S.fr _ _ h hf fun ps z => by cases z⟩)
  · exact .inr h
/-- a list, a tuple that is read is none of these -/
def Plain (H : Hp) (f : Addr → Prop) : Prop := ∀ b, f b → ∃ o, H b = some o ∧ (∀ xs, o ≠ .lst xs) ∧ (∀ xs, o ≠ .tup xs) ∧ ∀ c u, o ≠ .frz c u
theorem Plain.sqL {K : PySem.W.Frag} {H H' : Hp} {f f' : Addr → Prop} (P : Plain H f) (S : Stp K H H' f f') {a : Addr} {xs : List V} (h : SqL K H a xs) : SqL K H' a xs := by
  rcases h with (h | ⟨o, h⟩) | h
  · refine .inl (.inl (S.fr _ _ h (fun z => ?_) fun ps z => by cases z))
    obtain ⟨o, ho, h1, _⟩ := P a z
    rw [h] at ho; exact h1 xs (Option.some.inj ho).symm
  · refine .inl (.inr ⟨o, S.fr _ _ h (fun z => ?_) fun ps z => by cases z⟩)
    obtain ⟨o', ho, _, _, h1⟩ := P a z
    rw [h] at ho; exact h1 _ _ (Option.some.inj ho).symm
  · exact .inr h
theorem Plain.sqT {K : PySem.W.Frag} {H H' : Hp} {f f' : Addr → Prop} (P : Plain H f) (S : Stp K H H' f f') {a : Addr} {xs : List V} (h : SqT K H a xs) : SqT K H' a xs := by
  rcases h with (h | ⟨o, h⟩) | h
  · refine .inl (.inl (S.fr _ _ h (fun z => ?_) fun ps z => by cases z))
    obtain ⟨o, ho, _, h1, _⟩ := P a z
    rw [h] at ho; exact h1 xs (Option.some.inj ho).symm
  · refine .inl (.inr ⟨o, S.fr _ _ h (fun z => ?_) fun ps z => by cases z⟩)
    obtain ⟨o', ho, _, _, h1⟩ := P a z
    rw [h] at ho; exact h1 _ _ (Option.some.inj ho).symm
  · exact .inr h
theorem Plain.progs {K : PySem.W.Frag} {H H' : Hp} {f f' : Addr → Prop} (P : Plain H f) (S : Stp K H H' f f') {a : Addr} {ps : List (List Deed)} (h : ProgsAt K H a ps) : ProgsAt K H' a ps := by
  obtain ⟨as, h1, h2⟩ := h
  exact ⟨as, P.sqL S h1, paired_imp h2 fun b p ⟨ds, h3, h4⟩ => ⟨ds, P.sqL S h3, paired_imp h4 fun c d z => P.sqT S z⟩⟩
theorem Stp.regr {K : PySem.W.Frag} {H H' : Hp} {f f' f'' : Addr → Prop} (S : Stp K H H' f f') (h : ∀ b, f'' b → f b ∨ H b = none) : Stp K H H' f f'' := ⟨S.fr, S.dm, h, S.ta⟩
/-- of a hand's things, whose -/
def handOf : MT → Option Nat
  | .hO i => some i
  | .hD i => some i
  | .hP i => some i
  | .hH i => some i
  | .hS i => some i
  | _ => none
structure HandAt (K : PySem.W.Frag) (H : Hp) (A : MT → Addr) (i : Nat) (p : List Deed) : Prop where
  o : H (A (.hO i)) = some (.ins (He.ga K "Hand") (A (.hD i)) (fldH (ha0 p) (A (.hP i)) (A (.hH i)) (A (.hS i))))
  d : H (A (.hD i)) = some (.own (A (.hO i)))
  p : ∃ ds : List Addr, H (A (.hP i)) = some (.lst (ds.map V.ref)) ∧ Paired (DeedAt K H) ds p
  h : H (A (.hH i)) = some (.lst [])
  s : H (A (.hS i)) = some (.lst [])
theorem HandAt.same {K : PySem.W.Frag} {H H' : Hp} {A : MT → Addr} {i : Nat} {p : List Deed} (h : HandAt K H A i p) (s : ∀ b o, H b = some o → (∃ t, handOf t = some i ∧ A t = b) ∨ (∃ xs, o = .tup xs) ∨ (∃ c u, o = .frz c u) → H' b = some o) : HandAt K H' A i p := by
  obtain ⟨h1, h2, ⟨ds, h3, h4⟩, h5, h6⟩ := h
  refine ⟨s _ _ h1 (.inl ⟨.hO i, rfl, rfl⟩), s _ _ h2 (.inl ⟨.hD i, rfl, rfl⟩), ⟨ds, s _ _ h3 (.inl ⟨.hP i, rfl, rfl⟩), paired_imp h4 fun a d z => ?_⟩, s _ _ h5 (.inl ⟨.hH i, rfl, rfl⟩), s _ _ h6 (.inl ⟨.hS i, rfl, rfl⟩)⟩
  rcases z with (z | ⟨o, z⟩) | z
  · exact .inl (.inl (s _ _ z (.inr (.inl ⟨_, rfl⟩))))
  · exact .inl (.inr ⟨o, s _ _ z (.inr (.inr ⟨_, _, rfl⟩))⟩)
  · exact .inr z
/-- the first n hands, new behind H0 -/
structure Hands (K : PySem.W.Frag) (H0 H : Hp) (A : MT → Addr) (ps : List (List Deed)) (n : Nat) : Prop where
  at_ : ∀ i, i < n → HandAt K H A i (ps.getD i [])
  inj : ∀ t u i j, handOf t = some i → i < n → handOf u = some j → j < n → A t = A u → t = u
  new : ∀ t i, handOf t = some i → i < n → H0 (A t) = none
theorem HandAt.there {K : PySem.W.Frag} {H : Hp} {A : MT → Addr} {i : Nat} {p : List Deed} (h : HandAt K H A i p) {t : MT} (ht : handOf t = some i) : ∃ o, H (A t) = some o ∧ (∀ kvs, o ≠ .dK kvs) := by
  obtain ⟨h1, h2, ⟨ds, h3, _⟩, h5, h6⟩ := h
  cases t <;> simp only [handOf, Option.some.injEq, reduceCtorEq] at ht <;> subst ht
  · exact ⟨_, h1, fun _ z => by cases z⟩
  · exact ⟨_, h2, fun _ z => by cases z⟩
  · exact ⟨_, h3, fun _ z => by cases z⟩
  · exact ⟨_, h5, fun _ z => by cases z⟩
  · exact ⟨_, h6, fun _ z => by cases z⟩
/-- a hand more -/
def addA (A : MT → Addr) (n : Nat) (x dx p h s : Addr) : MT → Addr
  | .hO i => if i = n then x else A (.hO i)
  | .hD i => if i = n then dx else A (.hD i)
  | .hP i => if i = n then p else A (.hP i)
  | .hH i => if i = n then h else A (.hH i)
  | .hS i => if i = n then s else A (.hS i)
  | t => A t
theorem addA_old {A : MT → Addr} {n : Nat} {x dx p h s : Addr} {t : MT} (ht : handOf t ≠ some n) : addA A n x dx p h s t = A t := by
  cases t <;> first
    | rfl
    | (refine if_neg fun z => ht ?_
       rw [z]; rfl)
theorem addA_new {A : MT → Addr} {n : Nat} {x dx p h s : Addr} {t : MT} (ht : handOf t = some n) : addA A n x dx p h s t = match t with
    | .hO _ => x
    | .hD _ => dx
    | .hP _ => p
    | .hH _ => h
    | .hS _ => s
    | t => A t := by
  cases t <;> simp only [handOf, Option.some.injEq, reduceCtorEq] at ht <;> subst ht <;> exact if_pos rfl
theorem Hands.add {K : PySem.W.Frag} {H0 H H' : Hp} {A : MT → Addr} {ps : List (List Deed)} {n : Nat} (Z : Hands K H0 H A ps n) {x dx p h s : Addr} (nx : H x = none) (nd : H dx = none) (np : H p = none) (nh : H h = none) (ns : H s = none)
    (d0 : H0 x = none ∧ H0 dx = none ∧ H0 p = none ∧ H0 h = none ∧ H0 s = none)
    (e1 : x ≠ dx) (e2 : x ≠ p) (e3 : x ≠ h) (e4 : x ≠ s) (e5 : dx ≠ p) (e6 : dx ≠ h) (e7 : dx ≠ s) (e8 : p ≠ h) (e9 : p ≠ s) (e10 : h ≠ s) (k : ∀ b o, H b = some o → H' b = some o)
    (new : HandAt K H' (addA A n x dx p h s) n (ps.getD n [])) : Hands K H0 H' (addA A n x dx p h s) ps (n + 1) := by
  have old : ∀ {t i}, handOf t = some i → i < n → addA A n x dx p h s t = A t := fun {t i} ht hi => addA_old fun z => by rw [ht] at z; cases z; omega
  have isnew : ∀ {t}, handOf t = some n → H (addA A n x dx p h s t) = none ∧ H0 (addA A n x dx p h s t) = none := fun {t} ht => by
    rw [addA_new ht]
    cases t <;> simp only [handOf, Option.some.injEq, reduceCtorEq] at ht
    · exact ⟨nx, d0.1⟩
    · exact ⟨nd, d0.2.1⟩
    · exact ⟨np, d0.2.2.1⟩
    · exact ⟨nh, d0.2.2.2.1⟩
    · exact ⟨ns, d0.2.2.2.2⟩
  refine ⟨fun i hi => ?_, fun t u i j ht hi hu hj e => ?_, fun t i ht hi => ?_⟩
  · by_cases e : i = n
    · rw [e]; exact new
    · have hi' : i < n := by omega
      have hh := (Z.at_ i hi').same (H' := H') fun b o q _ => k b o q
      have o1 := old (t := .hO i) rfl hi'
      have o2 := old (t := .hD i) rfl hi'
      have o3 := old (t := .hP i) rfl hi'
      have o4 := old (t := .hH i) rfl hi'
      have o5 := old (t := .hS i) rfl hi'
      obtain ⟨h1, h2, h3, h4, h5⟩ := hh
      exact ⟨by rw [o1, o2, o3, o4, o5]; exact h1, by rw [o1, o2]; exact h2, by rw [o3]; exact h3, by rw [o4]; exact h4, by rw [o5]; exact h5⟩
  · have there : ∀ {t i}, handOf t = some i → i < n → H (addA A n x dx p h s t) ≠ none := fun {t i} ht hi z => by
      obtain ⟨o, ho, _⟩ := (Z.at_ i hi).there ht
      rw [old ht hi, ho] at z; cases z
    by_cases ei : i = n
    · by_cases ej : j = n
      · subst ei; subst ej
        rw [addA_new ht, addA_new hu] at e
        cases t <;> simp only [handOf, Option.some.injEq, reduceCtorEq] at ht <;> subst ht <;> cases u <;> simp only [handOf, Option.some.injEq, reduceCtorEq] at hu <;> subst hu <;> first
          | rfl
          | exact absurd e e1 | exact absurd e e2 | exact absurd e e3 | exact absurd e e4 | exact absurd e e5 | exact absurd e e6 | exact absurd e e7 | exact absurd e e8 | exact absurd e e9 | exact absurd e e10
          | exact absurd e.symm e1 | exact absurd e.symm e2 | exact absurd e.symm e3 | exact absurd e.symm e4 | exact absurd e.symm e5 | exact absurd e.symm e6 | exact absurd e.symm e7 | exact absurd e.symm e8 | exact absurd e.symm e9 | exact absurd e.symm e10
      · subst ei
        exact absurd (isnew ht).1 (by rw [e]; exact there hu (by omega))
    · by_cases ej : j = n
      · subst ej
        exact absurd (isnew hu).1 (by rw [← e]; exact there ht (by omega))
      · rw [old ht (by omega), old hu (by omega)] at e
        exact Z.inj t u i j ht (by omega) hu (by omega) e
  · by_cases ei : i = n
    · subst ei; exact (isnew ht).2
    · rw [old ht (by omega)]
      exact Z.new t i ht (by omega)
theorem DOk.empty : DOk [] fun n => ((fun _ : Int => (none : Option Nat)) n).map fun h => V.int (h : Nat) := ⟨.nil, fun n => rfl, fun p hp => by cases hp⟩
/-- the whole machine -/
theorem rep_new {K : PySem.W.Frag} {H0 H : Hp} {left : Bool} {ps : List (List Deed)} {F : Fo} {A : Lay} (RF : RepF K H A.f F) (Z : Hands K H0 H A.m ps ps.length)
    (f0 : ∀ t, liveF F t → H0 (A.f t) ≠ none) (h1 : H0 (A.m .mO) ≠ none) (h2 : H0 (A.m .mD) ≠ none) (h3 : H0 (A.m .lk) ≠ none) (h4 : H0 (A.m .en) ≠ none)
    (o1 : H (A.m .mO) = some (.ins (He.ga K "Machine") (A.m .mD) (fldM (mc0 left ps F) A))) (o2 : H (A.m .mD) = some (.own (A.m .mO))) (o3 : ∃ kvs, H (A.m .lk) = some (.dK kvs) ∧ DOk kvs fun n => ((fun _ : Int => (none : Option Nat)) n).map fun h => V.int (h : Nat)) (o4 : H (A.m .en) = some (.lst []))
    (o5 : H (A.m .hs) = some (.lst ((List.range ps.length).map fun i => V.ref (A.m (.hO i)))))
    (n5 : A.m .hs ≠ A.m .en) (n6 : ∀ t, liveF F t → A.m .hs ≠ A.f t) (n7 : ∀ t i, handOf t = some i → i < ps.length → A.m .hs ≠ A.m t) (fe : ∀ t, liveF F t → A.m .en ≠ A.f t) (fl : ∀ t, liveF F t → A.m .lk ≠ A.f t) (fm : ∀ t, liveF F t → A.m .mO ≠ A.f t) (fd : ∀ t, liveF F t → A.m .mD ≠ A.f t) :
    Rep K H A (mc0 left ps F) := by
  have noA : ∀ i j, ¬ liveM (mc0 left ps F) (.aL i j) := fun i j ⟨_, xs, e⟩ => by
    have e' : ([] : List Ans)[j]? = some (.l xs) := e
    simp at e'
  have hnd : ∀ {t}, liveM (mc0 left ps F) t → t = .mO ∨ t = .mD ∨ t = .lk ∨ t = .en ∨ t = .hs ∨ ∃ i, handOf t = some i ∧ i < ps.length := fun {t} l => by
    cases t with
    | mO => exact .inl rfl
    | mD => exact .inr (.inl rfl)
    | lk => exact .inr (.inr (.inl rfl))
    | en => exact .inr (.inr (.inr (.inl rfl)))
    | hs => exact .inr (.inr (.inr (.inr (.inl rfl))))
    | aL i j => exact absurd l (noA i j)
    | _ i => exact .inr (.inr (.inr (.inr (.inr ⟨i, rfl, l⟩))))
  obtain ⟨kvs, o3, dk⟩ := o3
  have H0h : ∀ {t i}, handOf t = some i → i < ps.length → H0 (A.m t) = none := fun {t i} ht hi => Z.new t i ht hi
  have ne : ∀ {a b : Addr} {o o' : HO}, H a = some o → H b = some o' → o ≠ o' → a ≠ b := fun {a b o o'} ha hb no z => by
    rw [z, hb] at ha
    exact no (Option.some.inj ha).symm
  refine ⟨RF, fun t o e => ?_, ⟨kvs, o3, dk⟩, ⟨[], o4, .nil⟩, fun i hi => ?_, fun t u lt lu e => ?_, fun t u lt lu e => ?_⟩
  · cases t with
    | mO => rw [o1]; exact e
    | mD => rw [o2]; exact e
    | lk => cases e
    | en => cases e
    | hs => rw [o5]; exact e
    | hO i =>
      have hi := objM_live e
      rw [(Z.at_ i hi).o, ← e]
      exact (if_pos hi).symm
    | hD i =>
      have hi := objM_live e
      rw [(Z.at_ i hi).d, ← e]
      exact (if_pos hi).symm
    | hP i => cases e
    | hH i =>
      have hi := objM_live e
      rw [(Z.at_ i hi).h, ← e]
      exact (if_pos hi).symm
    | hS i =>
      have hi := objM_live e
      rw [(Z.at_ i hi).s, ← e]
      exact (if_pos hi).symm
    | aL i j => exact absurd (objM_live e) (noA i j)
  · exact (Z.at_ i hi).p
  · have c12 : A.m .mO ≠ A.m .mD := ne o1 o2 (by intro z; cases z)
    have c13 : A.m .mO ≠ A.m .lk := ne o1 o3 (by intro z; cases z)
    have c14 : A.m .mO ≠ A.m .en := ne o1 o4 (by intro z; cases z)
    have c15 : A.m .mO ≠ A.m .hs := ne o1 o5 (by intro z; cases z)
    have c23 : A.m .mD ≠ A.m .lk := ne o2 o3 (by intro z; cases z)
    have c24 : A.m .mD ≠ A.m .en := ne o2 o4 (by intro z; cases z)
    have c25 : A.m .mD ≠ A.m .hs := ne o2 o5 (by intro z; cases z)
    have c34 : A.m .lk ≠ A.m .en := ne o3 o4 (by intro z; cases z)
    have c35 : A.m .lk ≠ A.m .hs := ne o3 o5 (by intro z; cases z)
    have old : ∀ {t}, (t = .mO ∨ t = .mD ∨ t = .lk ∨ t = .en) → H0 (A.m t) ≠ none := fun {t} z => by
      rcases z with z | z | z | z <;> rw [z] <;> assumption
    have hh : ∀ {t u i}, handOf t = some i → i < ps.length → (u = .mO ∨ u = .mD ∨ u = .lk ∨ u = .en ∨ u = .hs) → A.m t ≠ A.m u := fun {t u i} ht hi hu z => by
      rcases hu with w | w | w | w | w
      · exact old (.inl w) (by rw [← z]; exact H0h ht hi)
      · exact old (.inr (.inl w)) (by rw [← z]; exact H0h ht hi)
      · exact old (.inr (.inr (.inl w))) (by rw [← z]; exact H0h ht hi)
      · exact old (.inr (.inr (.inr w))) (by rw [← z]; exact H0h ht hi)
      · rw [w] at z; exact n7 t i ht hi z.symm
    rcases hnd lt with a | a | a | a | a | ⟨i, a, ai⟩
    all_goals (rcases hnd lu with b | b | b | b | b | ⟨j, b, bj⟩)
    all_goals first
      | exact absurd e (hh a ai (by rw [b]; simp))
      | exact absurd e.symm (hh b bj (by rw [a]; simp))
      | exact Z.inj t u i j a ai b bj e
      | (subst a; subst b; rfl)
      | (subst a; subst b; exact absurd e c12)
      | (subst a; subst b; exact absurd e.symm c12)
      | (subst a; subst b; exact absurd e c13)
      | (subst a; subst b; exact absurd e.symm c13)
      | (subst a; subst b; exact absurd e c14)
      | (subst a; subst b; exact absurd e.symm c14)
      | (subst a; subst b; exact absurd e c15)
      | (subst a; subst b; exact absurd e.symm c15)
      | (subst a; subst b; exact absurd e c23)
      | (subst a; subst b; exact absurd e.symm c23)
      | (subst a; subst b; exact absurd e c24)
      | (subst a; subst b; exact absurd e.symm c24)
      | (subst a; subst b; exact absurd e c25)
      | (subst a; subst b; exact absurd e.symm c25)
      | (subst a; subst b; exact absurd e c34)
      | (subst a; subst b; exact absurd e.symm c34)
      | (subst a; subst b; exact absurd e c35)
      | (subst a; subst b; exact absurd e.symm c35)
      | (subst a; subst b; exact absurd e n5)
      | (subst a; subst b; exact absurd e.symm n5)
  · rcases hnd lt with a | a | a | a | a | ⟨i, a, ai⟩
    · rw [a] at e; exact fm u lu e
    · rw [a] at e; exact fd u lu e
    · rw [a] at e; exact fl u lu e
    · rw [a] at e; exact fe u lu e
    · rw [a] at e; exact n6 u lu e
    · exact f0 u lu (by rw [← e]; exact H0h a ai)

/-! ### the machine's making -/
theorem new_ne {H : Hp} {a b : Addr} {o : HO} (h : upd H a o b = none) : b ≠ a := fun z => by rw [z, upd_same] at h; cases h
def sp_Forest_init (K : PySem.W.Frag) : Sp := fun vs H Q _ => ∃ (f df : Addr), vs = [.ref f] ∧ H f = some (.ins (He.ga K "Forest") df []) ∧ H df = some (.own f) ∧
  ∀ H' A, A .fO = f → A .fD = df → RepF K H' A fo0 → (∀ b o, H b = some o → b ≠ f → H' b = some o) → (∀ b, H' b = none → H b = none) → (∀ t, liveF fo0 t → t ≠ .fO → t ≠ .fD → H (A t) = none) → Q .non H'
theorem hand_made {K : PySem.W.Frag} {H0 H1 H' : Hp} {A : MT → Addr} {ps : List (List Deed)} {n : Nat} {x dx p h s : Addr} {ds : List Addr} (Z : Hands K H0 H1 A ps n) (dm0 : ∀ b, H1 b = none → H0 b = none) (nx : H1 x = none) (ndx : H1 dx = none) (ne : dx ≠ x)
    (hd : Paired (DeedAt K H1) ds (ps.getD n []))
    (k : ∀ b o, upd (upd H1 dx (.own x)) x (.ins (He.ga K "Hand") dx []) b = some o → b ≠ x → H' b = some o) (np : upd (upd H1 dx (.own x)) x (.ins (He.ga K "Hand") dx []) p = none) (nh : upd (upd H1 dx (.own x)) x (.ins (He.ga K "Hand") dx []) h = none) (ns : upd (upd H1 dx (.own x)) x (.ins (He.ga K "Hand") dx []) s = none)
    (e1 : p ≠ h) (e2 : p ≠ s) (e3 : h ≠ s) (v1 : H' x = some (.ins (He.ga K "Hand") dx (fldH ⟨[], 0, [], none, none, []⟩ p h s))) (v2 : H' p = some (.lst (ds.map V.ref))) (v3 : H' h = some (.lst [])) (v4 : H' s = some (.lst []))
    (dm : ∀ b, H' b = none → upd (upd H1 dx (.own x)) x (.ins (He.ga K "Hand") dx []) b = none) : Hands K H0 H' (addA A n x dx p h s) ps (n + 1) ∧ Same H1 H' ∧ ∀ b, H' b = none → H1 b = none := by
  have old : ∀ b o, H1 b = some o → H' b = some o := fun b o e => by
    have bx : b ≠ x := ne_of_none e nx
    refine k b o ?_ bx
    rw [upd_ne bx, upd_ne (ne_of_none e ndx)]
    exact e
  have f : ∀ {q}, upd (upd H1 dx (.own x)) x (.ins (He.ga K "Hand") dx []) q = none → H1 q = none ∧ q ≠ x ∧ q ≠ dx := fun {q} z => ⟨upd_free (upd_free z), new_ne z, new_ne (upd_free z)⟩
  obtain ⟨p1, p2, p3⟩ := f np
  obtain ⟨h1, h2, h3⟩ := f nh
  obtain ⟨s1, s2, s3⟩ := f ns
  refine ⟨Z.add nx ndx p1 h1 s1 ⟨dm0 _ nx, dm0 _ ndx, dm0 _ p1, dm0 _ h1, dm0 _ s1⟩ ne.symm p2.symm h2.symm s2.symm p3.symm h3.symm s3.symm e1 e2 e3 old ?_, old, fun b z => (f (dm b z)).1⟩
  have a1 : addA A n x dx p h s (.hO n) = x := if_pos rfl
  have a2 : addA A n x dx p h s (.hD n) = dx := if_pos rfl
  have a3 : addA A n x dx p h s (.hP n) = p := if_pos rfl
  have a4 : addA A n x dx p h s (.hH n) = h := if_pos rfl
  have a5 : addA A n x dx p h s (.hS n) = s := if_pos rfl
  refine ⟨by rw [a1, a2, a3, a4, a5]; exact v1, ?_, ⟨ds, by rw [a3]; exact v2, paired_imp hd fun a d z => sqT_same old z⟩, by rw [a4]; exact v3, by rw [a5]; exact v4⟩
  rw [a1, a2]
  exact k dx _ (by rw [upd_ne ne, upd_same]) ne
theorem Hands.keep {K : PySem.W.Frag} {H0 H H' : Hp} {A : MT → Addr} {ps : List (List Deed)} {n : Nat} (Z : Hands K H0 H A ps n) {x : Addr} {u : HO} (h0 : H0 x ≠ none) (hx : H x = some u) (h1 : ∀ xs, u ≠ .tup xs) (h2 : ∀ c v, u ≠ .frz c v) (k : ∀ b o, H b = some o → b ≠ x → H' b = some o) : Hands K H0 H' A ps n := by
  refine ⟨fun i hi => (Z.at_ i hi).same fun b o e hb => k b o e fun z => ?_, Z.inj, Z.new⟩
  rcases hb with ⟨t, ht, e2⟩ | ⟨xs, e2⟩ | ⟨c, v, e2⟩
  · exact h0 (by rw [← z, ← e2]; exact Z.new t i ht hi)
  · rw [z, hx] at e; exact h1 xs ((Option.some.inj e).trans e2)
  · rw [z, hx] at e; exact h2 c v ((Option.some.inj e).trans e2)
theorem Hands.nil {K : PySem.W.Frag} {H0 H : Hp} {A : MT → Addr} {ps : List (List Deed)} : Hands K H0 H A ps 0 := ⟨fun i hi => by omega, fun t u i j _ hi => by omega, fun t i _ hi => by omega⟩
theorem addA_hO {A : MT → Addr} {n : Nat} {x dx p h s : Addr} : addA A n x dx p h s (.hO n) = x := if_pos rfl
theorem rep_live {left : Bool} {ps : List (List Deed)} {F : Fo} {t : MT} (l : liveM (mc0 left ps F) t) : t = .mO ∨ t = .mD ∨ t = .lk ∨ t = .en ∨ t = .hs ∨ ∃ i, handOf t = some i ∧ i < ps.length := by
  cases t with
  | mO => exact .inl rfl
  | mD => exact .inr (.inl rfl)
  | lk => exact .inr (.inr (.inl rfl))
  | en => exact .inr (.inr (.inr (.inl rfl)))
  | hs => exact .inr (.inr (.inr (.inr (.inl rfl))))
  | aL i j =>
    obtain ⟨_, xs, e⟩ := l
    have e' : ([] : List Ans)[j]? = some (.l xs) := e
    simp at e'
  | _ i => exact .inr (.inr (.inr (.inr (.inr ⟨i, rfl, l⟩))))
theorem begin_inv (left : Bool) {keys : List Int} (hk : KeysOk keys) : ∃ g mu, INV (mc0 left [keys.map Deed.put] fo0) g mu ∧ (mc0 left [keys.map Deed.put] fo0).n = 1 ∧ mu 0 ≤ 1000 * keys.length ∧ True := begin0 left hk
/-- what the machine's object leaves alone -/
def own2 (x dx b : Addr) : Prop := b = x ∨ b = dx
def sp_Machine_init (K : PySem.W.Frag) : Sp := fun vs H Q _ => ∃ (x dx ka pa : Addr) (left : Bool) (keys : List Int) (progs : List (List Deed)), vs = [.ref x, .ref ka, .ref pa, .str (ruleS left)] ∧ H x = some (.ins (He.ga K "Machine") dx []) ∧ H dx = some (.own x) ∧
  SqL K H ka (iL keys) ∧ KeysOk keys ∧ ProgsAt K H pa progs ∧ ProgsOk progs ∧ TabsOk K H ∧
  ∀ H' A, A.m .mO = x → Rep K H' A (startM left keys progs) → Stp K H H' (own2 x dx) (foot (startM left keys progs) A) → Q .non H'
/-! ### what the laws draw -/
/-- a step that changes the dice alone -/
structure Dst (H H' : Hp) (d : Addr) : Prop where
  fr : ∀ b o, H b = some o → b ≠ d → H' b = some o
  dm : ∀ b, H' b = none → H b = none
theorem Dst.refl (H : Hp) (d : Addr) : Dst H H d := ⟨fun _ _ h _ => h, fun _ h => h⟩
theorem Dst.trans {H H1 H2 : Hp} {d : Addr} (a : Dst H H1 d) (b : Dst H1 H2 d) : Dst H H2 d := ⟨fun c o h n => b.fr c o (a.fr c o h n) n, fun c h => a.dm c (b.dm c h)⟩
theorem Dst.at {H : Hp} {d : Addr} {o : HO} : Dst H (upd H d o) d := ⟨fun b u h n => by rw [upd_ne n]; exact h, fun b h => upd_free h⟩
theorem Dst.same {H H' : Hp} {d : Addr} (s : Same H H') : Dst H H' d := ⟨fun b o h _ => s b o h, fun b h => s.free h⟩
theorem Dst.own {H0 H : Hp} {d p : Addr} {o : HO} (a : Dst H0 H d) (hp : H0 p = none) : Dst H0 (upd H p o) d := ⟨fun b u h n => by rw [upd_ne (ne_of_none h hp)]; exact a.fr b u h n, fun b h => a.dm b (upd_free h)⟩
section
variable {K : PySem.W.Frag} {H0 H H' : Hp} {d p : Addr} {o : HO}
theorem Dice.put (D : Dice K H0 H d) (hp : H0 p = none) (ne : p ≠ d) : Dice K H0 (upd H p o) d := by
  obtain ⟨⟨a, ns, i, m, c, hd, r⟩, nd, gr⟩ := D
  exact ⟨⟨a, ns, i, m, c, by rw [upd_ne ne.symm]; exact hd, r⟩, nd, gr.put hp⟩
theorem Dice.same (D : Dice K H0 H d) (s : Same H H') : Dice K H0 H' d := by
  obtain ⟨⟨a, ns, i, m, c, hd, r⟩, nd, gr⟩ := D
  exact ⟨⟨a, ns, i, m, c, s _ _ hd, r⟩, nd, gr.trans (Grown.same s)⟩
theorem Dice.there (D : Dice K H0 H d) : ∃ xs, H d = some (.lst xs) := by
  obtain ⟨⟨a, ns, i, m, c, hd, r⟩, nd, gr⟩ := D
  exact ⟨_, hd⟩
theorem Dice.ne (D : Dice K H0 H d) (hp : H p = none) : p ≠ d := by
  obtain ⟨xs, hd⟩ := D.there
  exact fun z => by rw [z, hd] at hp; cases hp
theorem Dice.new0 (D : Dice K H0 H d) (hp : H p = none) : H0 p = none := D.gr.dm p hp
end
theorem word_at {v : Int} (h0 : 0 ≤ v) (h1 : v < 6) : ∃ w : Str, atI [V.str "put", V.str "take", V.str "ask", V.str "walk", V.str "take", V.str "walk"] v = some (V.str w) ∧ (w = "put" ∨ w = "take" ∨ w = "ask" ∨ w = "walk") := by
  have : v = 0 ∨ v = 1 ∨ v = 2 ∨ v = 3 ∨ v = 4 ∨ v = 5 := by omega
  rcases this with e | e | e | e | e | e <;> subst e
  · exact ⟨_, rfl, .inl rfl⟩
  · exact ⟨_, rfl, .inr (.inl rfl)⟩
  · exact ⟨_, rfl, .inr (.inr (.inl rfl))⟩
  · exact ⟨_, rfl, .inr (.inr (.inr rfl))⟩
  · exact ⟨_, rfl, .inr (.inl rfl)⟩
  · exact ⟨_, rfl, .inr (.inr (.inr rfl))⟩
def sp_l_deed (K : PySem.W.Frag) : Sp := fun vs H Q _ => ∃ (H0 : Hp) (d : Addr) (far : Int), vs = [.ref d, .int far] ∧ Dice K H0 H d ∧ 1 ≤ far ∧ far ≤ 100 ∧
  ∀ (H' : Hp) (p : Addr) (de : Deed), Dice K H0 H' d → Dst H H' d → H p = none → H' p = some (.tup (deedV de)) → DeedOk de → Q (.ref p) H'
abbrev N_l_deed : List Str := ["_law_d", "_law_far", "_law_word", "_law_key"]
theorem sc_l_deed : FnScope N_l_deed ["_law_d", "_law_far"] (defScope s_l_deed) := ⟨rfl, rfl, rfl, by decide +kernel, rfl, by decide +kernel, by decide +kernel⟩
theorem b_l_deed {w : World} {K : PySem.W.Frag} {mg : Str → Option Value} {base : Heap} (T : Txt w K mg base) : Binds K (fdOf K d_l_deed.at_) ["_law_d", "_law_far"] [] := T.f_l_deed.bindsN fun _ _ _ _ _ _ us hl => match us, hl with | [_, _], _ => rfl
theorem ok_l_deed {P : Program} {w : World} {K : PySem.W.Frag} {mg : Str → Option Value} {base : Heap} (T : Txt w K mg base) : FnOk P w K mg base CX0 2 (He.fAd K d_l_deed.at_) (fdOf K d_l_deed.at_) ["_law_d", "_law_far"] (sp_l_deed K) := by
  refine T.f_l_deed.ok sc_l_deed (fun vs H Q E h => ?_) (fun cdv A outer s H vs Q E hr h => ?_)
  · obtain ⟨H0, d, far, rfl, _⟩ := h
    rfl
  · obtain ⟨H0, d, far, rfl, D, f1, f2, k⟩ := h
    refine ⟨_, PSs.nox (pss_cons (ps_set (i := 2) sc_l_deed.nd rfl (Or.inl rfl) (pe_ix ix_list (pe_lst (pa_cons pe_str (pa_cons pe_str (pa_cons pe_str (pa_cons pe_str (pa_cons pe_str (pa_cons pe_str pa_nil))))))) (pe_call (ok_l_next T) (hr.mono (by decide)) rfl T.g_l_next T.f_l_next.kp (b_l_next T) .nil pass0 (pa_cons (pv 0) (pa_cons pe_int pa_nil))) (fun _ _ => rfl)))
  (pss_cons (ps_set (i := 3) sc_l_deed.nd rfl (Or.inl rfl) (pe_call (ok_l_next T) (hr.mono (by decide)) rfl T.g_l_next T.f_l_next.kp (b_l_next T) .nil pass0 (pa_cons (pv 0) (pa_cons (pv 1) pa_nil))))
  (pss_cons (ps_if (pt_cmpR op_eq (pv 2) pe_str (nomark _)) (pss_one (ps_ret (pe_tup (pa_cons (pv 2) (pa_cons (pv 3) (pa_cons (pe_callB (call_min2 rfl) (by rfl) T.b_min (by decide +kernel) (pa_cons pe_int (pa_cons (pe_op op_add (pv 3) (pe_call (ok_l_next T) (hr.mono (by decide)) rfl T.g_l_next T.f_l_next.kp (b_l_next T) .nil pass0 (pa_cons (pv 0) (pa_cons (pv 1) pa_nil)))) pa_nil))) pa_nil)))))) pss_nil)
  (pss_one (ps_ret (pe_tup (pa_cons (pv 2) (pa_cons (pv 3) pa_nil)))))))), ?_⟩
    refine ⟨(show 6 ≤ sizeLine by decide), fun l nl => ?_⟩
    have s1 := same_new (o := .lst [V.str "put", V.str "take", V.str "ask", V.str "walk", V.str "take", V.str "walk"]) nl
    have D1 := D.same s1
    have ld := D.ne nl
    refine ⟨_, rfl, H0, d, 6, rfl, D1, by decide, by decide, fun v o v0 v1 D2 => ?_⟩
    obtain ⟨wd, hw, hww⟩ := word_at v0 v1
    have S2 : Dst H _ d := (Dst.same s1).trans (Dst.at (o := o))
    refine ⟨_, _, _, V.str wd, rfl, rfl, SqL.of (by rw [upd_ne ld, upd_same]), hw, ?_⟩
    clear D1 s1
    generalize upd (upd H l _) d o = H2 at *
    refine ⟨_, rfl, _, rfl, H0, d, far, rfl, D2, f1, by omega, fun key o2 k0 k1 D3 => ?_⟩
    have S3 : Dst H (upd H2 d o2) d := S2.trans Dst.at
    clear D2 S2
    generalize upd H2 d o2 = H3 at *
    refine ⟨_, rfl, rfl, _, rfl, ?_⟩
    refine ite2 (fun hc => ?_) (fun hc => ?_)
    · have ew : wd = "walk" := V.str.inj (of_decide_eq_true hc)
      refine ⟨_, rfl, _, rfl, _, rfl, _, rfl, _, rfl, H0, d, far, rfl, D3, f1, by omega, fun m o4 m0 m1 D4 => ?_⟩
      refine ⟨_, _, rfl, rfl, _, _, rfl, (show 3 ≤ sizeLine by decide), fun p np => ?_⟩
      have S4 : Dst H (upd H3 d o4) d := S3.trans Dst.at
      rw [ew]
      refine k _ p (.walk key (if key + m < 99 then key + m else 99)) (D4.same (same_new np)) (S4.trans (Dst.same (same_new np))) (S4.dm _ np) ?_ ⟨k0, by show key ≤ 99; omega, fun lo hi e => ?_⟩
      · rw [upd_same]
        rfl
      · injection e with e1 e2
        subst e1; subst e2
        split <;> omega
    · have nw : wd ≠ "walk" := fun z => hc (decide_eq_true (by rw [z]))
      refine ⟨_, rfl, _, rfl, (show 2 ≤ sizeLine by decide), fun p np => ?_⟩
      have fin : ∀ de : Deed, deedV de = [V.str wd, V.int key] → DeedOk de → Q (.ref p) (upd H3 p (.tup [V.str wd, V.int key])) := fun de e ok =>
        k _ p de (D3.same (same_new np)) (S3.trans (Dst.same (same_new np))) (S3.dm _ np) (by rw [upd_same, e]) ok
      have ok1 : 0 ≤ key ∧ key ≤ 99 := ⟨k0, by omega⟩
      rcases hww with e | e | e | e
      · exact fin (.put key) (by rw [e]; rfl) ⟨ok1.1, ok1.2, fun _ _ z => by cases z⟩
      · exact fin (.take key) (by rw [e]; rfl) ⟨ok1.1, ok1.2, fun _ _ z => by cases z⟩
      · exact fin (.ask key) (by rw [e]; rfl) ⟨ok1.1, ok1.2, fun _ _ z => by cases z⟩
      · exact absurd e nw
theorem seq_at {v : Int} {n : Nat} (h0 : 0 ≤ v) (h1 : v < n) : seqIndex? v n = some v.toNat := by
  unfold seqIndex?
  simp
  omega
theorem rg_list : rgV 0 100 = iL ((List.range 100).map fun i => (0 : Int) + (i : Nat)) := by
  unfold rgV
  simp [iL]
theorem far_at {v : Int} (h0 : 0 ≤ v) (h1 : v < 3) : ∃ far : Int, atI [V.int 12, V.int 30, V.int 100] v = some (V.int far) ∧ (far = 12 ∨ far = 30 ∨ far = 100) := by
  have : v = 0 ∨ v = 1 ∨ v = 2 := by omega
  rcases this with e | e | e <;> subst e
  · exact ⟨_, rfl, .inl rfl⟩
  · exact ⟨_, rfl, .inr (.inl rfl)⟩
  · exact ⟨_, rfl, .inr (.inr rfl)⟩
theorem two_at {x y : Int} {b : Bool} : ∃ z, atI [V.int x, V.int y] (b2i b) = some (V.int z) ∧ (z = x ∨ z = y) := by
  cases b
  · exact ⟨x, rfl, .inl rfl⟩
  · exact ⟨y, rfl, .inr rfl⟩
theorem erase_perm {y : Int} : ∀ {ls : List Int} {i : Nat}, ls[i]? = some y → ls.Perm (y :: ls.eraseIdx i)
  | [], _, h => by simp at h
  | a :: r, 0, h => by
    have : a = y := by simpa using h
    rw [this]
    exact List.Perm.refl _
  | a :: r, i + 1, h => by
    have := erase_perm (ls := r) (i := i) (by simpa using h)
    exact (List.Perm.cons a this).trans (List.Perm.swap y a _)
theorem erase_iL : ∀ (ls : List Int) (i : Nat), (iL ls).eraseIdx i = iL (ls.eraseIdx i)
  | [], _ => rfl
  | a :: r, 0 => rfl
  | a :: r, i + 1 => by
    show V.int a :: (iL r).eraseIdx i = V.int a :: iL (r.eraseIdx i)
    rw [erase_iL r i]
theorem pop_app {ls ks : List Int} {i : Nat} {y : Int} (h : ls[i]? = some y) : (ls.eraseIdx i ++ (ks ++ [y])).Perm (ls ++ ks) := by
  have e : ls.Perm (y :: ls.eraseIdx i) := erase_perm h
  refine List.Perm.trans ?_ (List.Perm.append_right ks e).symm
  rw [← List.append_assoc]
  exact (List.perm_append_comm (l₁ := ls.eraseIdx i ++ ks) (l₂ := [y]))
def sp_l_keys (K : PySem.W.Frag) : Sp := fun vs H Q _ => ∃ (H0 : Hp) (d : Addr), vs = [.ref d] ∧ Dice K H0 H d ∧
  ∀ (H' : Hp) (p ka : Addr) (keys : List Int) (far : Int), Dice K H0 H' d → Dst H H' d → H p = none → H ka = none → p ≠ ka → H' p = some (.tup [.ref ka, .int far]) → H' ka = some (.lst (iL keys)) → KeysOk keys → (∀ k ∈ keys, k < far) → (far = 12 ∨ far = 30 ∨ far = 100) → Q (.ref p) H'
abbrev N_l_keys : List Str := ["_law_d", "_law_left", "_law_far", "_law_keys_here", "_law_k", "_law_way"]
theorem sc_l_keys : FnScope N_l_keys ["_law_d"] (defScope s_l_keys) := ⟨rfl, rfl, rfl, by decide +kernel, rfl, by decide +kernel, by decide +kernel⟩
theorem b_l_keys {w : World} {K : PySem.W.Frag} {mg : Str → Option Value} {base : Heap} (T : Txt w K mg base) : Binds K (fdOf K d_l_keys.at_) ["_law_d"] [] := T.f_l_keys.bindsN fun _ _ _ _ _ _ us hl => match us, hl with | [_], _ => rfl
theorem ok_l_keys {P : Program} {w : World} {K : PySem.W.Frag} {mg : Str → Option Value} {base : Heap} (T : Txt w K mg base) : FnOk P w K mg base CX0 2 (He.fAd K d_l_keys.at_) (fdOf K d_l_keys.at_) ["_law_d"] (sp_l_keys K) := by
  refine T.f_l_keys.ok sc_l_keys (fun vs H Q E h => ?_) (fun cdv A outer s H vs Q E hr h => ?_)
  · obtain ⟨H0, d, rfl, _⟩ := h
    rfl
  · obtain ⟨H0, d, rfl, D, k⟩ := h
    refine ⟨_, PSs.nox (pss_cons (ps_set (i := 1) sc_l_keys.nd rfl (Or.inl rfl) (pe_listRg rfl rfl T.b_list (prg_1 rfl T.b_range pe_int)))
  (pss_cons (ps_set (i := 2) sc_l_keys.nd rfl (Or.inl rfl) (pe_ix ix_list (pe_lst (pa_cons pe_int (pa_cons pe_int (pa_cons pe_int pa_nil)))) (pe_call (ok_l_next T) (hr.mono (by decide)) rfl T.g_l_next T.f_l_next.kp (b_l_next T) .nil pass0 (pa_cons (pv 0) (pa_cons pe_int pa_nil))) (fun _ _ => rfl)))
  (pss_cons (ps_set (i := 1) sc_l_keys.nd rfl (Or.inl rfl) (pe_slice sl_list (pv 1) po_none (po_some (pv 2))))
  (pss_cons (ps_set (i := 3) sc_l_keys.nd rfl (Or.inl rfl) (pe_lst pa_nil))
  (pss_cons (ps_for PassesOwn.never rfl (pi_range1 (by rfl) T.b_range (pa_cons (pe_ix ix_list (pe_lst (pa_cons (pe_call (ok_l_next T) (hr.mono (by decide)) rfl T.g_l_next T.f_l_next.kp (b_l_next T) .nil pass0 (pa_cons (pv 0) (pa_cons pe_int pa_nil))) (pa_cons (pe_call (ok_l_next T) (hr.mono (by decide)) rfl T.g_l_next T.f_l_next.kp (b_l_next T) .nil pass0 (pa_cons (pv 0) (pa_cons pe_int pa_nil))) pa_nil))) (pe_callTy call_int1 (by rfl) T.b_int (by decide +kernel) (pa_cons (pe_cmpR op_eq (pe_call (ok_l_next T) (hr.mono (by decide)) rfl T.g_l_next T.f_l_next.kp (b_l_next T) .nil pass0 (pa_cons (pv 0) (pa_cons pe_int pa_nil))) pe_int (nomark _)) pa_nil)) (fun _ _ => rfl)) pa_nil)) (pg_name (i := 4) sc_l_keys.nd rfl (Or.inl rfl))
  (pss_one (ps_if (pt_cmpR (op_neD hr.units) (pv 1) (pe_lst pa_nil) (nomark _)) (pss_one (ps_expr (pe_bm PySem.F.plainAttrs_list PySem.F.slot_list_append PySem.F.type_list_append mt_append (pv 3) (pa_cons (pe_bm PySem.F.plainAttrs_list PySem.F.slot_list_pop PySem.F.type_list_pop mt_popAt (pv 1) (pa_cons (pe_call (ok_l_next T) (hr.mono (by decide)) rfl T.g_l_next T.f_l_next.kp (b_l_next T) .nil pass0 (pa_cons (pv 0) (pa_cons (pe_callB call_len_seq (by rfl) T.b_len PySem.boot_len (pa_cons (pv 1) pa_nil)) pa_nil))) pa_nil)) pa_nil)))) pss_nil)))
  (pss_cons (ps_set (i := 5) sc_l_keys.nd rfl (Or.inl rfl) (pe_call (ok_l_next T) (hr.mono (by decide)) rfl T.g_l_next T.f_l_next.kp (b_l_next T) .nil pass0 (pa_cons (pv 0) (pa_cons pe_int pa_nil))))
  (pss_cons (ps_if (pt_cmpR op_eq (pv 5) pe_int (nomark _)) (pss_one (ps_set (i := 3) sc_l_keys.nd rfl (Or.inl rfl) (pe_callB cr_sortedI (by rfl) T.b_sorted (by decide +kernel) (pa_cons (pv 3) pa_nil)))) pss_nil)
  (pss_cons (ps_if (pt_cmpR op_eq (pv 5) pe_int (nomark _)) (pss_one (ps_set (i := 3) sc_l_keys.nd rfl (Or.inl rfl) (pe_revL (pe_callB cr_sortedI (by rfl) T.b_sorted (by decide +kernel) (pa_cons (pv 3) pa_nil))))) pss_nil)
  (pss_one (ps_ret (pe_tup (pa_cons (pv 3) (pa_cons (pv 2) pa_nil))))))))))))), ?_⟩
    have z0 : 0 ≤ sizeLine := by decide
    refine ⟨_, rfl, RgOk.of_le (by decide) (by decide) (by decide) (by decide), fun q nq => ?_⟩
    rw [rg_list]
    have s1 := same_new (o := .lst (iL ((List.range 100).map fun i => (0 : Int) + (i : Nat)))) nq
    have D1 := D.same s1
    have S1 : Dst H _ d := Dst.same s1
    have hq1 : upd H q (.lst (iL ((List.range 100).map fun i => (0 : Int) + (i : Nat)))) q = some (.lst (iL ((List.range 100).map fun i => (0 : Int) + (i : Nat)))) := upd_same
    have qd := D.ne nq
    clear s1
    generalize upd H q (.lst (iL ((List.range 100).map fun i => (0 : Int) + (i : Nat)))) = H1 at *
    -- far
    refine ⟨(show 3 ≤ sizeLine by decide), fun l nl => ?_⟩
    have s2 := same_new (o := .lst [V.int 12, V.int 30, V.int 100]) nl
    have ld := D1.ne nl
    refine ⟨_, rfl, H0, d, 3, rfl, D1.same s2, by decide, by decide, fun v o v0 v1 D2 => ?_⟩
    obtain ⟨far, hw, hfar⟩ := far_at v0 v1
    have S2 := (S1.trans (Dst.same s2)).trans (Dst.at (o := o))
    have hq2 : upd (upd H1 l (.lst [V.int 12, V.int 30, V.int 100])) d o q = some (.lst (iL ((List.range 100).map fun i => (0 : Int) + (i : Nat)))) := by rw [upd_ne qd]; exact s2 _ _ hq1
    refine ⟨_, _, _, V.int far, rfl, rfl, SqL.of (by rw [upd_ne ld, upd_same]), hw, ?_⟩
    clear s2 D1 S1 hq1
    generalize upd (upd H1 l (.lst [V.int 12, V.int 30, V.int 100])) d o = H2 at *
    have hf0 : 1 ≤ far ∧ far ≤ 100 := by rcases hfar with e | e | e <;> omega
    obtain ⟨nf, rfl⟩ : ∃ nf : Nat, far = nf := ⟨far.toNat, by omega⟩
    -- left = left[:far]
    refine ⟨_, rfl, _, rfl, _, rfl, _, _, rfl, SqL.of hq2, fun q2 nq2 => ?_⟩
    rw [cutTo (by simp [iL]; omega)]
    have eL : (iL ((List.range 100).map fun i => (0 : Int) + (i : Nat))).take nf = iL ((List.range nf).map fun i => (0 : Int) + (i : Nat)) := by
      rw [← List.map_take, ← List.map_take, List.take_range, Nat.min_eq_left (by omega)]
    rw [eL]
    have s3 := same_new (o := .lst (iL ((List.range nf).map fun i => (0 : Int) + (i : Nat)))) nq2
    have qd2 := D2.ne nq2
    have D3 := D2.same s3
    have S3 := S2.trans (Dst.same s3)
    have hq3 : upd H2 q2 (.lst (iL ((List.range nf).map fun i => (0 : Int) + (i : Nat)))) q2 = some (.lst (iL ((List.range nf).map fun i => (0 : Int) + (i : Nat)))) := upd_same
    have nq0 := S2.dm _ nq2
    clear s3 D2 S2 hq2
    generalize upd H2 q2 (.lst (iL ((List.range nf).map fun i => (0 : Int) + (i : Nat)))) = H3 at *
    -- keys = []
    refine ⟨z0, fun kk nkk => ?_⟩
    have s4 := same_new (o := .lst []) nkk
    have kd := D3.ne nkk
    have D4 := D3.same s4
    have S4 := S3.trans (Dst.same s4)
    have hq4 := s4 _ _ hq3
    have hk4 : upd H3 kk (.lst []) kk = some (.lst []) := upd_same
    have nk0 := S3.dm _ nkk
    have qk : q2 ≠ kk := ne_of_none hq3 nkk
    clear s4 D3 S3 hq3
    generalize upd H3 kk (.lst []) = H4 at *
    -- how many
    refine ⟨_, rfl, H0, d, 13, rfl, D4, by decide, by decide, fun x1 o1 x10 x11 D5 => ⟨_, rfl, H0, d, 41, rfl, D5, by decide, by decide, fun x2 o2 x20 x21 D6 => ⟨(show 2 ≤ sizeLine by decide), fun l2 nl2 => ?_⟩⟩⟩
    have S6 := (S4.trans (Dst.at (o := o1))).trans (Dst.at (o := o2))
    have hq6 : upd (upd H4 d o1) d o2 q2 = some (.lst (iL ((List.range nf).map fun i => (0 : Int) + (i : Nat)))) := by rw [upd_ne qd2, upd_ne qd2]; exact hq4
    have hk6 : upd (upd H4 d o1) d o2 kk = some (.lst []) := by rw [upd_ne kd, upd_ne kd]; exact hk4
    clear D4 D5 S4 hq4 hk4
    generalize upd (upd H4 d o1) d o2 = H5 at *
    have s7 := same_new (o := .lst [V.int x1, V.int x2]) nl2
    have l2d := D6.ne nl2
    refine ⟨_, rfl, H0, d, 2, rfl, D6.same s7, by decide, by decide, fun x3 o3 _ _ D7 => ⟨rfl, .inr ⟨_, rfl, ?_⟩⟩⟩
    obtain ⟨cnt, hcnt, hcc⟩ := two_at (x := x1) (y := x2) (b := decide (V.int x3 = V.int 1))
    refine ⟨_, _, _, V.int cnt, rfl, rfl, SqL.of (by rw [upd_ne l2d, upd_same]), hcnt, ?_⟩
    have S7 := (S6.trans (Dst.same s7)).trans (Dst.at (o := o3))
    have hq7 : upd (upd H5 l2 (.lst [V.int x1, V.int x2])) d o3 q2 = some (.lst (iL ((List.range nf).map fun i => (0 : Int) + (i : Nat)))) := by rw [upd_ne qd2]; exact s7 _ _ hq6
    have hk7 : upd (upd H5 l2 (.lst [V.int x1, V.int x2])) d o3 kk = some (.lst []) := by rw [upd_ne kd]; exact s7 _ _ hk6
    clear D6 S6 hq6 hk6 s7
    generalize upd (upd H5 l2 (.lst [V.int x1, V.int x2])) d o3 = H6 at *
    have hc0 : 0 ≤ cnt ∧ cnt ≤ 40 := by rcases hcc with e | e <;> omega
    refine ⟨_, rfl, by omega, by omega, ?_⟩
    refine for_range (fun j σ H2 => ∃ (v : Option V) (ls ks : List Int), σ = [some (.ref d), some (.ref q2), some (.int (nf : Nat)), some (.ref kk), v, none] ∧ Dice K H0 H2 d ∧ Dst H H2 d ∧ H2 q2 = some (.lst (iL ls)) ∧ H2 kk = some (.lst (iL ks)) ∧ (ls ++ ks).Nodup ∧ (∀ x ∈ ls ++ ks, 0 ≤ x ∧ x < (nf : Nat)) ∧ ks.length ≤ j)
      ⟨none, _, [], rfl, D7, S7, hq7, hk7, ?_, ?_, Nat.le_refl _⟩ ?_ ?_
    · rw [List.append_nil]
      refine List.pairwise_map.mpr (List.Pairwise.imp ?_ List.nodup_range)
      intro a b h z
      exact h (by omega)
    · intro x hx
      rw [List.append_nil] at hx
      obtain ⟨i, hi, rfl⟩ := List.mem_map.mp hx
      have := List.mem_range.mp hi
      omega
    · rintro j σ H7 hj ⟨v, ls, ks, rfl, D8, S8, hq8, hk8, nd, rng, lk⟩
      refine ⟨_, rfl, z0, fun e ne => ?_⟩
      have s9 := same_new (o := .lst (iL [])) ne
      refine ⟨_, _, dp_int (SqL.of (s9 _ _ hq8)), dp_int (xs := []) (SqL.of upd_same), shaped_ints _, shaped_ints [], _, rfl, ?_⟩
      rw [eqv_ints]
      have D9 := D8.same s9
      have S9 := S8.trans (Dst.same s9)
      have hq9 := s9 _ _ hq8
      have hk9 := s9 _ _ hk8
      change Dice K H0 (upd H7 e (.lst [])) d at D9
      change Dst H (upd H7 e (.lst [])) d at S9
      change upd H7 e (.lst []) q2 = _ at hq9
      change upd H7 e (.lst []) kk = _ at hk9
      clear s9 D8 S8 hq8 hk8
      generalize upd H7 e (.lst []) = H8 at *
      refine ite2 (fun hc => ?_) (fun _ => ⟨_, ls, ks, rfl, D9, S9, hq9, hk9, nd, rng, by omega⟩)
      have hne : ls ≠ [] := by simpa using hc
      have hl1 : 1 ≤ ls.length := List.length_pos_iff.mpr hne
      have hl2 : ls.length ≤ 100 := by
        have := nodup_len 100 (List.nodup_append.mp nd).1 fun x hx => by have := rng x (List.mem_append_left _ hx); omega
        exact this
      refine ⟨_, rfl, .inl ⟨rfl, _, SqL.of hk9⟩, _, rfl, .inl ⟨rfl, _, SqL.of hq9⟩, _, rfl, _, rfl, _, _, rfl, .inl (SqL.of hq9), H0, d, _, rfl, D9, by rw [len_iL]; omega, by rw [len_iL]; omega, fun w o w0 w1 D10 => ?_⟩
      rw [len_iL] at w1
      have S10 := S9.trans (Dst.at (o := o))
      have hq10 : upd H8 d o q2 = some (.lst (iL ls)) := by rw [upd_ne qd2]; exact hq9
      have hk10 : upd H8 d o kk = some (.lst (iL ks)) := by rw [upd_ne kd]; exact hk9
      clear D9 S9 hq9 hk9
      generalize upd H8 d o = H9 at *
      obtain ⟨y, hy⟩ : ∃ y, ls[w.toNat]? = some y := ⟨_, List.getElem?_eq_getElem (by omega)⟩
      refine ⟨_, _, _, w.toNat, V.int y, rfl, rfl, hq10, by omega, by omega, seq_at w0 (by rw [len_iL]; omega), iL_at hy, ?_⟩
      have lk40 : ks.length < 41 := by omega
      refine ⟨_, _, _, rfl, rfl, by rw [upd_ne qk.symm]; exact hk10, small64 (by rw [len_iL]; omega), ?_⟩
      have pm := pop_app (ks := ks) hy
      refine ⟨_, ls.eraseIdx w.toNat, ks ++ [y], rfl, (D10.put (D.new0 nq0) qd2).put (D.new0 nk0) kd, (S10.own nq0).own nk0, ?_, ?_, pm.symm.nodup nd, fun x hx => rng x (pm.mem_iff.mp hx), by simp; omega⟩
      · rw [upd_ne qk, upd_same]
        rw [erase_iL]
      · rw [upd_same]; simp [iL]
    · rintro σ H7 ⟨v, ls, ks, rfl, D8, S8, hq8, hk8, nd, rng, lk⟩
      have kok : KeysOk ks := ⟨by omega, fun x hx => by have := rng x (List.mem_append_right _ hx); omega, (List.nodup_append.mp nd).2.1⟩
      have kfar : ∀ x ∈ ks, x < (nf : Nat) := fun x hx => (rng x (List.mem_append_right _ hx)).2
      clear nd rng hq8 lk
      refine ⟨_, rfl, H0, d, 4, rfl, D8, by decide, by decide, fun way o _ _ D9 => ?_⟩
      have S9 := S8.trans (Dst.at (o := o))
      have hk9 : upd H7 d o kk = some (.lst (iL ks)) := by rw [upd_ne kd]; exact hk8
      clear D8 S8 hk8
      generalize upd H7 d o = H8 at *
      have fin : ∀ (kk2 : Addr) (ks2 : List Int) (H10 : Hp) (D10 : Dice K H0 H10 d) (S10 : Dst H H10 d) (h2 : H10 kk2 = some (.lst (iL ks2))) (n2 : H kk2 = none) (pm : ks2.Perm ks) (p : Addr) (np : H10 p = none), Q (.ref p) (upd H10 p (.tup [.ref kk2, .int (nf : Nat)])) := fun kk2 ks2 H10 D10 S10 h2 n2 pm p np =>
        k _ p kk2 ks2 (nf : Nat) (D10.same (same_new np)) (S10.trans (Dst.same (same_new np))) (S10.dm _ np) n2 (ne_of_none h2 np).symm upd_same ((same_new np) _ _ h2) ⟨by rw [pm.length_eq]; exact kok.len, fun x hx => kok.rng x (pm.mem_iff.mp hx), pm.symm.nodup kok.nd⟩ (fun x hx => kfar x (pm.mem_iff.mp hx)) hfar
      refine ⟨_, rfl, rfl, _, rfl, ?_⟩
      refine ite2 (fun hc => ?_) (fun hc => ?_)
      · have e1 : way = 1 := by rw [dec_int] at hc; exact of_decide_eq_true hc
        subst e1
        refine ⟨_, rfl, _, ks, rfl, SqL.of hk9, fun ns' p hp hs np => ?_⟩
        refine ⟨_, rfl, rfl, _, rfl, iteF ?_⟩
        have s10 := same_new (o := .lst (iL ns')) np
        exact ⟨_, rfl, _, rfl, (show 2 ≤ sizeLine by decide), fun t nt => fin p ns' _ (D9.same s10) (S9.trans (Dst.same s10)) upd_same (S9.dm _ np) hp t nt⟩
      · refine ⟨_, rfl, rfl, _, rfl, ?_⟩
        refine ite2 (fun hc2 => ?_) (fun hc2 => ?_)
        · refine ⟨_, rfl, _, ks, rfl, SqL.of hk9, fun ns' p hp hs np => ?_⟩
          have s10 := same_new (o := .lst (iL ns')) np
          refine ⟨_, _, rfl, SqL.of upd_same, fun p2 np2 => ?_⟩
          have s11 := same_new (o := .lst (iL ns').reverse) np2
          refine ⟨_, rfl, _, rfl, (show 2 ≤ sizeLine by decide), fun t nt => fin p2 ns'.reverse _ ((D9.same s10).same s11) ((S9.trans (Dst.same s10)).trans (Dst.same s11)) ?_ ((S9.trans (Dst.same s10)).dm _ np2) ((List.reverse_perm _).trans hp) t nt⟩
          rw [upd_same, show (iL ns').reverse = iL ns'.reverse from List.map_reverse.symm]
        · exact ⟨_, rfl, _, rfl, (show 2 ≤ sizeLine by decide), fun t nt => fin kk ks _ D9 S9 hk9 nk0 (List.Perm.refl _) t nt⟩

theorem Dice.ref0 {K : PySem.W.Frag} {H0 H : Hp} {d : Addr} (D : Dice K H0 H d) : ∃ xs, H d = some (.lst xs) ∧ xs ≠ [] := by
  obtain ⟨⟨a, ns, i, m, c, hd, r⟩, nd, gr⟩ := D
  exact ⟨_, hd, by simp⟩
theorem dice_old {K : PySem.W.Frag} {H0 H : Hp} {d : Addr} {P : Prop} (D : Dice K H0 H d) (h : H d = none) : P := by
  obtain ⟨xs, hd, _⟩ := D.ref0
  rw [h] at hd; cases hd
theorem paired_mem {α β : Type} {P : α → β → Prop} : ∀ {xs : List α} {ys : List β} {x : α}, Paired P xs ys → x ∈ xs → ∃ y, P x y
  | _, _, _, .nil, h => by simp at h
  | _, _, x, .cons (a := a) (b := b) h t, hx => by
    rcases List.mem_cons.mp hx with e | e
    · exact ⟨_, e ▸ h⟩
    · exact paired_mem t e
/-- programs that a law has made: new behind H -/
structure ProgsNew (K : PySem.W.Frag) (H H' : Hp) (p : Addr) (as : List Addr) (ps : List (List Deed)) : Prop where
  top : H' p = some (.lst (as.map V.ref))
  new : H p = none
  rows : Paired (fun a pr => H a = none ∧ a ≠ p ∧ ∃ ds : List Addr, H' a = some (.lst (ds.map V.ref)) ∧ Paired (fun x d => H' x = some (.tup (deedV d))) ds pr) as ps
theorem ProgsNew.at_ {K : PySem.W.Frag} {H H' : Hp} {p : Addr} {as : List Addr} {ps : List (List Deed)} (h : ProgsNew K H H' p as ps) : ProgsAt K H' p ps :=
  ⟨as, SqL.of h.top, paired_imp h.rows fun a pr ⟨_, _, ds, h1, h2⟩ => ⟨ds, SqL.of h1, paired_imp h2 fun x d z => SqT.of z⟩⟩
/-- kept by a step that leaves what is new behind H -/
theorem ProgsNew.keep {K : PySem.W.Frag} {H H1 H2 : Hp} {p : Addr} {as : List Addr} {ps : List (List Deed)} (h : ProgsNew K H H1 p as ps) (k : ∀ b o, H1 b = some o → (b = p ∨ b ∈ as ∨ ∃ xs, o = .tup xs) → H2 b = some o) : ProgsNew K H H2 p as ps := by
  refine ⟨k _ _ h.top (.inl rfl), h.new, ?_⟩
  have gen : ∀ {bs : List Addr} {qs : List (List Deed)}, (∀ b ∈ bs, b ∈ as) → Paired (fun a pr => H a = none ∧ a ≠ p ∧ ∃ ds : List Addr, H1 a = some (.lst (ds.map V.ref)) ∧ Paired (fun x d => H1 x = some (.tup (deedV d))) ds pr) bs qs → Paired (fun a pr => H a = none ∧ a ≠ p ∧ ∃ ds : List Addr, H2 a = some (.lst (ds.map V.ref)) ∧ Paired (fun x d => H2 x = some (.tup (deedV d))) ds pr) bs qs := by
    intro bs qs hb q
    induction q with
    | nil => exact .nil
    | cons h t ih =>
      obtain ⟨h1, h2, ds, h3, h4⟩ := h
      exact .cons ⟨h1, h2, ds, k _ _ h3 (.inr (.inl (hb _ (by simp)))), paired_imp h4 fun x d z => k _ _ z (.inr (.inr ⟨_, rfl⟩))⟩ (ih fun b hb' => hb b (by simp [hb']))
  exact gen (fun b hb => hb) h.rows
def sp_l_programs (K : PySem.W.Frag) : Sp := fun vs H Q _ => ∃ (H0 : Hp) (d : Addr) (far hands deeds : Int), vs = [.ref d, .int far, .int hands, .int deeds] ∧ Dice K H0 H d ∧ 1 ≤ far ∧ far ≤ 100 ∧ 1 ≤ hands ∧ hands ≤ 4 ∧ 0 ≤ deeds ∧ deeds ≤ 8 ∧
  ∀ (H' : Hp) (p : Addr) (as : List Addr) (ps : List (List Deed)), Dice K H0 H' d → Dst H H' d → ProgsNew K H H' p as ps → ProgsOk ps → (ps.length : Int) ≤ hands → Q (.ref p) H'
abbrev N_l_programs : List Str := ["_law_d", "_law_far", "_law_hands", "_law_deeds", "_law_programs_here", "_law_most", "_law_hand", "_law_k"]
theorem sc_l_programs : FnScope N_l_programs ["_law_d", "_law_far", "_law_hands", "_law_deeds"] (defScope s_l_programs) := ⟨rfl, rfl, rfl, by decide +kernel, rfl, by decide +kernel, by decide +kernel⟩
theorem b_l_programs {w : World} {K : PySem.W.Frag} {mg : Str → Option Value} {base : Heap} (T : Txt w K mg base) : Binds K (fdOf K d_l_programs.at_) ["_law_d", "_law_far", "_law_hands", "_law_deeds"] [] := T.f_l_programs.bindsN fun _ _ _ _ _ _ us hl => match us, hl with | [_, _, _, _], _ => rfl
theorem ok_l_programs {P : Program} {w : World} {K : PySem.W.Frag} {mg : Str → Option Value} {base : Heap} (T : Txt w K mg base) : FnOk P w K mg base CX0 3 (He.fAd K d_l_programs.at_) (fdOf K d_l_programs.at_) ["_law_d", "_law_far", "_law_hands", "_law_deeds"] (sp_l_programs K) := by
  refine T.f_l_programs.ok sc_l_programs (fun vs H Q E h => ?_) (fun cdv A outer s H vs Q E hr h => ?_)
  · obtain ⟨H0, d, far, hands, deeds, rfl, _⟩ := h
    rfl
  · obtain ⟨H0, d, far, hands, deeds, rfl, D, f1, f2, h1, h2, d1, d2, k⟩ := h
    refine ⟨_, PSs.nox (pss_cons (ps_set (i := 4) sc_l_programs.nd rfl (Or.inl rfl) (pe_lst pa_nil))
  (C8.pss_cut (ps_set (i := 5) sc_l_programs.nd rfl (Or.inl rfl) (pe_ix ix_list (pe_lst (pa_cons (pv 3) (pa_cons pe_int pa_nil))) (pe_callTy call_int1 (by rfl) T.b_int (by decide +kernel) (pa_cons (pe_and (pe_cmpR op_gt (pv 3) pe_int (nomark _)) (pe_one (pe_cmpR op_eq (pe_call (ok_l_next T) (hr.mono (by decide)) rfl T.g_l_next T.f_l_next.kp (b_l_next T) .nil pass0 (pa_cons (pv 0) (pa_cons pe_int pa_nil))) pe_int (nomark _)))) pa_nil)) (fun _ _ => rfl)))
  (pss_cons (ps_for PassesOwn.never rfl (pi_range1 (by rfl) T.b_range (pa_cons (pe_op op_add pe_int (pe_call (ok_l_next T) (hr.mono (by decide)) rfl T.g_l_next T.f_l_next.kp (b_l_next T) .nil pass0 (pa_cons (pv 0) (pa_cons (pv 2) pa_nil)))) pa_nil)) (pg_name (i := 6) sc_l_programs.nd rfl (Or.inl rfl))
  (pss_one (ps_expr (pe_bm PySem.F.plainAttrs_list PySem.F.slot_list_append PySem.F.type_list_append mt_append (pv 4) (pa_cons (pe_lc (own := [("_law_k", 7)]) (g := gName 7) rfl sc_l_programs.nd (pi_range1 (by rfl) T.b_range (pa_cons (pe_call (ok_l_next T) (hr.mono (by decide)) rfl T.g_l_next T.f_l_next.kp (b_l_next T) .nil pass0 (pa_cons (pv 0) (pa_cons (pe_op op_add (pv 5) pe_int) pa_nil))) pa_nil)) (blkOk_by (own := [("_law_k", 7)]) (N := N_l_programs) (sc := defScope s_l_programs) (by decide +kernel)) (fun _ _ _ _ _ => pg_name (i := 7) sc_l_programs.nd rfl (Or.inl rfl)) (fun _ _ _ _ _ => pts_nil) (fun _ _ _ _ _ => (pe_call (ok_l_deed T) (hr.mono (by decide)) rfl T.g_l_deed T.f_l_deed.kp (b_l_deed T) .nil pass0 (pa_cons (pv 0) (pa_cons (pv 1) pa_nil))))) pa_nil)))))
  (pss_one (ps_ret (pv 4)))))), ?_⟩
    have z0 : 0 ≤ sizeLine := by decide
    refine ⟨z0, fun P nP => ?_⟩
    have s1 := same_new (o := .lst []) nP
    have D1 := D.same s1
    have S1 : Dst H _ d := Dst.same s1
    have hP1 : upd H P (.lst []) P = some (.lst []) := upd_same
    have Pd := D.ne nP
    clear s1
    generalize upd H P (.lst []) = H1 at *
    refine ⟨fun σ' H' => ∃ most : Int, σ' = [some (.ref d), some (.int far), some (.int hands), some (.int deeds), some (.ref P), some (.int most), none, none] ∧ Dice K H0 H' d ∧ Dst H H' d ∧ H' P = some (.lst []) ∧ 0 ≤ most ∧ most ≤ 8, ?_, ?_⟩
    · refine ⟨_, rfl, (show 2 ≤ sizeLine by decide), fun l nl => ?_⟩
      have s2 := same_new (o := .lst [V.int deeds, V.int 8]) nl
      have D2 := D1.same s2
      have S2 := S1.trans (Dst.same s2)
      have hP2 := s2 _ _ hP1
      have ld := D1.ne nl
      have hl2 : upd H1 l (.lst [V.int deeds, V.int 8]) l = some (.lst [V.int deeds, V.int 8]) := upd_same
      clear s2 D1 S1 hP1 nl
      generalize upd H1 l (.lst [V.int deeds, V.int 8]) = H2 at *
      refine ⟨_, rfl, _, _, rfl, rfl, _, rfl, ?_⟩
      refine ite2 (fun hc => ?_) (fun hc => ?_)
      · refine ⟨_, rfl, H0, d, 4, rfl, D2, by decide, by decide, fun v o _ _ D3 => ⟨rfl, .inr ⟨_, rfl, ?_⟩⟩⟩
        obtain ⟨z, hz, hzz⟩ := two_at (x := deeds) (y := 8) (b := decide (V.int v = V.int 3))
        refine ⟨_, _, _, V.int z, rfl, rfl, SqL.of (by rw [upd_ne ld]; exact hl2), hz, z, rfl, D3, S2.trans Dst.at, (by rw [upd_ne Pd]; exact hP2), (by rcases hzz with e | e <;> omega), (by rcases hzz with e | e <;> omega)⟩
      · refine .inr ⟨_, rfl, ?_⟩
        exact ⟨_, _, _, V.int deeds, rfl, rfl, SqL.of hl2, rfl, deeds, rfl, D2, S2, hP2, d1, d2⟩
    rintro σ' H3 ⟨most, rfl, D3, S3, hP3, m0, m8⟩
    have nP0 := nP
    refine ⟨_, rfl, _, rfl, H0, d, hands, rfl, D3, h1, by omega, fun v o v0 v1 D4 => ?_⟩
    refine ⟨_, _, rfl, rfl, _, rfl, by omega, by omega, ?_⟩
    have S4 := S3.trans (Dst.at (o := o))
    have hP4 : upd H3 d o P = some (.lst []) := by rw [upd_ne Pd]; exact hP3
    clear D3 S3 hP3
    generalize upd H3 d o = H4 at *
    refine for_range (fun j σ H5 => ∃ (v w : Option V) (as : List Addr) (ps : List (List Deed)), σ = [some (.ref d), some (.int far), some (.int hands), some (.int deeds), some (.ref P), some (.int most), v, w] ∧ Dice K H0 H5 d ∧ Dst H H5 d ∧ ProgsNew K H H5 P as ps ∧ ps.length = j ∧ (∀ p ∈ ps, p.length ≤ 8) ∧ ∀ p ∈ ps, ∀ de ∈ p, DeedOk de)
      ⟨_, _, [], [], rfl, D4, S4, ⟨hP4, nP0, .nil⟩, rfl, by simp, by simp⟩ ?_ ?_
    · rintro j σ H5 hj ⟨v', w', as, ps, rfl, D5, S5, PN, hlen, ok1, ok2⟩
      have hlas := paired_len PN.rows
      refine ⟨_, rfl, .inl ⟨rfl, _, SqL.of PN.top⟩, _, rfl, _, rfl, _, _, rfl, rfl, H0, d, _, rfl, D5, by omega, by omega, fun n o2 n0 n1 D6 => ?_⟩
      have S6 := S5.trans (Dst.at (o := o2))
      have PN6 : ProgsNew K H (upd H5 d o2) P as ps := PN.keep fun b o e hb => by
        rw [upd_ne (fun z => ?_)]
        · exact e
        · rw [z] at hb e
          obtain ⟨xs, hxs, hx0⟩ := D5.ref0
          rcases hb with hb | hb | ⟨ys, hb⟩
          · exact Pd hb.symm
          · obtain ⟨pr, ⟨q1, _⟩⟩ := paired_mem PN.rows hb
            have := S5.dm d
            exact dice_old D q1
          · rw [hxs] at e; rw [hb] at e; cases e
      clear D5 S5 PN
      generalize upd H5 d o2 = H6 at *
      refine ⟨_, rfl, by omega, by omega, fun R nR => ?_⟩
      have PR : P ≠ R := ne_of_none PN6.top nR
      have R0 := S6.dm _ nR
      refine lc_range (fun i H7 => ∃ (ds : List Addr) (pr : List Deed), Dice K H0 H7 d ∧ Dst H6 H7 d ∧ H7 R = some (.lst (ds.map V.ref)) ∧ Paired (fun x de => H7 x = some (.tup (deedV de))) ds pr ∧ pr.length = i ∧ ∀ de ∈ pr, DeedOk de) ⟨[], [], D6.same (same_new nR), Dst.same (same_new nR), upd_same, .nil, rfl, by simp⟩ ?_ ?_
      · rintro i H7 hi ⟨ds, pr, D7, S7, hR, hp, hl, hok⟩
        refine ⟨rfl, _, rfl, _, rfl, H0, d, far, rfl, D7, f1, f2, fun H8 x de D8 S8 nx hx okd => ?_⟩
        have Rd : R ≠ d := fun z => by
          obtain ⟨xs, hxs, _⟩ := D6.ref0
          rw [← z, nR] at hxs; cases hxs
        have hR8 := S8.fr _ _ hR Rd
        have keep : ∀ b xs, H7 b = some (.tup xs) → upd H8 R (.lst (ds.map V.ref ++ [V.ref x])) b = some (.tup xs) := fun b xs e => by
          have bd : b ≠ d := fun z => by
            obtain ⟨ys, hys, _⟩ := D7.ref0
            rw [z, hys] at e; cases e
          rw [upd_ne (fun z => by rw [z, hR] at e; cases e)]
          exact S8.fr _ _ e bd
        have xR : x ≠ R := fun z => by rw [z, hR] at nx; cases nx
        refine ⟨_, hR8, by rw [List.length_map, paired_len hp]; exact small64 (by omega), ds ++ [x], pr ++ [de], D8.put (D.new0 R0) Rd, ?_, by rw [upd_same]; simp, paired_snoc (paired_imp hp fun a b z => keep _ _ z) (by rw [upd_ne xR]; exact hx), by simp [hl], fun e he => ?_⟩
        · exact (S7.trans S8).own nR
        · rcases List.mem_append.mp he with w | w
          · exact hok e w
          · rw [List.mem_singleton.mp w]; exact okd
      · rintro H7 ⟨ds, pr, D7, S7, hR, hp, hl, hok⟩
        have kp : ∀ b o, H6 b = some o → b ≠ d → H7 b = some o := S7.fr
        have PN7 : ProgsNew K H H7 P as ps := PN6.keep fun b o e hb => S7.fr b o e fun z => by
          rw [z] at hb e
          obtain ⟨xs, hxs, hx0⟩ := D6.ref0
          rcases hb with hb | hb | ⟨ys, hb⟩
          · exact Pd hb.symm
          · obtain ⟨pr, ⟨q1, _⟩⟩ := paired_mem PN6.rows hb
            exact dice_old D q1
          · rw [hxs] at e; rw [hb] at e; cases e
        refine ⟨_, _, _, rfl, rfl, PN7.top, by rw [List.length_map, hlas]; exact small64 (by omega), ?_⟩
        have RP : R ≠ P := PR.symm
        have noas : ∀ b ∈ as, b ≠ P := fun b hb => by
          obtain ⟨pr, _, q2, _⟩ := paired_mem PN6.rows hb
          exact q2
        have keep : ∀ b o, H7 b = some o → b ≠ P → upd H7 P (.lst (as.map V.ref ++ [V.ref R])) b = some o := fun b o e hb => by rw [upd_ne hb]; exact e
        have hPl : ∀ xs, H7 P ≠ some (.tup xs) := fun xs z => by rw [PN7.top] at z; cases z
        refine ⟨_, _, as ++ [R], ps ++ [pr], rfl, D7.put (D.new0 nP0) Pd, (S6.trans S7).own nP0, ⟨by rw [upd_same]; simp, nP0, paired_snoc (paired_imp PN7.rows fun a q ⟨q1, q2, ds', q3, q4⟩ => ⟨q1, q2, ds', keep _ _ q3 q2, paired_imp q4 fun x de z => keep _ _ z fun w => hPl _ (by rw [← w]; exact z)⟩) ⟨R0, RP, ds, keep _ _ hR RP, paired_imp hp fun x de z => keep _ _ z fun w => hPl _ (by rw [← w]; exact z)⟩⟩, by simp [hlen], fun p hp' => ?_, fun p hp' => ?_⟩
        · rcases List.mem_append.mp hp' with w | w
          · exact ok1 p w
          · rw [List.mem_singleton.mp w, hl]; omega
        · rcases List.mem_append.mp hp' with w | w
          · exact ok2 p w
          · rw [List.mem_singleton.mp w]; exact hok
    · rintro σ H5 ⟨v', w', as, ps, rfl, D5, S5, PN, hlen, ok1, ok2⟩
      refine ⟨_, rfl, k _ P as ps D5 S5 PN ⟨by omega, by omega, ok1, ok2⟩ (by omega)⟩

theorem Dst.sqL {K : PySem.W.Frag} {H H' : Hp} {d a : Addr} {xs : List V} (s : Dst H H' d) (ne : a ≠ d) (h : SqL K H a xs) : SqL K H' a xs := by
  rcases h with (h | ⟨o, h⟩) | h
  · exact .inl (.inl (s.fr _ _ h ne))
  · exact .inl (.inr ⟨o, s.fr _ _ h ne⟩)
  · exact .inr h
theorem rep_iL {n : Nat} {v : Int} : (List.replicate n [V.int v]).flatten = iL (List.replicate n v) := by
  induction n with
  | zero => rfl
  | succ n ih =>
    rw [List.replicate_succ, List.replicate_succ, List.flatten_cons, ih]
    rfl
def sp_l_weaving (K : PySem.W.Frag) : Sp := fun vs H Q _ => ∃ (H0 : Hp) (d P : Addr) (xs : List V) (most : Int), vs = [.ref d, .ref P, .int most] ∧ Dice K H0 H d ∧ SqL K H P xs ∧ P ≠ d ∧ 1 ≤ xs.length ∧ xs.length ≤ 1000 ∧ 1 ≤ most ∧ most ≤ 100 ∧
  ∀ (H' : Hp) (p : Addr) (ws : List Int), Dice K H0 H' d → Dst H H' d → H p = none → H' p = some (.lst (iL ws)) → (∀ w ∈ ws, 0 ≤ w ∧ w < (xs.length : Nat)) → ws.length ≤ 400 → Q (.ref p) H'
abbrev N_l_weaving : List Str := ["_law_d", "_law_programs_here", "_law_most", "_law_many", "_law_weaving_here", "_law_k"]
theorem sc_l_weaving : FnScope N_l_weaving ["_law_d", "_law_programs_here", "_law_most"] (defScope s_l_weaving) := ⟨rfl, rfl, rfl, by decide +kernel, rfl, by decide +kernel, by decide +kernel⟩
theorem b_l_weaving {w : World} {K : PySem.W.Frag} {mg : Str → Option Value} {base : Heap} (T : Txt w K mg base) : Binds K (fdOf K d_l_weaving.at_) ["_law_d", "_law_programs_here", "_law_most"] [] := T.f_l_weaving.bindsN fun _ _ _ _ _ _ us hl => match us, hl with | [_, _, _], _ => rfl
theorem ok_l_weaving {P : Program} {w : World} {K : PySem.W.Frag} {mg : Str → Option Value} {base : Heap} (T : Txt w K mg base) : FnOk P w K mg base CX0 2 (He.fAd K d_l_weaving.at_) (fdOf K d_l_weaving.at_) ["_law_d", "_law_programs_here", "_law_most"] (sp_l_weaving K) := by
  refine T.f_l_weaving.ok sc_l_weaving (fun vs H Q E h => ?_) (fun cdv A outer s H vs Q E hr h => ?_)
  · obtain ⟨H0, d, P, xs, most, rfl, _⟩ := h
    rfl
  · obtain ⟨H0, d, P, xs, most, rfl, D, hP, Pd, l1, l2, m1, m2, k⟩ := h
    refine ⟨_, PSs.nox (pss_cons (ps_set (i := 3) sc_l_weaving.nd rfl (Or.inl rfl) (pe_callB call_len_seq (by rfl) T.b_len PySem.boot_len (pa_cons (pv 1) pa_nil)))
  (pss_cons (ps_set (i := 4) sc_l_weaving.nd rfl (Or.inl rfl) (pe_lst pa_nil))
  (pss_cons (ps_for PassesOwn.never rfl (pi_range1 (by rfl) T.b_range (pa_cons (pe_call (ok_l_next T) (hr.mono (by decide)) rfl T.g_l_next T.f_l_next.kp (b_l_next T) .nil pass0 (pa_cons (pv 0) (pa_cons (pv 2) pa_nil))) pa_nil)) (pg_name (i := 5) sc_l_weaving.nd rfl (Or.inl rfl))
  (pss_one (ps_set (i := 4) sc_l_weaving.nd rfl (Or.inl rfl) (pe_op op_cat (pv 4) (pe_op op_rep (pe_lst (pa_cons (pe_call (ok_l_next T) (hr.mono (by decide)) rfl T.g_l_next T.f_l_next.kp (b_l_next T) .nil pass0 (pa_cons (pv 0) (pa_cons (pv 3) pa_nil))) pa_nil)) (pe_op op_add pe_int (pe_call (ok_l_next T) (hr.mono (by decide)) rfl T.g_l_next T.f_l_next.kp (b_l_next T) .nil pass0 (pa_cons (pv 0) (pa_cons pe_int pa_nil)))))))))
  (pss_one (ps_ret (pv 4)))))), ?_⟩
    have z0 : 0 ≤ sizeLine := by decide
    refine ⟨_, rfl, _, _, rfl, .inl hP, ?_⟩
    refine ⟨z0, fun R nR => ?_⟩
    have s1 := same_new (o := .lst []) nR
    have D1 := D.same s1
    have S1 : Dst H _ d := Dst.same s1
    have hR1 : upd H R (.lst []) R = some (.lst (iL [])) := upd_same
    clear s1
    generalize upd H R (.lst []) = H1 at *
    refine ⟨_, rfl, _, rfl, H0, d, most, rfl, D1, m1, by omega, fun v o v0 v1 D2 => ?_⟩
    refine ⟨_, rfl, by omega, by omega, ?_⟩
    have S2 := S1.trans (Dst.at (o := o))
    have hR2 : upd H1 d o R = some (.lst (iL [])) := by rw [upd_ne (D.ne nR)]; exact hR1
    clear D1 S1 hR1
    generalize upd H1 d o = H2 at *
    refine for_range (fun j σ H3 => ∃ (v : Option V) (R : Addr) (ws : List Int), σ = [some (.ref d), some (.ref P), some (.int most), some (.int xs.length), some (.ref R), v] ∧ Dice K H0 H3 d ∧ Dst H H3 d ∧ H R = none ∧ H3 R = some (.lst (iL ws)) ∧ (∀ w ∈ ws, 0 ≤ w ∧ w < (xs.length : Nat)) ∧ ws.length ≤ 4 * j)
      ⟨_, R, [], rfl, D2, S2, nR, hR2, by simp, by simp⟩ ?_ ?_
    · rintro j σ H3 hj ⟨v', R', ws, rfl, D3, S3, nR', hR3, ok, hl⟩
      have R'd := D.ne nR'
      refine ⟨_, rfl, _, rfl, _, rfl, H0, d, _, rfl, D3, by omega, by omega, fun x o2 x0 x1 D4 => ⟨(show 1 ≤ sizeLine by decide), fun l nl => ?_⟩⟩
      have S4 := S3.trans (Dst.at (o := o2))
      have hR4 : upd H3 d o2 R' = some (.lst (iL ws)) := by rw [upd_ne R'd]; exact hR3
      clear D3 S3 hR3
      generalize upd H3 d o2 = H4 at *
      have s5 := same_new (o := .lst [V.int x]) nl
      have ld := D4.ne nl
      have hl5 : upd H4 l (.lst [V.int x]) l = some (.lst [V.int x]) := upd_same
      have D5 := D4.same s5
      have S5 := S4.trans (Dst.same s5)
      have hR5 := s5 _ _ hR4
      clear D4 S4 hR4 s5 nl
      generalize upd H4 l (.lst [V.int x]) = H5 at *
      refine ⟨_, rfl, H0, d, 4, rfl, D5, by decide, by decide, fun y o3 y0 y1 D6 => ⟨_, _, rfl, rfl, ?_⟩⟩
      have S6 := S5.trans (Dst.at (o := o3))
      have hR6 : upd H5 d o3 R' = some (.lst (iL ws)) := by rw [upd_ne R'd]; exact hR5
      have hl6 : upd H5 d o3 l = some (.lst [V.int x]) := by rw [upd_ne ld]; exact hl5
      clear D5 S5 hR5 hl5
      generalize upd H5 d o3 = H6 at *
      refine ⟨_, _, _, rfl, rfl, hl6, by omega, by omega, ?_, fun q nq => ?_⟩
      · show 1 * (1 + y).toNat ≤ sizeLine
        exact Nat.le_trans (m := 10) (by omega) (by decide)
      rw [rep_iL]
      have s7 := same_new (o := .lst (iL (List.replicate (1 + y).toNat x))) nq
      refine ⟨_, _, _, _, rfl, rfl, s7 _ _ hR6, upd_same, ?_, fun r nr => ?_⟩
      · rw [len_iL, len_iL, List.length_replicate]
        exact Nat.le_trans (m := 1000) (by omega) (by decide)
      have s8 := same_new (o := .lst (iL ws ++ iL (List.replicate (1 + y).toNat x))) nr
      refine ⟨_, r, ws ++ List.replicate (1 + y).toNat x, rfl, (D6.same s7).same s8, (S6.trans (Dst.same s7)).trans (Dst.same s8), (S6.trans (Dst.same s7)).dm _ nr, by rw [upd_same]; simp [iL], fun z hz => ?_, ?_⟩
      · rcases List.mem_append.mp hz with e | e
        · exact ok z e
        · rw [List.eq_of_mem_replicate e]; exact ⟨x0, x1⟩
      · rw [List.length_append, List.length_replicate]
        omega
    · rintro σ H3 ⟨v', R', ws, rfl, D3, S3, nR', hR3, ok, hl⟩
      refine ⟨_, rfl, k _ R' ws D3 S3 nR' hR3 ok (by omega)⟩

/-! ### answers -/
/-- an answer as it is told: a list is a new one -/
def AnsAt (H0 H : Hp) (v : V) : Ans → Prop
  | .b x => v = .bl x
  | .l xs => ∃ q, v = .ref q ∧ H0 q = none ∧ H q = some (.lst (iL xs))
theorem AnsAt.same {H0 H H' : Hp} {v : V} {a : Ans} (h : AnsAt H0 H v a) (s : Same H H') : AnsAt H0 H' v a := by
  cases a with
  | b x => exact h
  | l xs =>
    obtain ⟨q, h1, h2, h3⟩ := h
    exact ⟨q, h1, h2, s _ _ h3⟩
theorem saidL_at {A : MT → Addr} {i j : Nat} {l : List Ans} {a : Ans} (h : l[j]? = some a) : (saidL A i l)[j]? = some (ansV A i j a) := by
  unfold saidL
  rw [List.getElem?_mapIdx, h]
  rfl
def sp_Machine_answers (K : PySem.W.Frag) : Sp := fun vs H Q _ => ∃ (A : Lay) (M : Mc) (h : Nat), vs = [.ref (A.m .mO), .int h] ∧ Rep K H A M ∧ h < M.n ∧ (M.ha h).said.length ≤ 100000 ∧
  ∀ (p : Addr) (H' : Hp) (xs : List V), H p = none → Same H H' → H' p = some (.lst xs) → Paired (AnsAt H H') xs (M.ha h).said → Q (.ref p) H'
/-! ### what is told, as data -/
def optD : Option Int → PyData
  | none => .none
  | some i => .int i
abbrev iD (xs : List Int) : List PyData := xs.map PyData.int
def ansD : Ans → PyData
  | .b x => .bool x
  | .l xs => .list (iD xs)
def toldD : Told → PyData
  | .rests => .tuple [.str "rests"]
  | .waits p => .tuple [.str "waits", .int p]
  | .locks p => .tuple [.str "locks", .int p]
  | .begins => .tuple [.str "begins"]
  | .goes p => .tuple [.str "goes", .int p]
  | .ends a => .tuple [.str "ends", ansD a]
  | .splits p q => .tuple [.str "splits", .int p, .int q]
  | .moves p q => .tuple [.str "moves", .int p, .int q]
  | .joins p q => .tuple [.str "joins", .int p, .int q]
def rowD (r : Int × Pg) : PyData := .tuple [.int r.1, .tuple (iD r.2.row), .tuple (iD r.2.kids), optD r.2.nxt]
def endD (e : Nat × Nat) : PyData := .tuple [.int e.1, .int e.2]
theorem Flat.opt {o : Option Int} : Flat 0 (optD o) := by cases o; exact Flat.none; exact Flat.int
theorem Flat.str {s : Str} (h : (PyData.str s).canLay0 = true := by decide +kernel) : Flat 0 (.str s) := ⟨h, Nat.le_refl _⟩
theorem flat_ans (a : Ans) : Flat 1 (ansD a) := by
  cases a with
  | b x => exact Flat.bool.mono (by omega)
  | l xs => exact flat_ints xs
theorem Flat.tup1 {n : Nat} {a : PyData} (h : Flat n a) : Flat (n + 1) (.tuple [a]) := Flat.tuple fun d hd => by rw [List.mem_singleton.mp hd]; exact h
theorem Flat.tup2 {n : Nat} {a b : PyData} (h : Flat n a) (h2 : Flat n b) : Flat (n + 1) (.tuple [a, b]) := Flat.tuple fun d hd => by
  rcases List.mem_cons.mp hd with e | e
  · rw [e]; exact h
  · rw [List.mem_singleton.mp e]; exact h2
theorem Flat.tup3 {n : Nat} {a b c : PyData} (h : Flat n a) (h2 : Flat n b) (h3 : Flat n c) : Flat (n + 1) (.tuple [a, b, c]) := Flat.tuple fun d hd => by
  rcases List.mem_cons.mp hd with e | e
  · rw [e]; exact h
  · rcases List.mem_cons.mp e with e | e
    · rw [e]; exact h2
    · rw [List.mem_singleton.mp e]; exact h3
theorem flat_told (t : Told) : Flat 2 (toldD t) := by
  cases t with
  | rests => exact (Flat.tup1 Flat.str).mono (by omega)
  | begins => exact (Flat.tup1 Flat.str).mono (by omega)
  | waits p => exact (Flat.tup2 Flat.str Flat.int).mono (by omega)
  | locks p => exact (Flat.tup2 Flat.str Flat.int).mono (by omega)
  | goes p => exact (Flat.tup2 Flat.str Flat.int).mono (by omega)
  | ends a => exact Flat.tup2 (Flat.mono Flat.str (by omega)) (flat_ans a)
  | splits p q => exact (Flat.tup3 Flat.str Flat.int Flat.int).mono (by omega)
  | moves p q => exact (Flat.tup3 Flat.str Flat.int Flat.int).mono (by omega)
  | joins p q => exact (Flat.tup3 Flat.str Flat.int Flat.int).mono (by omega)
theorem flat_row (r : Int × Pg) : Flat 2 (rowD r) := Flat.tuple fun d hd => by
  rcases List.mem_cons.mp hd with e | e
  · rw [e]; exact Flat.int.mono (by omega)
  · rcases List.mem_cons.mp e with e | e
    · rw [e]; exact flat_intsT _
    · rcases List.mem_cons.mp e with e | e
      · rw [e]; exact flat_intsT _
      · rw [List.mem_singleton.mp e]; exact Flat.opt.mono (by omega)
theorem flat_end (e : Nat × Nat) : Flat 1 (endD e) := Flat.tup2 Flat.int Flat.int
theorem flat_map {α : Type} {n : Nat} {f : α → PyData} (h : ∀ x, Flat n (f x)) (xs : List α) : Flat (n + 1) (.list (xs.map f)) := Flat.list fun d hd => by
  obtain ⟨x, _, rfl⟩ := List.mem_map.mp hd
  exact h x
theorem eqv_same {n : Nat} {d : PyData} (h : Flat n d) : PyData.eqv d d = true := SeqAt.eqv_refl d h.1
/-! a step's tale, by what lies there; nq: where its list does not lie -/
def TellAt (H : Hp) (nq : Addr → Prop) (a : Addr) : Told → Prop
  | .rests => H a = some (.tup [.str "rests"])
  | .waits p => H a = some (.tup [.str "waits", .int p])
  | .locks p => H a = some (.tup [.str "locks", .int p])
  | .begins => H a = some (.tup [.str "begins"])
  | .goes p => H a = some (.tup [.str "goes", .int p])
  | .ends (.b x) => H a = some (.tup [.str "ends", .bl x])
  | .ends (.l xs) => ∃ q, H a = some (.tup [.str "ends", .ref q]) ∧ H q = some (.lst (iL xs)) ∧ ¬ nq q
  | .splits p q => H a = some (.tup [.str "splits", .int p, .int q])
  | .moves p q => H a = some (.tup [.str "moves", .int p, .int q])
  | .joins p q => H a = some (.tup [.str "joins", .int p, .int q])
theorem ToldAt.tell {H0 H : Hp} {f : Addr → Prop} {v : V} {t : Told} (h : ToldAt H0 H f v t) {nq : Addr → Prop} (hq : ∀ q, H0 q = none → ¬ f q → ¬ nq q) : ∃ a, v = .ref a ∧ H0 a = none ∧ TellAt H nq a t := by
  obtain ⟨a, h1, h2, h3⟩ := h
  refine ⟨a, h1, h2, ?_⟩
  cases t with
  | ends x => cases x with
    | b y => exact h3
    | l xs =>
      obtain ⟨q, q1, q2, q3, q4⟩ := h3
      exact ⟨q, q1, q2, hq q q3 q4⟩
  | _ => exact h3
theorem TellAt.tup {H : Hp} {nq : Addr → Prop} {a : Addr} {t : Told} (h : TellAt H nq a t) : ∃ xs, H a = some (.tup xs) := by
  cases t with
  | ends x => cases x with
    | b y => exact ⟨_, h⟩
    | l xs =>
      obtain ⟨q, q1, _⟩ := h
      exact ⟨_, q1⟩
  | _ => exact ⟨_, h⟩
theorem TellAt.keep {H H' : Hp} {nq nq' : Addr → Prop} {a : Addr} {t : Told} (h : TellAt H nq a t) (k1 : ∀ b xs, H b = some (.tup xs) → H' b = some (.tup xs)) (k2 : ∀ b xs, H b = some (.lst xs) → ¬ nq b → H' b = some (.lst xs) ∧ ¬ nq' b) : TellAt H' nq' a t := by
  cases t with
  | ends x => cases x with
    | b y => exact k1 _ _ h
    | l xs =>
      obtain ⟨q, q1, q2, q3⟩ := h
      obtain ⟨z1, z2⟩ := k2 _ _ q2 q3
      exact ⟨q, k1 _ _ q1, z1, z2⟩
  | _ => exact k1 _ _ h
theorem TellAt.dp {K : PySem.W.Frag} {H : Hp} {nq : Addr → Prop} {a : Addr} {t : Told} (h : TellAt H nq a t) : Dp K H (.ref a) (toldD t) := by
  cases t with
  | rests => exact .tup (SqT.of h) (.cons (.str _) .nil)
  | begins => exact .tup (SqT.of h) (.cons (.str _) .nil)
  | waits p => exact .tup (SqT.of h) (.cons (.str _) (.cons (.int _) .nil))
  | locks p => exact .tup (SqT.of h) (.cons (.str _) (.cons (.int _) .nil))
  | goes p => exact .tup (SqT.of h) (.cons (.str _) (.cons (.int _) .nil))
  | ends x => cases x with
    | b y => exact .tup (SqT.of h) (.cons (.str _) (.cons (.bl _) .nil))
    | l xs =>
      obtain ⟨q, q1, q2, q3⟩ := h
      exact .tup (SqT.of q1) (.cons (.str _) (.cons (dp_int (SqL.of q2)) .nil))
  | splits p q => exact .tup (SqT.of h) (.cons (.str _) (.cons (.int _) (.cons (.int _) .nil)))
  | moves p q => exact .tup (SqT.of h) (.cons (.str _) (.cons (.int _) (.cons (.int _) .nil)))
  | joins p q => exact .tup (SqT.of h) (.cons (.str _) (.cons (.int _) (.cons (.int _) .nil)))
theorem dpAll_map {K : PySem.W.Frag} {H : Hp} {α : Type} {f : α → PyData} {P : V → α → Prop} (h : ∀ v x, P v x → Dp K H v (f x)) : ∀ {vs : List V} {xs : List α}, Paired P vs xs → DpAll K H vs (xs.map f)
  | _, _, .nil => .nil
  | _, _, .cons a t => .cons (h _ _ a) (dpAll_map h t)
theorem dpAll_ref {K : PySem.W.Frag} {H : Hp} {α : Type} {f : α → PyData} {P : Addr → α → Prop} (h : ∀ v x, P v x → Dp K H (.ref v) (f x)) : ∀ {vs : List Addr} {xs : List α}, Paired P vs xs → DpAll K H (vs.map V.ref) (xs.map f)
  | _, _, .nil => .nil
  | _, _, .cons a t => .cons (h _ _ a) (dpAll_ref h t)
theorem AnsAt.dp {K : PySem.W.Frag} {H0 H : Hp} {v : V} {a : Ans} (h : AnsAt H0 H v a) : Dp K H v (ansD a) := by
  cases a with
  | b x => rw [show v = .bl x from h]; exact .bl x
  | l xs =>
    obtain ⟨q, h1, _, h3⟩ := h
    rw [h1]
    exact dp_int (SqL.of h3)
theorem RowAt.dp {K : PySem.W.Frag} {H : Hp} {a : Addr} {r : Int × Pg} (h : RowAt H a r) : Dp K H (.ref a) (rowD r) := by
  obtain ⟨x, y, h1, h2, h3⟩ := h
  refine .tup (SqT.of h1) (.cons (.int _) (.cons (dp_intT (SqT.of h2)) (.cons (dp_intT (SqT.of h3)) (.cons ?_ .nil))))
  cases r.2.nxt with
  | none => exact .non
  | some i => exact .int i
theorem EndAt.dp {K : PySem.W.Frag} {H : Hp} {a : Addr} {e : Nat × Nat} (h : EndAt H a e) : Dp K H (.ref a) (endD e) := .tup (SqT.of h) (.cons (.int _) (.cons (.int _) .nil))
mutual
theorem Dp.same {K : PySem.W.Frag} {H H' : Hp} (s : Same H H') : ∀ {v : V} {d : PyData}, Dp K H v d → Dp K H' v d
  | _, _, .non => .non
  | _, _, .bl b => .bl b
  | _, _, .int i => .int i
  | _, _, .str x => .str x
  | _, _, .lst h t => .lst (Same.seq s h) (DpAll.same s t)
  | _, _, .tup h t => .tup (sqT_same s h) (DpAll.same s t)
theorem DpAll.same {K : PySem.W.Frag} {H H' : Hp} (s : Same H H') : ∀ {vs : List V} {ds : List PyData}, DpAll K H vs ds → DpAll K H' vs ds
  | _, _, .nil => .nil
  | _, _, .cons a t => .cons (Dp.same s a) (DpAll.same s t)
end
theorem paired_take {α β : Type} {P : α → β → Prop} : ∀ {xs : List α} {ys : List β} (_ : Paired P xs ys) (n : Nat), Paired P (xs.take n) (ys.take n)
  | _, _, .nil, n => by cases n <;> exact .nil
  | _, _, .cons h t, 0 => .nil
  | _, _, .cons h t, n + 1 => .cons h (paired_take t n)
/-! ### a weaving's steps -/
/-- nothing that was there is touched but tables -/
abbrev noF : Addr → Prop := fun _ => False
theorem Stp.made {K : PySem.W.Frag} {H H' : Hp} {x dx : Addr} {o : HO} {f : Addr → Prop} (nx : H x = none) (ndx : H dx = none) (ne : dx ≠ x) (S : Stp K (upd (upd H dx (.own x)) x o) H' (own2 x dx) f) : Stp K H H' noF f := by
  refine ⟨fun b u e _ nt => ?_, fun b e => upd_free (upd_free (S.dm b e)), fun b hb => ?_, fun t => S.ta ?_⟩
  · have b1 := ne_of_none e nx
    have b2 := ne_of_none e ndx
    refine S.fr b u (by rw [upd_ne b1, upd_ne b2]; exact e) (fun z => ?_) nt
    rcases z with z | z
    · exact b1 z
    · exact b2 z
  · rcases S.gr b hb with z | z
    · rcases z with z | z <;> rw [z]
      · exact .inr nx
      · exact .inr ndx
    · exact .inr (upd_free (upd_free z))
  · refine TabsOk.same (fun b u e => ?_) t
    rw [upd_ne (ne_of_none e nx), upd_ne (ne_of_none e ndx)]
    exact e
theorem noF_plain {H : Hp} : Plain H noF := fun _ h => h.elim
def sp_played (K : PySem.W.Frag) : Sp := fun vs H Q _ => ∃ (ka pa wa : Addr) (left : Bool) (keys : List Int) (progs : List (List Deed)) (ws : List Int), vs = [.ref ka, .ref pa, .str (ruleS left), .ref wa] ∧ SqL K H ka (iL keys) ∧ KeysOk keys ∧ ProgsAt K H pa progs ∧ ProgsOk progs ∧ TabsOk K H ∧ SqL K H wa (iL ws) ∧
  (∀ w ∈ ws, 0 ≤ w ∧ w < (progs.length : Nat)) ∧ ws.length ≤ 1000 ∧
  ∀ (H' : Hp) (p : Addr) (ts : List Addr), Stp K H H' noF noF → H p = none → H' p = some (.lst (ts.map V.ref)) → Paired (TellAt H' (fun b => b = p ∨ H b ≠ none)) ts ((startM left keys progs).run ws).2 → (∀ t ∈ ts, H t = none) → Q (.ref p) H'
theorem cutUp {xs : List V} {j : Nat} : cutV xs none (some (j : Int)) = xs.take j := by
  by_cases h : j ≤ xs.length
  · exact cutTo h
  · unfold cutV
    have e : HT.sIx xs.length xs.length (some (j : Int)) = xs.length := by
      rw [HT.sIx_nat]
      omega
    rw [e]
    show ((xs.drop 0).take (xs.length - 0)) = _
    rw [List.drop_zero, Nat.sub_zero, List.take_length, List.take_of_length_le (by omega)]
theorem ProgsNew.base {K : PySem.W.Frag} {H H1 H' : Hp} {p : Addr} {as : List Addr} {ps : List (List Deed)} (h : ProgsNew K H1 H' p as ps) (k : ∀ b, H1 b = none → H b = none) : ProgsNew K H H' p as ps :=
  ⟨h.top, k _ h.new, paired_imp h.rows fun a pr ⟨q1, q2, q3⟩ => ⟨k _ q1, q2, q3⟩⟩
theorem ProgsNew.dst {K : PySem.W.Frag} {H0 H H1 H2 : Hp} {d p : Addr} {as : List Addr} {ps : List (List Deed)} (h : ProgsNew K H H1 p as ps) (D : Dice K H0 H d) (D1 : Dice K H0 H1 d) (S : Dst H1 H2 d) : ProgsNew K H H2 p as ps :=
  h.keep fun b o e hb => S.fr b o e fun z => by
    rw [z] at hb e
    obtain ⟨xs, hxs, hx0⟩ := D1.ref0
    rcases hb with hb | hb | ⟨ys, hb⟩
    · exact D.ne h.new hb.symm
    · obtain ⟨pr, ⟨q1, _⟩⟩ := paired_mem h.rows hb
      exact dice_old D q1
    · rw [hxs] at e; rw [hb] at e; cases e
theorem rule_at {v : Int} (h0 : 0 ≤ v) (h1 : v < 2) : ∃ left : Bool, atI [V.str "careless", V.str "left first"] v = some (V.str (ruleS left)) := by
  have : v = 0 ∨ v = 1 := by omega
  rcases this with e | e <;> subst e
  · exact ⟨false, rfl⟩
  · exact ⟨true, rfl⟩

/-! ### data that is new, or beside the machines -/
/-- the new part of a heap, and all tuples -/
def nw (H H' : Hp) : Hp := fun b => match H' b with
  | some (.tup xs) => some (.tup xs)
  | o => match H b with
    | none => o
    | some _ => none
/-- a heap without some things -/
def wo (H : Hp) (D : Addr) : Hp := fun b => if b = D then none else H b
theorem nw_at {H H' : Hp} {p : Addr} {o : HO} (h : H p = none) (e : H' p = some o) : nw H H' p = some o := by
  unfold nw
  rw [e]
  cases o <;> simp only [h]
theorem nw_tup {H H' : Hp} {p : Addr} {xs : List V} (e : H' p = some (.tup xs)) : nw H H' p = some (.tup xs) := by
  unfold nw
  rw [e]
theorem nw_of {H H' : Hp} {p : Addr} {o : HO} (h : nw H H' p = some o) : (H p = none ∨ ∃ xs, o = .tup xs) ∧ H' p = some o := by
  unfold nw at h
  cases e : H' p with
  | none =>
    rw [e] at h
    simp only at h
    cases e2 : H p with
    | none => rw [e2] at h; cases h
    | some u => rw [e2] at h; cases h
  | some u =>
    rw [e] at h
    cases u with
    | tup xs => exact ⟨.inr ⟨xs, (Option.some.inj h).symm⟩, h⟩
    | _ =>
      simp only at h
      cases e2 : H p with
      | none => rw [e2] at h; exact ⟨.inl rfl, h⟩
      | some u => rw [e2] at h; cases h
theorem nw_same {H H' : Hp} : Same (nw H H') H' := fun b o e => (nw_of e).2
theorem nw_mono {H H1 H2 : Hp} (s : Same H1 H2) : Same (nw H H1) (nw H H2) := fun b o e => by
  obtain ⟨h1, h2⟩ := nw_of e
  rcases h1 with h1 | ⟨xs, rfl⟩
  · exact nw_at h1 (s _ _ h2)
  · exact nw_tup (s _ _ h2)
theorem nw_base {H0 H H' : Hp} (s : ∀ b, H b = none → H0 b = none) : Same (nw H H') (nw H0 H') := fun b o e => by
  obtain ⟨h1, h2⟩ := nw_of e
  rcases h1 with h1 | ⟨xs, rfl⟩
  · exact nw_at (s _ h1) h2
  · exact nw_tup h2
theorem wo_at {H : Hp} {D p : Addr} {o : HO} (n : p ≠ D) (e : H p = some o) : wo H D p = some o := by unfold wo; rw [if_neg n]; exact e
theorem wo_of {H : Hp} {D p : Addr} {o : HO} (h : wo H D p = some o) : p ≠ D ∧ H p = some o := by
  unfold wo at h
  by_cases e : p = D
  · rw [if_pos e] at h; cases h
  · rw [if_neg e] at h; exact ⟨e, h⟩
theorem wo_same {H : Hp} {D : Addr} : Same (wo H D) H := fun b o e => (wo_of e).2
theorem wo_mono {H1 H2 : Hp} {D : Addr} (s : Same H1 H2) : Same (wo H1 D) (wo H2 D) := fun b o e => wo_at (wo_of e).1 (s _ _ (wo_of e).2)
/-- behind a store to D -/
theorem wo_upd {H H1 H2 : Hp} {D : Addr} {o : HO} (s : Same H1 H2) : Same (wo (nw H H1) D) (wo (nw H (upd H2 D o)) D) := fun b u e => by
  obtain ⟨n, e1⟩ := wo_of e
  obtain ⟨e2, e3⟩ := nw_of e1
  have e4 : upd H2 D o b = some u := by rw [upd_ne n]; exact s _ _ e3
  rcases e2 with e2 | ⟨xs, rfl⟩
  · exact wo_at n (nw_at e2 e4)
  · exact wo_at n (nw_tup e4)
mutual
theorem Dp.keep {K : PySem.W.Frag} {H H' : Hp} (s : ∀ b o, H b = some o → (∀ ps, o ≠ .tbl ps) → H' b = some o) : ∀ {v : V} {d : PyData}, Dp K H v d → Dp K H' v d
  | _, _, .non => .non
  | _, _, .bl b => .bl b
  | _, _, .int i => .int i
  | _, _, .str x => .str x
  | _, _, .lst h t => .lst (by
      rcases h with (h | ⟨o, h⟩) | h
      · exact .inl (.inl (s _ _ h fun ps z => by cases z))
      · exact .inl (.inr ⟨o, s _ _ h fun ps z => by cases z⟩)
      · exact .inr h) (DpAll.keep s t)
  | _, _, .tup h t => .tup (by
      rcases h with (h | ⟨o, h⟩) | h
      · exact .inl (.inl (s _ _ h fun ps z => by cases z))
      · exact .inl (.inr ⟨o, s _ _ h fun ps z => by cases z⟩)
      · exact .inr h) (DpAll.keep s t)
theorem DpAll.keep {K : PySem.W.Frag} {H H' : Hp} (s : ∀ b o, H b = some o → (∀ ps, o ≠ .tbl ps) → H' b = some o) : ∀ {vs : List V} {ds : List PyData}, DpAll K H vs ds → DpAll K H' vs ds
  | _, _, .nil => .nil
  | _, _, .cons a t => .cons (Dp.keep s a) (DpAll.keep s t)
end
theorem dpa_app {K : PySem.W.Frag} {H : Hp} : ∀ {vs ws : List V} {ds es : List PyData}, DpAll K H vs ds → DpAll K H ws es → DpAll K H (vs ++ ws) (ds ++ es)
  | _, _, _, _, .nil, h => h
  | _, _, _, _, .cons a t, h => .cons a (dpa_app t h)
theorem dpa_snoc {K : PySem.W.Frag} {H : Hp} {vs : List V} {ds : List PyData} {v : V} {d : PyData} (h : DpAll K H vs ds) (a : Dp K H v d) : DpAll K H (vs ++ [v]) (ds ++ [d]) := dpa_app h (.cons a .nil)
theorem dpAll_len {K : PySem.W.Frag} {H : Hp} : ∀ {vs : List V} {ds : List PyData}, DpAll K H vs ds → vs.length = ds.length
  | _, _, .nil => rfl
  | _, _, .cons _ t => by rw [List.length_cons, List.length_cons, dpAll_len t]
theorem dp_opt {K : PySem.W.Frag} {H : Hp} {o : Option Int} : Dp K H (optV o) (optD o) := by cases o; exact .non; exact .int _
theorem paired_refs {P : V → Ans → Prop} {vs : List V} {xs : List Ans} (h : Paired P vs xs) : vs.length = xs.length := paired_len h
theorem RowAt.nw {H H' : Hp} {a : Addr} {r : Int × Pg} (h : RowAt H' a r) : RowAt (HH.nw H H') a r := by
  obtain ⟨x, y, h1, h2, h3⟩ := h
  exact ⟨x, y, nw_tup h1, nw_tup h2, nw_tup h3⟩

/-! ### machines beside one another -/
theorem TabsOk.but {K : PySem.W.Frag} {H H' : Hp} (s : ∀ b o, H b = some o → (∀ xs, o ≠ .lst xs) → H' b = some o) (t : TabsOk K H) : TabsOk K H' := fun q hq => by
  obtain ⟨ps, h1, h2, h3⟩ := t q hq
  refine ⟨ps, s _ _ h1 fun xs z => (by cases z), h2, fun pos cv hc => ?_⟩
  obtain ⟨c, e1, e2⟩ := h3 pos cv hc
  exact ⟨c, e1, s _ _ e2 fun xs z => by cases z⟩
theorem Dst.tabs {K : PySem.W.Frag} {H0 H H' : Hp} {d : Addr} (S : Dst H H' d) (D : Dice K H0 H d) (t : TabsOk K H) : TabsOk K H' := t.but fun b o e n => S.fr b o e fun z => by
  obtain ⟨xs, hd, _⟩ := D.ref0
  rw [z, hd] at e
  exact n xs (Option.some.inj e).symm
theorem Dice.grow {K : PySem.W.Frag} {H0 H H' : Hp} {d : Addr} {f : Addr → Prop} (D : Dice K H0 H d) (S : Stp K H H' noF f) : Dice K H0 H' d := by
  obtain ⟨⟨a, ns, i, m, c, hd, r⟩, nd, gr⟩ := D
  exact ⟨⟨a, ns, i, m, c, S.fr _ _ hd (fun z => z) (fun ps z => by cases z), r⟩, nd, gr.trans ⟨fun b o e n => S.fr b o e (fun z => z) n, S.dm⟩⟩
theorem Stp.keepL {K : PySem.W.Frag} {H H' : Hp} {f : Addr → Prop} (S : Stp K H H' noF f) {a : Addr} {xs : List V} (h : H a = some (.lst xs)) : H' a = some (.lst xs) := S.fr _ _ h (fun z => z) fun ps z => by cases z
theorem run_take : ∀ {ws : List Int} {M : Mc} {c : Nat}, (M.run (ws.take c)).2 = (M.run ws).2.take c
  | [], M, c => by simp [Mc.run]
  | a :: r, M, 0 => rfl
  | a :: r, M, c + 1 => by
    show (M.turn a.toNat).2 :: ((M.turn a.toNat).1.run (r.take c)).2 = (M.turn a.toNat).2 :: (((M.turn a.toNat).1.run r).2).take c
    rw [run_take]
theorem run_get : ∀ {ws : List Int} {M : Mc} {j : Nat} {w : Int}, ws[j]? = some w → (M.run ws).2[j]? = some ((M.run (ws.take j)).1.turn w.toNat).2
  | [], M, j, w, h => by simp at h
  | a :: r, M, 0, w, h => by
    have : a = w := by simpa using h
    rw [this]
    rfl
  | a :: r, M, j + 1, w, h => by
    show ((M.turn a.toNat).2 :: ((M.turn a.toNat).1.run r).2)[j + 1]? = _
    rw [List.getElem?_cons_succ, run_get (by simpa using h)]
    rfl
/-- a machine's step beside another machine -/
theorem beside_step {K : PySem.W.Frag} {H H' : Hp} {A1 A1' A2 : Lay} {M1 M1' M2 : Mc} (R2 : Rep K H A2 M2) (dj : ∀ b, foot M1 A1 b → ¬ foot M2 A2 b) (S : Stp K H H' (foot M1 A1) (foot M1' A1')) (R1 : Rep K H A1 M1) : Rep K H' A2 M2 ∧ ∀ b, foot M1' A1' b → ¬ foot M2 A2 b := by
  refine ⟨R2.frame (fun b hb => ?_) (fun b xs e => S.fr _ _ e (fun z => R1.nottup e z) (fun ps z => by cases z)) (fun b o u e => S.fr _ _ e (fun z => R1.notfrz e z) (fun ps z => by cases z)), fun b h1 h2 => ?_⟩
  · obtain ⟨o, ho, ok⟩ := R2.owned hb
    rw [ho]
    exact S.fr b o ho (fun z => dj b z hb) fun ps => ok.tbl ps
  · rcases S.gr b h1 with z | z
    · exact dj b z h2
    · obtain ⟨o, ho, _⟩ := R2.owned h2
      rw [z] at ho; cases ho
theorem Stp.two {K : PySem.W.Frag} {H H' : Hp} {f f' g : Addr → Prop} (S : Stp K H H' f f') : Stp K H H' (fun b => f b ∨ g b) (fun b => f' b ∨ g b) :=
  ⟨fun b o e n => S.fr b o e fun z => n (.inl z), S.dm, fun b h => by
    rcases h with h | h
    · rcases S.gr b h with z | z
      · exact .inl (.inl z)
      · exact .inr z
    · exact .inl (.inr h), S.ta⟩
theorem Stp.two' {K : PySem.W.Frag} {H H' : Hp} {f f' g : Addr → Prop} (S : Stp K H H' f f') : Stp K H H' (fun b => g b ∨ f b) (fun b => g b ∨ f' b) :=
  ⟨fun b o e n => S.fr b o e fun z => n (.inr z), S.dm, fun b h => by
    rcases h with h | h
    · exact .inl (.inl h)
    · rcases S.gr b h with z | z
      · exact .inl (.inr z)
      · exact .inr z, S.ta⟩
open Classical in
/-- what lies beside the machines -/
noncomputable def bes (H : Hp) (f : Addr → Prop) : Hp := fun b => if f b then none else H b
theorem bes_at {H : Hp} {f : Addr → Prop} {b : Addr} {o : HO} (n : ¬ f b) (e : H b = some o) : bes H f b = some o := by unfold bes; rw [if_neg n]; exact e
theorem bes_of {H : Hp} {f : Addr → Prop} {b : Addr} {o : HO} (h : bes H f b = some o) : ¬ f b ∧ H b = some o := by
  unfold bes at h
  by_cases e : f b
  · rw [if_pos e] at h; cases h
  · rw [if_neg e] at h; exact ⟨e, h⟩
theorem bes_step {K : PySem.W.Frag} {H H' : Hp} {f f' : Addr → Prop} (S : Stp K H H' f f') {v : V} {d : PyData} (h : Dp K (bes H f) v d) : Dp K (bes H' f') v d := Dp.keep (fun b o e n => by
  obtain ⟨h1, h2⟩ := bes_of e
  refine bes_at (fun z => ?_) (S.fr b o h2 h1 n)
  rcases S.gr b z with w | w
  · exact h1 w
  · rw [h2] at w; cases w) h
theorem bes_dp {K : PySem.W.Frag} {H : Hp} {f : Addr → Prop} {v : V} {d : PyData} (h : Dp K (bes H f) v d) : Dp K H v d := Dp.same (fun b o e => (bes_of e).2) h
theorem nw_bes {K : PySem.W.Frag} {H H' : Hp} {f : Addr → Prop} (h1 : ∀ b, f b → H b ≠ none) (h2 : ∀ b xs, H' b = some (.tup xs) → ¬ f b) {v : V} {d : PyData} (h : Dp K (nw H H') v d) : Dp K (bes H' f) v d := Dp.same (fun b o e => by
  obtain ⟨e1, e2⟩ := nw_of e
  refine bes_at (fun z => ?_) e2
  rcases e1 with e1 | ⟨xs, rfl⟩
  · exact h1 b z e1
  · exact h2 b xs e2 z) h
theorem inV_non {xs : List Int} : inV V.non (iL xs) = false := by
  induction xs with
  | nil => rfl
  | cons a r ih => exact ih
/-- whether a hand has the page that another one wants -/
def ownB (M : Mc) (h o : Nat) : Bool := inV (optV (M.ha h).want) (iL (M.ha o).held)
theorem ownB_some {M : Mc} {h o : Nat} {p : Int} (e : (M.ha h).want = some p) : ownB M h o = decide (p ∈ (M.ha o).held) := by unfold ownB; rw [e]; exact inV_int
def owners (M : Mc) (h : Nat) : List Nat := (List.range M.n).filter (ownB M h)
theorem owners_none {M : Mc} {g : Gh} {mu : Nat → Nat} (I : INV M g mu) {h : Nat} {p : Int} (e : (M.ha h).want = some p) (hl : M.locks p = none) : owners M h = [] := by
  unfold owners
  refine List.filter_eq_nil_iff.mpr fun o ho => ?_
  rw [ownB_some e]
  simp only [decide_eq_true_eq]
  intro z
  have := (I.lks p o).mpr ⟨List.mem_range.mp ho, z⟩
  rw [hl] at this
  cases this
theorem filter_one {n j : Nat} {c : Nat → Bool} (hj : j < n) (h1 : c j = true) (h2 : ∀ i, i < n → i ≠ j → c i = false) : (List.range n).filter c = [j] := by
  induction n with
  | zero => omega
  | succ n ih =>
    rw [List.range_succ, List.filter_append]
    by_cases e : j = n
    · subst e
      rw [List.filter_eq_nil_iff.mpr fun i hi => by rw [h2 i (by have := List.mem_range.mp hi; omega) (by have := List.mem_range.mp hi; omega)]; decide]
      simp [h1]
    · rw [ih (by omega) fun i hi hne => h2 i (by omega) hne]
      have : c n = false := h2 n (by omega) (fun z => e z.symm)
      simp [this]
theorem owners_one {M : Mc} {g : Gh} {mu : Nat → Nat} (I : INV M g mu) {h j : Nat} {p : Int} (e : (M.ha h).want = some p) (hl : M.locks p = some j) : owners M h = [j] := by
  obtain ⟨h1, h2⟩ := (I.lks p j).mp hl
  refine filter_one h1 (by rw [ownB_some e]; exact decide_eq_true h2) fun i hi hne => ?_
  rw [ownB_some e]
  refine decide_eq_false fun z => hne ?_
  exact I.one hi h1 z h2
theorem ProgsNew.stp {K : PySem.W.Frag} {H H1 H2 : Hp} {p : Addr} {as : List Addr} {ps : List (List Deed)} {f : Addr → Prop} (h : ProgsNew K H H1 p as ps) (S : Stp K H1 H2 noF f) : ProgsNew K H H2 p as ps :=
  h.keep fun b o e hb => S.fr b o e (fun z => z) fun qs z => by
    subst z
    rcases hb with hb | hb | ⟨xs, hb⟩
    · rw [hb, h.top] at e; cases e
    · obtain ⟨pr, _, _, ds, q, _⟩ := paired_mem h.rows hb
      rw [q] at e; cases e
    · cases hb
theorem Rep.noF {K : PySem.W.Frag} {H H' : Hp} {A : Lay} {M : Mc} {f : Addr → Prop} (R : Rep K H A M) (S : Stp K H H' HH.noF f) : Rep K H' A M :=
  R.frame (fun b hb => by
    obtain ⟨o, ho, ok⟩ := R.owned hb
    rw [ho]
    exact S.fr b o ho (fun z => z) fun ps => ok.tbl ps) (fun b xs e => S.fr _ _ e (fun z => z) (fun ps z => by cases z)) fun b o u e => S.fr _ _ e (fun z => z) (fun ps z => by cases z)
/-- a turn of one machine, its hand a number w that stands for a hand -/
theorem hand_of {M : Mc} {w : Int} (h : 0 ≤ w ∧ w < (M.n : Nat)) : w.toNat < M.n ∧ ((w.toNat : Nat) : Int) = w := by omega


/-! ### deeds one after another -/
def sp_answer (K : PySem.W.Frag) : Sp := fun vs H Q _ => ∃ (ka da : Addr) (ks : List Int) (d : Deed), vs = [.ref ka, .ref da] ∧ H ka = some (.lst (iL ks)) ∧ DeedAt K H da d ∧ ks.Pairwise (· < ·) ∧ ks.length ≤ 1000 ∧
  ∀ (H' : Hp) (t k' : Addr) (v : V), Same H H' → H t = none → H' t = some (.tup [v, .ref k']) → AnsAt H H' v (answerK ks d).1 → (k' = ka ∨ H k' = none) → H' k' = some (.lst (iL (answerK ks d).2)) → Q (.ref t) H'
theorem lt_le {xs : List Int} (h : xs.Pairwise (· < ·)) : xs.Pairwise (· ≤ ·) := h.imp fun {a b} z => Int.le_of_lt z
abbrev N_answer : List Str := ["keys", "deed", "key", "there"]
theorem sc_answer : FnScope N_answer ["keys", "deed"] (defScope s_answer) := ⟨rfl, rfl, rfl, by decide +kernel, rfl, by decide +kernel, by decide +kernel⟩
theorem b_answer {w : World} {K : PySem.W.Frag} {mg : Str → Option Value} {base : Heap} (T : Txt w K mg base) : Binds K (fdOf K d_answer.at_) ["keys", "deed"] [] := T.f_answer.bindsN fun _ _ _ _ _ _ us hl => match us, hl with | [_, _], _ => rfl
theorem ok_answer {P : Program} {w : World} {K : PySem.W.Frag} {mg : Str → Option Value} {base : Heap} (T : Txt w K mg base) : FnOk P w K mg base CX0 1 (He.fAd K d_answer.at_) (fdOf K d_answer.at_) ["keys", "deed"] (sp_answer K) := by
  refine T.f_answer.ok sc_answer (fun vs H Q E h => ?_) (fun cdv A outer s H vs Q E hr h => ?_)
  · obtain ⟨ka, da, ks, d, rfl, _⟩ := h
    rfl
  · obtain ⟨ka, da, ks, d, rfl, hk, hd, pw, lk, k⟩ := h
    refine ⟨_, PSs.nox (pss_cons (ps_if (pt_cmpR op_eq (pe_ix ix_tup (pv 1) pe_int (fun _ _ => rfl)) pe_str (nomark _)) (pss_one (ps_ret (pe_tup (pa_cons (pe_lc (own := [("key", 2)]) (g := gName 2) rfl sc_answer.nd (pi_list (pv 0)) (blkOk_by (own := [("key", 2)]) (N := N_answer) (sc := defScope s_answer) (by decide +kernel)) (fun _ _ _ _ _ => pg_name (i := 2) sc_answer.nd rfl (Or.inl rfl)) (fun _ _ _ _ _ => pts_one (pt_chain op_le op_le (pe_ix (ix_tupB (K := K) rfl) (pv 1) pe_int (fun _ _ => rfl)) (pv 2) (pe_ix (ix_tupB (K := K) rfl) (pv 1) pe_int (fun _ _ => rfl)))) (fun _ _ _ _ _ => (pv 2))) (pa_cons (pv 0) pa_nil))))) pss_nil)
  (pss_cons (ps_set (i := 3) sc_answer.nd rfl (Or.inl rfl) (pe_cmpR op_in_seq (pe_ix ix_tup (pv 1) pe_int (fun _ _ => rfl)) (pv 0) (by rfl)))
  (pss_cons (ps_if (PW.pt (pw_and (pt_cmpR op_eq (pe_ix ix_tup (pv 1) pe_int (fun _ _ => rfl)) pe_str (nomark _)) (pw_and1 (pt_not (pt_val (pv 3)))))) (pss_one (ps_ret (pe_tup (pa_cons pe_bl (pa_cons (pe_callB cr_sortedI (by rfl) T.b_sorted (by decide +kernel) (pa_cons (pe_op op_cat (pv 0) (pe_lst (pa_cons (pe_ix ix_tup (pv 1) pe_int (fun _ _ => rfl)) pa_nil))) pa_nil)) pa_nil))))) pss_nil)
  (pss_cons (ps_if (PW.pt (pw_and (pt_cmpR op_eq (pe_ix ix_tup (pv 1) pe_int (fun _ _ => rfl)) pe_str (nomark _)) (pw_and1 (pt_val (pv 3))))) (pss_one (ps_ret (pe_tup (pa_cons pe_bl (pa_cons (pe_lc (own := [("key", 2)]) (g := gName 2) rfl sc_answer.nd (pi_list (pv 0)) (blkOk_by (own := [("key", 2)]) (N := N_answer) (sc := defScope s_answer) (by decide +kernel)) (fun _ _ _ _ _ => pg_name (i := 2) sc_answer.nd rfl (Or.inl rfl)) (fun _ _ _ _ _ => pts_one (pt_cmpR op_ne (pv 2) (pe_ix (ix_tupB (K := K) rfl) (pv 1) pe_int (fun _ _ => rfl)) (nomark _))) (fun _ _ _ _ _ => (pv 2))) pa_nil))))) pss_nil)
  (pss_one (ps_ret (pe_tup (pa_cons (pe_and (pv 3) (pe_one (pe_cmpR op_eq (pe_ix ix_tup (pv 1) pe_int (fun _ _ => rfl)) pe_str (nomark _)))) (pa_cons (pv 0) pa_nil))))))))), ?_⟩
    have ha : SqT K H da (deedV d) := hd
    have w1 : (Str.ofString "put") ≠ Str.ofString "walk" := by decide +kernel
    have w2 : (Str.ofString "take") ≠ Str.ofString "walk" := by decide +kernel
    have w3 : (Str.ofString "ask") ≠ Str.ofString "walk" := by decide +kernel
    have w4 : (Str.ofString "take") ≠ Str.ofString "put" := by decide +kernel
    have w5 : (Str.ofString "ask") ≠ Str.ofString "put" := by decide +kernel
    have w6 : (Str.ofString "ask") ≠ Str.ofString "take" := by decide +kernel
    have w7 : (Str.ofString "put") ≠ Str.ofString "take" := by decide +kernel
    have w8 : (Str.ofString "put") ≠ Str.ofString "ask" := by decide +kernel
    have w9 : (Str.ofString "take") ≠ Str.ofString "ask" := by decide +kernel
    have no : ∀ {a b : Str}, a ≠ b → decide (V.str a = V.str b) = false := fun {a b} n => decide_eq_false fun z => n (V.str.inj z)
    have yes : ∀ {a : Str}, decide (V.str a = V.str a) = true := decide_eq_true rfl
    refine ⟨_, rfl, _, _, _, V.str (deedW d), rfl, rfl, ha, at_of (j := 0) rfl (by cases d <;> rfl), rfl, _, rfl, ?_⟩
    cases d with
    | walk lo hi =>
      rw [show decide (V.str (deedW (.walk lo hi)) = V.str "walk") = true from yes]
      refine iteT ⟨_, rfl, ka, rfl, ⟨_, SqL.of hk⟩, fun D nD => ?_⟩
      refine lc_list (K := K) (a := ka) (xs := iL ks) (fun j H2 => Same H H2 ∧ H2 D = some (.lst (iL ((ks.take j).filter fun k => decide (lo ≤ k ∧ k ≤ hi))))) ⟨same_new nD, upd_same⟩ (fun j H2 _ z => SqL.of (z.1 _ _ hk)) ?_ ?_
      · rintro j y H2 hj ⟨s, hD⟩
        obtain ⟨z, hz, rfl⟩ := iL_get hj
        have ha2 := sqT_same s ha
        rw [take_snoc hz, List.filter_append]
        have hl := List.length_filter_le (fun k => decide (lo ≤ k ∧ k ≤ hi)) (ks.take j)
        rw [List.length_take] at hl
        refine ⟨rfl, _, rfl, _, _, _, V.int lo, rfl, rfl, ha2, at_of (j := 1) rfl rfl, _, rfl, _, _, rfl, rfl, _, rfl, ?_⟩
        refine ite2 (fun c1 => ?_) (fun c1 => ?_)
        · refine ⟨_, rfl, _, _, _, V.int hi, rfl, rfl, ha2, at_of (j := 2) rfl rfl, _, _, rfl, rfl, _, rfl, ?_⟩
          have c1 : lo ≤ z := of_decide_eq_true c1
          refine ite2 (fun c2 => ?_) (fun c2 => ?_)
          · have c2 : z ≤ hi := of_decide_eq_true c2
            refine ⟨_, rfl, _, hD, small64 (by rw [len_iL]; omega), fun b o e => by rw [upd_ne (ne_of_none e nD)]; exact s _ _ e, ?_⟩
            rw [upd_same, List.filter_cons, if_pos (decide_eq_true ⟨c1, c2⟩)]
            simp [iL]
          · refine ⟨s, ?_⟩
            rw [hD, List.filter_cons, if_neg (by simp only [decide_eq_true_eq]; intro w; exact c2 (decide_eq_true w.2))]
            simp
        · refine ⟨_, rfl, iteF ⟨s, ?_⟩⟩
          rw [hD, List.filter_cons, if_neg (by simp only [decide_eq_true_eq]; intro w; exact c1 (decide_eq_true w.1))]
          simp
      · rintro H2 ⟨s, hD⟩
        rw [len_iL, List.take_length] at hD
        refine ⟨_, rfl, (show 2 ≤ sizeLine by decide), fun t nt => ?_⟩
        have s2 := same_new (o := .tup [.ref D, .ref ka]) nt
        exact k _ t ka _ (s.trans s2) (s.free nt) upd_same ⟨D, rfl, nD, s2 _ _ hD⟩ (.inl rfl) (s2 _ _ (s _ _ hk))
    | put x =>
      rw [show decide (V.str (deedW (.put x)) = V.str "walk") = false from no w1]
      refine iteF ⟨_, rfl, _, _, _, V.int x, rfl, rfl, ha, at_of (j := 1) rfl rfl, _, rfl, _, _, rfl, .inl (SqL.of hk), rfl, flat_iL _, ?_⟩
      refine ⟨_, rfl, _, _, _, V.str (deedW (.put x)), rfl, rfl, ha, at_of (j := 0) rfl rfl, rfl, _, rfl, ?_⟩
      rw [show decide (V.str (deedW (.put x)) = V.str "put") = true from yes]
      refine iteT ⟨_, rfl, _, rfl, ?_⟩
      rw [show (if false = true then !inV (V.int x) (iL ks) else inV (V.int x) (iL ks)) = decide (x ∈ ks) from inV_int]
      have ea : answerK ks (.put x) = if x ∈ ks then (.b false, ks) else (.b true, ins x ks) := rfl
      by_cases c : x ∈ ks
      · rw [ea, if_pos c] at k
        rw [decide_eq_true c]
        refine iteF ?_
        refine ⟨_, rfl, _, _, _, V.str (deedW (.put x)), rfl, rfl, ha, at_of (j := 0) rfl rfl, rfl, _, rfl, ?_⟩
        rw [show decide (V.str (deedW (.put x)) = V.str "take") = false from no w7]
        refine iteF (iteF ?_)
        refine ⟨_, rfl, _, rfl, iteT ⟨_, rfl, _, _, _, V.str (deedW (.put x)), rfl, rfl, ha, at_of (j := 0) rfl rfl, rfl, ?_⟩⟩
        rw [show decide (V.str (deedW (.put x)) = V.str "ask") = false from no w8]
        refine ⟨_, rfl, (show 2 ≤ sizeLine by decide), fun t nt => ?_⟩
        have s2 := same_new (o := .tup [.bl false, .ref ka]) nt
        exact k _ t ka _ s2 nt upd_same rfl (.inl rfl) (s2 _ _ hk)
      · rw [ea, if_neg c] at k
        rw [decide_eq_false c]
        refine iteT ?_
        refine ⟨_, rfl, _, rfl, _, _, _, V.int x, rfl, rfl, ha, at_of (j := 1) rfl rfl, (show 1 ≤ sizeLine by decide), fun q1 m1 => ?_⟩
        have t1 := same_new (o := .lst [V.int x]) m1
        refine ⟨_, _, _, _, rfl, rfl, t1 _ _ hk, upd_same, Nat.le_trans (m := 5000) (by rw [len_iL]; simp only [List.length_singleton]; omega) (by decide), fun q2 m2 => ?_⟩
        rw [show iL ks ++ [V.int x] = (ks ++ [x]).map V.int by simp [iL]]
        have t2 := same_new (o := .lst ((ks ++ [x]).map V.int)) m2
        refine ⟨q2, ks ++ [x], rfl, SqL.of upd_same, fun ns' q hpm hpw nq => ?_⟩
        have en : ns' = ins x ks := sorted_eq (hpm.trans (ins_perm x ks).symm) hpw (ins_pw x ks (lt_le pw))
        subst en
        have t3 := same_new (o := .lst ((ins x ks).map V.int)) nq
        refine ⟨(show 2 ≤ sizeLine by decide), fun t nt => ?_⟩
        have s12 := (t1.trans t2).trans t3
        have t4 := same_new (o := .tup [.bl true, .ref q]) nt
        exact k _ t q _ (s12.trans t4) (s12.free nt) upd_same rfl (.inr ((t1.trans t2).free nq)) (t4 _ _ upd_same)
    | take x =>
      rw [show decide (V.str (deedW (.take x)) = V.str "walk") = false from no w2]
      refine iteF ⟨_, rfl, _, _, _, V.int x, rfl, rfl, ha, at_of (j := 1) rfl rfl, _, rfl, _, _, rfl, .inl (SqL.of hk), rfl, flat_iL _, ?_⟩
      refine ⟨_, rfl, _, _, _, V.str (deedW (.take x)), rfl, rfl, ha, at_of (j := 0) rfl rfl, rfl, _, rfl, ?_⟩
      rw [show decide (V.str (deedW (.take x)) = V.str "put") = false from no w4]
      refine iteF (iteF ⟨_, rfl, _, _, _, V.str (deedW (.take x)), rfl, rfl, ha, at_of (j := 0) rfl rfl, rfl, _, rfl, ?_⟩)
      rw [show decide (V.str (deedW (.take x)) = V.str "take") = true from yes]
      refine iteT ⟨_, rfl, _, rfl, ?_⟩
      rw [show (if false = true then !inV (V.int x) (iL ks) else inV (V.int x) (iL ks)) = decide (x ∈ ks) from inV_int]
      have ea : answerK ks (.take x) = if x ∈ ks then (.b true, ks.filter fun y => decide (y ≠ x)) else (.b false, ks) := rfl
      by_cases c : x ∈ ks
      · rw [ea, if_pos c] at k
        rw [decide_eq_true c]
        refine iteT ⟨_, rfl, ka, rfl, ⟨_, SqL.of hk⟩, fun D nD => ?_⟩
        refine lc_list (K := K) (a := ka) (xs := iL ks) (fun j H2 => Same H H2 ∧ H2 D = some (.lst (iL ((ks.take j).filter fun y => decide (y ≠ x))))) ⟨same_new nD, upd_same⟩ (fun j H2 _ z => SqL.of (z.1 _ _ hk)) ?_ ?_
        · rintro j y H2 hj ⟨s, hD⟩
          obtain ⟨z, hz, rfl⟩ := iL_get hj
          have ha2 := sqT_same s ha
          rw [take_snoc hz, List.filter_append]
          have hl := List.length_filter_le (fun y => decide (y ≠ x)) (ks.take j)
          rw [List.length_take] at hl
          refine ⟨rfl, _, rfl, _, rfl, _, _, _, V.int x, rfl, rfl, ha2, at_of (j := 1) rfl rfl, rfl, _, rfl, ?_⟩
          by_cases c2 : z = x
          · rw [c2, decide_eq_true rfl]
            refine iteF ⟨s, ?_⟩
            rw [hD, List.filter_cons, if_neg (by simp)]
            simp
          · rw [decide_eq_false (fun w => c2 (V.int.inj w))]
            refine iteT ⟨_, rfl, _, hD, small64 (by rw [len_iL]; omega), fun b o e => by rw [upd_ne (ne_of_none e nD)]; exact s _ _ e, ?_⟩
            rw [upd_same, List.filter_cons, if_pos (decide_eq_true c2)]
            simp [iL]
        · rintro H2 ⟨s, hD⟩
          rw [len_iL, List.take_length] at hD
          refine ⟨(show 2 ≤ sizeLine by decide), fun t nt => ?_⟩
          have s2 := same_new (o := .tup [.bl true, .ref D]) nt
          exact k _ t D _ (s.trans s2) (s.free nt) upd_same rfl (.inr nD) (s2 _ _ hD)
      · rw [ea, if_neg c] at k
        rw [decide_eq_false c]
        refine iteF ?_
        refine ⟨_, rfl, _, rfl, iteF ?_⟩
        refine ⟨_, rfl, (show 2 ≤ sizeLine by decide), fun t nt => ?_⟩
        have s2 := same_new (o := .tup [.bl false, .ref ka]) nt
        exact k _ t ka _ s2 nt upd_same rfl (.inl rfl) (s2 _ _ hk)
    | ask x =>
      rw [show decide (V.str (deedW (.ask x)) = V.str "walk") = false from no w3]
      refine iteF ⟨_, rfl, _, _, _, V.int x, rfl, rfl, ha, at_of (j := 1) rfl rfl, _, rfl, _, _, rfl, .inl (SqL.of hk), rfl, flat_iL _, ?_⟩
      refine ⟨_, rfl, _, _, _, V.str (deedW (.ask x)), rfl, rfl, ha, at_of (j := 0) rfl rfl, rfl, _, rfl, ?_⟩
      rw [show decide (V.str (deedW (.ask x)) = V.str "put") = false from no w5]
      refine iteF (iteF ⟨_, rfl, _, _, _, V.str (deedW (.ask x)), rfl, rfl, ha, at_of (j := 0) rfl rfl, rfl, _, rfl, ?_⟩)
      rw [show decide (V.str (deedW (.ask x)) = V.str "take") = false from no w6]
      refine iteF (iteF ⟨_, rfl, _, rfl, ?_⟩)
      rw [show (if false = true then !inV (V.int x) (iL ks) else inV (V.int x) (iL ks)) = decide (x ∈ ks) from inV_int]
      have ea : answerK ks (.ask x) = (.b (decide (x ∈ ks)), ks) := rfl
      rw [ea] at k
      by_cases c : x ∈ ks
      · rw [decide_eq_true c] at k ⊢
        refine iteT ⟨_, rfl, _, _, _, V.str (deedW (.ask x)), rfl, rfl, ha, at_of (j := 0) rfl rfl, rfl, ?_⟩
        rw [show decide (V.str (deedW (.ask x)) = V.str "ask") = true from yes]
        refine ⟨_, rfl, (show 2 ≤ sizeLine by decide), fun t nt => ?_⟩
        have s2 := same_new (o := .tup [.bl true, .ref ka]) nt
        exact k _ t ka _ s2 nt upd_same rfl (.inl rfl) (s2 _ _ hk)
      · rw [decide_eq_false c] at k ⊢
        refine iteF ?_
        refine ⟨_, rfl, (show 2 ≤ sizeLine by decide), fun t nt => ?_⟩
        have s2 := same_new (o := .tup [.bl false, .ref ka]) nt
        exact k _ t ka _ s2 nt upd_same rfl (.inl rfl) (s2 _ _ hk)
theorem lt_nodup {xs : List Int} (h : xs.Pairwise (· < ·)) : xs.Nodup := h.imp fun {a b} z => (by omega : a ≠ b)
theorem perm_of_mem {xs ys : List Int} (h1 : xs.Nodup) (h2 : ys.Nodup) (h : ∀ a, a ∈ xs ↔ a ∈ ys) : xs.Perm ys := (List.perm_ext_iff_of_nodup h1 h2).mpr h
def sp_serial (K : PySem.W.Frag) : Sp := fun vs H Q _ => ∃ (ka da : Addr) (keys sk : List Int) (ds : List Addr) (deeds : List Deed), vs = [.ref ka, .ref da] ∧ SqL K H ka (iL keys) ∧ KeysOk keys ∧ sk.Pairwise (· < ·) ∧ (∀ x, x ∈ sk ↔ x ∈ keys) ∧
  SqL K H da (ds.map V.ref) ∧ Paired (DeedAt K H) ds deeds ∧ (∀ d ∈ deeds, DeedOk d) ∧ deeds.length ≤ 500 ∧
  ∀ (H' : Hp) (t f n : Addr) (xs : List V), Same H H' → H t = none → H' t = some (.tup [.ref f, .ref n]) → H f = none → H' f = some (.lst xs) → Paired (AnsAt H H') xs (serialK sk deeds).1 → H n = none → H' n = some (.lst (iL (serialK sk deeds).2)) → Q (.ref t) H'
theorem answerK_lt {ks : List Int} (h : ks.Pairwise (· < ·)) (d : Deed) : (answerK ks d).2.Pairwise (· < ·) := by
  cases d with
  | put k =>
    show (if k ∈ ks then (Ans.b false, ks) else (Ans.b true, ins k ks)).2.Pairwise (· < ·)
    by_cases c : k ∈ ks
    · rw [if_pos c]; exact h
    · rw [if_neg c]; exact ins_lt h c
  | take k =>
    show (if k ∈ ks then (Ans.b true, ks.filter fun x => decide (x ≠ k)) else (Ans.b false, ks)).2.Pairwise (· < ·)
    by_cases c : k ∈ ks
    · rw [if_pos c]; exact h.filter _
    · rw [if_neg c]; exact h
  | ask k => exact h
  | walk lo hi => exact h
theorem answerK_len (ks : List Int) (d : Deed) : (answerK ks d).2.length ≤ ks.length + 1 := by
  cases d with
  | put k =>
    show (if k ∈ ks then (Ans.b false, ks) else (Ans.b true, ins k ks)).2.length ≤ ks.length + 1
    by_cases c : k ∈ ks
    · rw [if_pos c]; exact Nat.le_succ _
    · rw [if_neg c]; exact Nat.le_of_eq ins_len
  | take k =>
    show (if k ∈ ks then (Ans.b true, ks.filter fun x => decide (x ≠ k)) else (Ans.b false, ks)).2.length ≤ ks.length + 1
    by_cases c : k ∈ ks
    · rw [if_pos c]; exact Nat.le_succ_of_le (List.length_filter_le _ _)
    · rw [if_neg c]; exact Nat.le_succ _
  | ask k => exact Nat.le_succ _
  | walk lo hi => exact Nat.le_succ _
theorem serialK_inv (sk : List Int) (h : sk.Pairwise (· < ·)) : ∀ (n : Nat) (ds : List Deed), ds.length = n → (serialK sk ds).2.Pairwise (· < ·) ∧ (serialK sk ds).2.length ≤ sk.length + n ∧ (serialK sk ds).1.length = n
  | 0, [], _ => ⟨h, Nat.le_refl _, rfl⟩
  | 0, _ :: _, e => by cases e
  | n + 1, ds, e => by
    have ne : ds ≠ [] := fun z => by rw [z] at e; cases e
    have hs : ds = ds.dropLast ++ [ds.getLast ne] := (List.dropLast_concat_getLast ne).symm
    have ih := serialK_inv sk h n ds.dropLast (by rw [List.length_dropLast, e]; rfl)
    rw [hs, serialK_snoc]
    have l := answerK_len (serialK sk ds.dropLast).2 (ds.getLast ne)
    exact ⟨answerK_lt ih.1 _, by show (answerK _ _).2.length ≤ _; omega, by rw [List.length_append, ih.2.2]; rfl⟩
abbrev N_serial : List Str := ["keys", "deeds", "found", "now", "number", "told"]
theorem sc_serial : FnScope N_serial ["keys", "deeds"] (defScope s_serial) := ⟨rfl, rfl, rfl, by decide +kernel, rfl, by decide +kernel, by decide +kernel⟩
theorem b_serial {w : World} {K : PySem.W.Frag} {mg : Str → Option Value} {base : Heap} (T : Txt w K mg base) : Binds K (fdOf K d_serial.at_) ["keys", "deeds"] [] := T.f_serial.bindsN fun _ _ _ _ _ _ us hl => match us, hl with | [_, _], _ => rfl
theorem ok_serial {P : Program} {w : World} {K : PySem.W.Frag} {mg : Str → Option Value} {base : Heap} (T : Txt w K mg base) : FnOk P w K mg base CX0 2 (He.fAd K d_serial.at_) (fdOf K d_serial.at_) ["keys", "deeds"] (sp_serial K) := by
  refine T.f_serial.ok sc_serial (fun vs H Q E h => ?_) (fun cdv A outer s H vs Q E hr h => ?_)
  · obtain ⟨ka, da, keys, sk, ds, deeds, rfl, _⟩ := h
    rfl
  · obtain ⟨ka, da, keys, sk, ds, deeds, rfl, hka, kok, pw, sm, hda, hdp, dok, dl, k⟩ := h
    refine ⟨_, PSs.nox (pss_cons (ps_expr (pe_call (ok_need_keys T) (hr.mono (by decide)) rfl T.g_need_keys T.f_need_keys.kp (b_need_keys T) .nil pass0 (pa_cons (pv 0) pa_nil)))
  (pss_cons (ps_set (i := 2) sc_serial.nd rfl (Or.inl rfl) (pe_lst pa_nil))
  (pss_cons (ps_set (i := 3) sc_serial.nd rfl (Or.inl rfl) (pe_callB cr_sortedI (by rfl) T.b_sorted (by decide +kernel) (pa_cons (pv 0) pa_nil)))
  (pss_cons (ps_for PassesOwn.never rfl (pi_range1 (by rfl) T.b_range (pa_cons (pe_callB call_len_seq (by rfl) T.b_len PySem.boot_len (pa_cons (pv 1) pa_nil)) pa_nil)) (pg_name (i := 4) sc_serial.nd rfl (Or.inl rfl))
  (pss_cons (ps_if (pt_not (pt_val (pe_call (ok_is_deed T) (hr.mono (by decide)) rfl T.g_is_deed T.f_is_deed.kp (b_is_deed T) .nil pass0 (pa_cons (pe_ix ix_list (pv 1) (pv 4) (fun _ _ => rfl)) pa_nil)))) (pss_one ps_never) pss_nil)
  (pss_cons (ps_asg (pe_call (ok_answer T) (hr.mono (by decide)) rfl T.g_answer T.f_answer.kp (b_answer T) .nil pass0 (pa_cons (pv 3) (pa_cons (pe_ix ix_list (pv 1) (pv 4) (fun _ _ => rfl)) pa_nil))) (pg_tup (by rfl) (pgs_cons (pg_name (i := 5) sc_serial.nd rfl (Or.inl rfl)) (pgs_cons (pg_name (i := 3) sc_serial.nd rfl (Or.inl rfl)) pgs_nil))))
  (pss_one (ps_expr (pe_bm PySem.F.plainAttrs_list PySem.F.slot_list_append PySem.F.type_list_append mt_append (pv 2) (pa_cons (pv 5) pa_nil)))))))
  (pss_one (ps_ret (pe_tup (pa_cons (pv 2) (pa_cons (pv 3) pa_nil))))))))), ?_⟩
    have lsk : sk.length = keys.length := (perm_of_mem (lt_nodup pw) kok.nd sm).length_eq
    have lk := kok.len
    have lds := paired_len hdp
    refine ⟨_, rfl, ka, keys, rfl, hka, kok, fun H1 s1 => ?_⟩
    refine ⟨(show 0 ≤ sizeLine by decide), fun f nf => ?_⟩
    have s2 := same_new (o := .lst []) nf
    have nf0 := s1.free nf
    refine ⟨_, rfl, ka, keys, rfl, Same.seq (s1.trans s2) hka, fun ns' n0 hpm hpw nn => ?_⟩
    have en : ns' = sk := sorted_eq (hpm.trans (perm_of_mem (lt_nodup pw) kok.nd sm).symm) hpw (lt_le pw)
    subst en
    have s3 := same_new (o := .lst (ns'.map V.int)) nn
    have s30 := (s1.trans s2).trans s3
    have nn0 := (s1.trans s2).free nn
    have hf3 := s3 _ _ (show upd H1 f (.lst []) f = some (.lst []) from upd_same)
    have hn3 : upd (upd H1 f (.lst [])) n0 (.lst (ns'.map V.int)) n0 = some (.lst (iL ns')) := upd_same
    have hnf : n0 ≠ f := fun z => by rw [z] at nn; have := upd_same (H := H1) (a := f) (o := HO.lst []); rw [nn] at this; cases this
    clear s1 s2 s3 nf nn hpm hpw
    generalize upd (upd H1 f (.lst [])) n0 (.lst (ns'.map V.int)) = H3 at *
    refine ⟨_, rfl, _, _, rfl, .inl (Same.seq s30 hda), _, rfl, by omega, by rw [List.length_map]; omega, ?_⟩
    rw [List.length_map, Int.toNat_natCast, lds]
    refine for_range (fun j σ H4 => ∃ (v1 v2 : Option V) (n : Addr) (xs : List V), σ = [some (.ref ka), some (.ref da), some (.ref f), some (.ref n), v1, v2] ∧ Same H H4 ∧ H4 f = some (.lst xs) ∧ Paired (fun v a => AnsAt H H4 v a ∧ v ≠ .ref f) xs (serialK ns' (deeds.take j)).1 ∧ H n = none ∧ n ≠ f ∧ H4 n = some (.lst (iL (serialK ns' (deeds.take j)).2)))
      ⟨_, _, n0, [], rfl, s30, hf3, .nil, nn0, hnf, hn3⟩ ?_ ?_
    · rintro j σ H4 hj ⟨v1, v2, n, xs, rfl, s4, hf, hp, nn, nef, hn⟩
      have hz : deeds[j]? = some deeds[j] := List.getElem?_eq_getElem hj
      have hdm := dok _ (List.getElem_mem hj)
      generalize deeds[j] = d at *
      obtain ⟨a, ha, had⟩ := paired_get hdp hz
      have had4 : DeedAt K H4 a d := sqT_same s4 had
      have pwn := (serialK_inv ns' pw j (deeds.take j) (by rw [List.length_take]; omega))
      have lx := paired_len hp
      refine ⟨_, rfl, _, rfl, _, _, _, V.ref a, rfl, rfl, Same.seq s4 hda, at_of (j := j) (by omega) (ref_at ha), a, d, rfl, had4, hdm, fun H5 s5 => ⟨_, rfl, iteF ?_⟩⟩
      have s45 := s4.trans s5
      refine ⟨_, rfl, _, rfl, _, rfl, _, _, _, V.ref a, rfl, rfl, Same.seq s45 hda, at_of (j := j) (by omega) (ref_at ha), n, a, _, d, rfl, s5 _ _ hn, sqT_same s5 had4, pwn.1, by omega, fun H6 t k' v s6 nt ht hv hk6 hk' => ?_⟩
      refine ⟨t, _, rfl, SqT.of ht, rfl, _, _, rfl, _, _, rfl, rfl, ?_⟩
      have s06 := s45.trans s6
      have hf6 := s6 _ _ (s5 _ _ hf)
      have nek : k' ≠ f := fun z => by
        rw [z, hf6] at hk'
        rcases hk6 with w | w
        · exact nef (w.symm.trans z)
        · rw [z] at w; have := s5 _ _ hf; rw [w] at this; cases this
      refine ⟨_, rfl, .inl ⟨rfl, _, SqL.of hf6⟩, _, rfl, _, _, _, rfl, rfl, hf6, small64 (by omega), ?_⟩
      rw [take_snoc hz, serialK_snoc]
      have keep : ∀ b o, H6 b = some o → b ≠ f → upd H6 f (.lst (xs ++ [v])) b = some o := fun b o e nb => by rw [upd_ne nb]; exact e
      have old : ∀ {v' : V} {a' : Ans}, AnsAt H H4 v' a' ∧ v' ≠ .ref f → AnsAt H (upd H6 f (.lst (xs ++ [v]))) v' a' ∧ v' ≠ .ref f := fun {v' a'} h => by
        refine ⟨?_, h.2⟩
        cases a' with
        | b x => exact h.1
        | l ys =>
          obtain ⟨⟨q, h1, h2, h3⟩, h4⟩ := h
          exact ⟨q, h1, h2, keep _ _ (s6 _ _ (s5 _ _ h3)) fun z => h4 (by rw [h1, z])⟩
      have new : AnsAt H (upd H6 f (.lst (xs ++ [v]))) v (answerK (serialK ns' (deeds.take j)).2 d).1 ∧ v ≠ .ref f := by
        cases e : (answerK (serialK ns' (deeds.take j)).2 d).1 with
        | b x =>
          rw [e] at hv
          have hv : v = .bl x := hv
          exact ⟨hv, by rw [hv]; simp⟩
        | l ys =>
          rw [e] at hv
          obtain ⟨q, h1, h2, h3⟩ := hv
          have qf : q ≠ f := fun z => by have := s5 _ _ hf; rw [z] at h2; rw [h2] at this; cases this
          exact ⟨⟨q, h1, s45.free h2, keep _ _ h3 qf⟩, by rw [h1]; exact fun z => qf (V.ref.inj z)⟩
      refine ⟨_, _, k', xs ++ [v], rfl, fun b o e => ?_, upd_same, paired_snoc (paired_imp hp fun v a h => old h) new, ?_, nek, keep _ _ hk' nek⟩
      · rw [upd_ne (ne_of_none e nf0)]
        exact s06 _ _ e
      · rcases hk6 with w | w
        · rw [w]; exact nn
        · exact s45.free w
    · rintro σ H4 ⟨v1, v2, n, xs, rfl, s4, hf, hp, nn, nef, hn⟩
      rw [List.take_length] at hp hn
      refine ⟨_, rfl, _, rfl, (show 2 ≤ sizeLine by decide), fun t nt => ?_⟩
      have s5 := same_new (o := .tup [.ref f, .ref n]) nt
      exact k _ t f n xs (s4.trans s5) (s4.free nt) upd_same nf0 (s5 _ _ hf) (paired_imp hp fun v a h => h.1.same s5) nn (s5 _ _ hn)



/-! ### alike -/
theorem ix_or {X : Cx} {r1 r2 : R2} (h1 : IxR X r1) (h2 : IxR X r2) : IxR X (fun x y H Q => r1 x y H Q ∨ r2 x y H Q) :=
  fun value slice pins s σ H x y v u Q I rx ry h e => h.elim (fun h => h1 value slice pins s σ H x y v u Q I rx ry h e) (fun h => h2 value slice pins s σ H x y v u Q I rx ry h e)
/-- the same datum in two places, at most n deep -/
def Lk (H : Hp) : Nat → V → V → Prop
  | 0, _, _ => False
  | n + 1, v, u => (∃ b, v = .bl b ∧ u = .bl b) ∨ (∃ i, v = .int i ∧ u = .int i) ∨ (∃ s, v = .str s ∧ u = .str s ∧ (PyData.str s).canLay0 = true) ∨ (v = .non ∧ u = .non) ∨
    ∃ (p q : Addr) (xs ys : List V), v = .ref p ∧ u = .ref q ∧ ((H p = some (.lst xs) ∧ H q = some (.lst ys)) ∨ (H p = some (.tup xs) ∧ H q = some (.tup ys))) ∧ xs.length = ys.length ∧ xs.length ≤ 5000000 ∧ ∀ (i : Nat) (x y : V), xs[i]? = some x → ys[i]? = some y → Lk H n x y
theorem Lk.same {H H' : Hp} (s : Same H H') : ∀ {n : Nat} {v u : V}, Lk H n v u → Lk H' n v u
  | 0, _, _, h => h
  | n + 1, v, u, h => by
    rcases h with h | h | h | h | ⟨p, q, xs, ys, e1, e2, e3, e4, e5, e6⟩
    · exact .inl h
    · exact .inr (.inl h)
    · exact .inr (.inr (.inl h))
    · exact .inr (.inr (.inr (.inl h)))
    · refine .inr (.inr (.inr (.inr ⟨p, q, xs, ys, e1, e2, ?_, e4, e5, fun i x y hx hy => Lk.same s (e6 i x y hx hy)⟩)))
      rcases e3 with ⟨a, b⟩ | ⟨a, b⟩
      · exact .inl ⟨s _ _ a, s _ _ b⟩
      · exact .inr ⟨s _ _ a, s _ _ b⟩
def sp_l_like (n : Nat) (K : PySem.W.Frag) : Sp := fun vs H Q _ => ∃ v u, vs = [v, u] ∧ Lk H n v u ∧ Q (.bl true) H
abbrev N_l_like : List Str := ["_law_found", "_law_due", "_law_k"]
theorem sc_l_like : FnScope N_l_like ["_law_found", "_law_due"] (defScope s_l_like) := ⟨rfl, rfl, rfl, by decide +kernel, rfl, by decide +kernel, by decide +kernel⟩
theorem b_l_like {w : World} {K : PySem.W.Frag} {mg : Str → Option Value} {base : Heap} (T : Txt w K mg base) : Binds K (fdOf K d_l_like.at_) ["_law_found", "_law_due"] [] := T.f_l_like.bindsN fun _ _ _ _ _ _ us hl => match us, hl with | [_, _], _ => rfl
theorem ok_l_like {P : Program} {w : World} {K : PySem.W.Frag} {mg : Str → Option Value} {base : Heap} (T : Txt w K mg base) : ∀ n : Nat, FnOk P w K mg base CX0 n (He.fAd K d_l_like.at_) (fdOf K d_l_like.at_) ["_law_found", "_law_due"] (sp_l_like n K)
  | 0 => ⟨fun vs H Q E ⟨_, _, _, h, _⟩ => h.elim, fun A outer s H args us vs Q E hr he hb hv ⟨_, _, _, h, _⟩ => h.elim⟩
  | n + 1 => by
    have ih := ok_l_like (P := P) T n
    refine T.f_l_like.ok sc_l_like (fun vs H Q E h => ?_) (fun cdv A outer s H vs Q E hr h => ?_)
    · obtain ⟨v, u, rfl, _⟩ := h
      rfl
    · obtain ⟨v, u, rfl, lk, k⟩ := h
      refine ⟨_, PSs.nox (pss_cons (ps_if (pt_val (pe_callB call_isi (by rfl) T.b_isinstance (by decide +kernel) (pa_cons (pv 1) (pa_cons (pe_bltn (v := .ty "str") (by rfl) T.b_str (by decide +kernel) rfl) pa_nil)))) (pss_one (ps_ret (pe_and (pe_callB call_isi (by rfl) T.b_isinstance (by decide +kernel) (pa_cons (pv 0) (pa_cons (pe_bltn (v := .ty "str") (by rfl) T.b_str (by decide +kernel) rfl) pa_nil))) (pe_one (pe_cmpR (op_eqD hr.units) (pv 0) (pv 1) (nomark _)))))) pss_nil)
  (pss_cons (ps_if (pt_val (pe_callB call_isi (by rfl) T.b_isinstance (by decide +kernel) (pa_cons (pv 1) (pa_cons (pe_bltn (v := .ty "bool") (by rfl) T.b_bool (by decide +kernel) rfl) pa_nil)))) (pss_one (ps_ret (pe_and (pe_callB call_isi (by rfl) T.b_isinstance (by decide +kernel) (pa_cons (pv 0) (pa_cons (pe_bltn (v := .ty "bool") (by rfl) T.b_bool (by decide +kernel) rfl) pa_nil))) (pe_one (pe_cmpR (op_eqD hr.units) (pv 0) (pv 1) (nomark _)))))) pss_nil)
  (pss_cons (ps_if (pt_val (pe_callB call_isi (by rfl) T.b_isinstance (by decide +kernel) (pa_cons (pv 1) (pa_cons (pe_bltn (v := .ty "int") (by rfl) T.b_int (by decide +kernel) rfl) pa_nil)))) (pss_one (ps_ret (pe_and (pe_callB call_isi (by rfl) T.b_isinstance (by decide +kernel) (pa_cons (pv 0) (pa_cons (pe_bltn (v := .ty "int") (by rfl) T.b_int (by decide +kernel) rfl) pa_nil))) (pe_and (pe_not (pe_callB call_isi (by rfl) T.b_isinstance (by decide +kernel) (pa_cons (pv 0) (pa_cons (pe_bltn (v := .ty "bool") (by rfl) T.b_bool (by decide +kernel) rfl) pa_nil)))) (pe_one (pe_cmpR (op_eqD hr.units) (pv 0) (pv 1) (nomark _))))))) pss_nil)
  (pss_cons (ps_if (pt_cmpR op_isN (pv 1) pe_non (nomark _)) (pss_one (ps_ret (pe_cmpR op_isN (pv 0) pe_non (nomark _)))) pss_nil)
  (pss_cons (ps_if (PW.pt (pw_or (pt_cmpR op_ne (pe_callB call_isi (by rfl) T.b_isinstance (by decide +kernel) (pa_cons (pv 1) (pa_cons (pe_bltn (v := .ty "tuple") (by rfl) T.b_tuple (by decide +kernel) rfl) pa_nil))) (pe_callB call_isi (by rfl) T.b_isinstance (by decide +kernel) (pa_cons (pv 0) (pa_cons (pe_bltn (v := .ty "tuple") (by rfl) T.b_tuple (by decide +kernel) rfl) pa_nil))) (nomark _)) (pw_or1 (pt_cmpR op_ne (pe_callB call_isi (by rfl) T.b_isinstance (by decide +kernel) (pa_cons (pv 1) (pa_cons (pe_bltn (v := .ty "list") (by rfl) T.b_list (by decide +kernel) rfl) pa_nil))) (pe_callB call_isi (by rfl) T.b_isinstance (by decide +kernel) (pa_cons (pv 0) (pa_cons (pe_bltn (v := .ty "list") (by rfl) T.b_list (by decide +kernel) rfl) pa_nil))) (nomark _))))) (pss_one (ps_ret pe_bl)) pss_nil)
  (pss_cons (ps_if (pt_cmpR op_ne (pe_callB call_len_seq (by rfl) T.b_len PySem.boot_len (pa_cons (pv 0) pa_nil)) (pe_callB call_len_seq (by rfl) T.b_len PySem.boot_len (pa_cons (pv 1) pa_nil)) (nomark _)) (pss_one (ps_ret pe_bl)) pss_nil)
  (pss_cons (ps_for PassesOwn.never rfl (pi_range1 (by rfl) T.b_range (pa_cons (pe_callB call_len_seq (by rfl) T.b_len PySem.boot_len (pa_cons (pv 1) pa_nil)) pa_nil)) (pg_name (i := 2) sc_l_like.nd rfl (Or.inl rfl))
  (pss_one (ps_if (pt_not (pt_val (pe_call ih (hr.mono (Nat.le_refl _)) rfl T.g_l_like T.f_l_like.kp (b_l_like T) .nil pass0 (pa_cons (pe_ix (ix_or ix_list ix_tup) (pv 0) (pv 2) (fun _ _ => rfl)) (pa_cons (pe_ix (ix_or ix_list ix_tup) (pv 1) (pv 2) (fun _ _ => rfl)) pa_nil))))) (pss_one (ps_ret pe_bl)) pss_nil)))
  (pss_one (ps_ret pe_bl))))))))), ?_⟩
      rcases lk with ⟨b, rfl, rfl⟩ | ⟨i, rfl, rfl⟩ | ⟨z, rfl, rfl, hz⟩ | ⟨rfl, rfl⟩ | ⟨p, q, xs, ys, rfl, rfl, e3, e4, e5, e6⟩
      · refine ⟨_, rfl, _, _, _, _, _, rfl, .ty _, .base (.bl b), kit_ty (by decide +kernel), _, rfl, iteF ?_⟩
        refine ⟨_, rfl, _, _, _, _, _, rfl, .ty _, .base (.bl b), kit_ty (by decide +kernel), _, rfl, iteT ?_⟩
        refine ⟨_, rfl, _, _, _, _, _, rfl, .ty _, .base (.bl b), kit_ty (by decide +kernel), _, rfl, iteT ?_⟩
        refine ⟨_, rfl, _, rfl, .bool b, .bool b, .bl b, .bl b, Flat.bool.shaped (by decide), Flat.bool.shaped (by decide), ?_⟩
        rw [eqv_same Flat.bool]
        exact k
      · refine ⟨_, rfl, _, _, _, _, _, rfl, .ty _, .base (.int i), kit_ty (by decide +kernel), _, rfl, iteF ?_⟩
        refine ⟨_, rfl, _, _, _, _, _, rfl, .ty _, .base (.int i), kit_ty (by decide +kernel), _, rfl, iteF ?_⟩
        refine ⟨_, rfl, _, _, _, _, _, rfl, .ty _, .base (.int i), kit_ty (by decide +kernel), _, rfl, iteT ?_⟩
        refine ⟨_, rfl, _, _, _, _, _, rfl, .ty _, .base (.int i), kit_ty (by decide +kernel), _, rfl, iteT ?_⟩
        refine ⟨_, rfl, _, _, _, _, _, rfl, .ty _, .base (.int i), kit_ty (r := false) (by decide +kernel), _, rfl, _, rfl, iteT ?_⟩
        refine ⟨_, rfl, _, rfl, .int i, .int i, .int i, .int i, Flat.int.shaped (by decide), Flat.int.shaped (by decide), ?_⟩
        rw [eqv_same Flat.int]
        exact k
      · refine ⟨_, rfl, _, _, _, _, _, rfl, .ty _, .base (.str z), kit_ty (by decide +kernel), _, rfl, iteT ?_⟩
        refine ⟨_, rfl, _, _, _, _, _, rfl, .ty _, .base (.str z), kit_ty (by decide +kernel), _, rfl, iteT ?_⟩
        refine ⟨_, rfl, _, rfl, .str z, .str z, .str z, .str z, (Flat.str hz).shaped (by decide), (Flat.str hz).shaped (by decide), ?_⟩
        rw [eqv_same (Flat.str hz)]
        exact k
      · refine ⟨_, rfl, _, _, _, _, _, rfl, .ty _, .base .non, kit_ty (by decide +kernel), _, rfl, iteF ?_⟩
        refine ⟨_, rfl, _, _, _, _, _, rfl, .ty _, .base .non, kit_ty (by decide +kernel), _, rfl, iteF ?_⟩
        refine ⟨_, rfl, _, _, _, _, _, rfl, .ty _, .base .non, kit_ty (by decide +kernel), _, rfl, iteF ?_⟩
        refine ⟨_, rfl, rfl, _, rfl, iteT ?_⟩
        exact ⟨_, rfl, rfl, k⟩
      · rcases e3 with ⟨a, b⟩ | ⟨a, b⟩
        · refine ⟨_, rfl, _, _, _, _, _, rfl, .ty _, .base (.lst b), kit_ty (by decide +kernel), _, rfl, iteF ?_⟩
          refine ⟨_, rfl, _, _, _, _, _, rfl, .ty _, .base (.lst b), kit_ty (by decide +kernel), _, rfl, iteF ?_⟩
          refine ⟨_, rfl, _, _, _, _, _, rfl, .ty _, .base (.lst b), kit_ty (by decide +kernel), _, rfl, iteF ?_⟩
          refine ⟨_, rfl, rfl, _, rfl, ite2 (fun hc => absurd (of_decide_eq_true hc) (by simp)) (fun _ => ?_)⟩
          refine ⟨_, rfl, _, _, _, _, _, rfl, .ty _, .base (.lst b), kit_ty (r := false) (by decide +kernel), _, rfl, _, _, _, _, _, rfl, .ty _, .base (.lst a), kit_ty (r := false) (by decide +kernel), rfl, _, rfl, ite2 (fun hc => absurd hc (by simp)) (fun _ => ?_)⟩
          refine ⟨_, rfl, _, _, _, _, _, rfl, .ty _, .base (.lst b), kit_ty (r := true) (by decide +kernel), _, rfl, _, _, _, _, _, rfl, .ty _, .base (.lst a), kit_ty (r := true) (by decide +kernel), rfl, _, rfl, ite2 (fun hc => absurd hc (by simp)) (fun _ => ?_)⟩
          refine ⟨_, rfl, _, _, rfl, .inl (SqL.of a), _, rfl, _, _, rfl, .inl (SqL.of b), rfl, _, rfl, ?_⟩
          rw [e4]
          refine ite2 (fun hc => by simp at hc) (fun _ => ?_)
          refine ⟨_, rfl, _, _, rfl, .inl (SqL.of b), _, rfl, by omega, by omega, ?_⟩
          rw [Int.toNat_natCast]
          refine for_range (fun i σ H2 => ∃ v : Option V, σ = [some (.ref p), some (.ref q), v] ∧ H2 = H) ⟨_, rfl, rfl⟩ ?_ ?_
          · rintro i σ H2 hi ⟨v, rfl, rfl⟩
            have hy : ys[i]? = some ys[i] := List.getElem?_eq_getElem hi
            have hx : xs[i]? = some (xs[i]'(by rw [e4]; exact hi)) := List.getElem?_eq_getElem _
            refine ⟨_, rfl, _, rfl, .inl ⟨_, _, _, _, rfl, rfl, SqL.of a, at_of (j := i) (by omega) hx, _, rfl, _, rfl, .inl ⟨_, _, _, _, rfl, rfl, SqL.of b, at_of (j := i) (by omega) hy, _, _, rfl, e6 i _ _ hx hy, _, rfl, iteF ⟨_, rfl, rfl⟩⟩⟩⟩
          · rintro σ H2 ⟨v, rfl, rfl⟩
            exact k
        · refine ⟨_, rfl, _, _, _, _, _, rfl, .ty _, .base (.tup b), kit_ty (by decide +kernel), _, rfl, iteF ?_⟩
          refine ⟨_, rfl, _, _, _, _, _, rfl, .ty _, .base (.tup b), kit_ty (by decide +kernel), _, rfl, iteF ?_⟩
          refine ⟨_, rfl, _, _, _, _, _, rfl, .ty _, .base (.tup b), kit_ty (by decide +kernel), _, rfl, iteF ?_⟩
          refine ⟨_, rfl, rfl, _, rfl, ite2 (fun hc => absurd (of_decide_eq_true hc) (by simp)) (fun _ => ?_)⟩
          refine ⟨_, rfl, _, _, _, _, _, rfl, .ty _, .base (.tup b), kit_ty (r := true) (by decide +kernel), _, rfl, _, _, _, _, _, rfl, .ty _, .base (.tup a), kit_ty (r := true) (by decide +kernel), rfl, _, rfl, ite2 (fun hc => absurd hc (by simp)) (fun _ => ?_)⟩
          refine ⟨_, rfl, _, _, _, _, _, rfl, .ty _, .base (.tup b), kit_ty (r := false) (by decide +kernel), _, rfl, _, _, _, _, _, rfl, .ty _, .base (.tup a), kit_ty (r := false) (by decide +kernel), rfl, _, rfl, ite2 (fun hc => absurd hc (by simp)) (fun _ => ?_)⟩
          refine ⟨_, rfl, _, _, rfl, .inr (SqT.of a), _, rfl, _, _, rfl, .inr (SqT.of b), rfl, _, rfl, ?_⟩
          rw [e4]
          refine ite2 (fun hc => by simp at hc) (fun _ => ?_)
          refine ⟨_, rfl, _, _, rfl, .inr (SqT.of b), _, rfl, by omega, by omega, ?_⟩
          rw [Int.toNat_natCast]
          refine for_range (fun i σ H2 => ∃ v : Option V, σ = [some (.ref p), some (.ref q), v] ∧ H2 = H) ⟨_, rfl, rfl⟩ ?_ ?_
          · rintro i σ H2 hi ⟨v, rfl, rfl⟩
            have hy : ys[i]? = some ys[i] := List.getElem?_eq_getElem hi
            have hx : xs[i]? = some (xs[i]'(by rw [e4]; exact hi)) := List.getElem?_eq_getElem _
            refine ⟨_, rfl, _, rfl, .inr ⟨_, _, _, _, rfl, rfl, SqT.of a, at_of (j := i) (by omega) hx, _, rfl, _, rfl, .inr ⟨_, _, _, _, rfl, rfl, SqT.of b, at_of (j := i) (by omega) hy, _, _, rfl, e6 i _ _ hx hy, _, rfl, iteF ⟨_, rfl, rfl⟩⟩⟩⟩
          · rintro σ H2 ⟨v, rfl, rfl⟩
            exact k

/-! ### a plain set's answers -/
def ansU (us : List Int) : Deed → Ans × List Int
  | .walk lo hi => (.l (((List.range (hi + 1 - lo).toNat).map fun (i : Nat) => lo + (i : Int)).filter fun k => decide (k ∈ us)), us)
  | .put k => (.b (!decide (k ∈ us)), (us.filter fun x => decide (x ≠ k)) ++ [k])
  | .take k => (.b (decide (k ∈ us)), us.filter fun x => decide (x ≠ k))
  | .ask k => (.b (decide (k ∈ us)), us)
def sp_l_answer (K : PySem.W.Frag) : Sp := fun vs H Q _ => ∃ (ka da : Addr) (us : List Int) (d : Deed), vs = [.ref ka, .ref da] ∧ H ka = some (.lst (iL us)) ∧ DeedAt K H da d ∧ DeedOk d ∧ us.length ≤ 1000 ∧
  ∀ (H' : Hp) (t k' : Addr) (v : V), Same H H' → H t = none → H' t = some (.tup [v, .ref k']) → AnsAt H H' v (ansU us d).1 → (k' = ka ∨ H k' = none) → H' k' = some (.lst (iL (ansU us d).2)) → Q (.ref t) H'
abbrev N_l_answer : List Str := ["_law_keys_here", "_law_deed_here", "_law_key", "_law_there"]
theorem sc_l_answer : FnScope N_l_answer ["_law_keys_here", "_law_deed_here"] (defScope s_l_answer) := ⟨rfl, rfl, rfl, by decide +kernel, rfl, by decide +kernel, by decide +kernel⟩
theorem b_l_answer {w : World} {K : PySem.W.Frag} {mg : Str → Option Value} {base : Heap} (T : Txt w K mg base) : Binds K (fdOf K d_l_answer.at_) ["_law_keys_here", "_law_deed_here"] [] := T.f_l_answer.bindsN fun _ _ _ _ _ _ us hl => match us, hl with | [_, _], _ => rfl
theorem ok_l_answer {P : Program} {w : World} {K : PySem.W.Frag} {mg : Str → Option Value} {base : Heap} (T : Txt w K mg base) : FnOk P w K mg base CX0 1 (He.fAd K d_l_answer.at_) (fdOf K d_l_answer.at_) ["_law_keys_here", "_law_deed_here"] (sp_l_answer K) := by
  refine T.f_l_answer.ok sc_l_answer (fun vs H Q E h => ?_) (fun cdv A outer s H vs Q E hr h => ?_)
  · obtain ⟨ka, da, us, d, rfl, _⟩ := h
    rfl
  · obtain ⟨ka, da, us, d, rfl, hk, hd, dok, lk, k⟩ := h
    refine ⟨_, PSs.nox (pss_cons (ps_if (pt_cmpR op_eq (pe_ix ix_tup (pv 1) pe_int (fun _ _ => rfl)) pe_str (nomark _)) (pss_one (ps_ret (pe_tup (pa_cons (pe_lc (own := [("_law_key", 2)]) (g := gName 2) rfl sc_l_answer.nd (pi_range2 (by rfl) T.b_range (pa_cons (pe_ix ix_tup (pv 1) pe_int (fun _ _ => rfl)) (pa_cons (pe_op op_add (pe_ix ix_tup (pv 1) pe_int (fun _ _ => rfl)) pe_int) pa_nil))) (blkOk_by (own := [("_law_key", 2)]) (N := N_l_answer) (sc := defScope s_l_answer) (by decide +kernel)) (fun _ _ _ _ _ => pg_name (i := 2) sc_l_answer.nd rfl (Or.inl rfl)) (fun _ _ _ _ _ => pts_one (pt_cmpR (op_in_seqB (K := K) rfl) (pv 2) (pv 0) (by rfl))) (fun _ _ _ _ _ => (pv 2))) (pa_cons (pv 0) pa_nil))))) pss_nil)
  (pss_cons (ps_set (i := 3) sc_l_answer.nd rfl (Or.inl rfl) (pe_cmpR op_in_seq (pe_ix ix_tup (pv 1) pe_int (fun _ _ => rfl)) (pv 0) (by rfl)))
  (pss_cons (ps_if (pt_cmpR op_eq (pe_ix ix_tup (pv 1) pe_int (fun _ _ => rfl)) pe_str (nomark _)) (pss_one (ps_ret (pe_tup (pa_cons (pe_not (pv 3)) (pa_cons (pe_op op_cat (pe_lc (own := [("_law_key", 2)]) (g := gName 2) rfl sc_l_answer.nd (pi_list (pv 0)) (blkOk_by (own := [("_law_key", 2)]) (N := N_l_answer) (sc := defScope s_l_answer) (by decide +kernel)) (fun _ _ _ _ _ => pg_name (i := 2) sc_l_answer.nd rfl (Or.inl rfl)) (fun _ _ _ _ _ => pts_one (pt_cmpR op_ne (pv 2) (pe_ix (ix_tupB (K := K) rfl) (pv 1) pe_int (fun _ _ => rfl)) (nomark _))) (fun _ _ _ _ _ => (pv 2))) (pe_lst (pa_cons (pe_ix ix_tup (pv 1) pe_int (fun _ _ => rfl)) pa_nil))) pa_nil))))) pss_nil)
  (pss_cons (ps_if (pt_cmpR op_eq (pe_ix ix_tup (pv 1) pe_int (fun _ _ => rfl)) pe_str (nomark _)) (pss_one (ps_ret (pe_tup (pa_cons (pv 3) (pa_cons (pe_lc (own := [("_law_key", 2)]) (g := gName 2) rfl sc_l_answer.nd (pi_list (pv 0)) (blkOk_by (own := [("_law_key", 2)]) (N := N_l_answer) (sc := defScope s_l_answer) (by decide +kernel)) (fun _ _ _ _ _ => pg_name (i := 2) sc_l_answer.nd rfl (Or.inl rfl)) (fun _ _ _ _ _ => pts_one (pt_cmpR op_ne (pv 2) (pe_ix (ix_tupB (K := K) rfl) (pv 1) pe_int (fun _ _ => rfl)) (nomark _))) (fun _ _ _ _ _ => (pv 2))) pa_nil))))) pss_nil)
  (pss_one (ps_ret (pe_tup (pa_cons (pv 3) (pa_cons (pv 0) pa_nil))))))))), ?_⟩
    have ha : SqT K H da (deedV d) := hd
    have no : ∀ {a b : Str}, a ≠ b → decide (V.str a = V.str b) = false := fun {a b} n => decide_eq_false fun z => n (V.str.inj z)
    have yes : ∀ {a : Str}, decide (V.str a = V.str a) = true := decide_eq_true rfl
    refine ⟨_, rfl, _, _, _, V.str (deedW d), rfl, rfl, ha, at_of (j := 0) rfl (by cases d <;> rfl), rfl, _, rfl, ?_⟩
    cases d with
    | walk lo hi =>
      have r1 : 0 ≤ lo := dok.1
      have r2 := dok.2.2 lo hi rfl
      rw [show decide (V.str (deedW (.walk lo hi)) = V.str "walk") = true from yes]
      refine iteT ⟨_, rfl, _, _, _, V.int lo, rfl, rfl, ha, at_of (j := 1) rfl rfl, _, rfl, _, _, _, V.int hi, rfl, rfl, ha, at_of (j := 2) rfl rfl, _, _, rfl, rfl, ?_⟩
      refine ⟨_, _, rfl, ⟨by omega, by omega, by omega, by omega⟩, fun D nD => ?_⟩
      refine lc_range (fun j H2 => Same H H2 ∧ H2 D = some (.lst (iL (((List.range j).map fun (i : Nat) => lo + (i : Int)).filter fun k => decide (k ∈ us))))) ⟨same_new nD, upd_same⟩ ?_ ?_
      · rintro j H2 hj ⟨s, hD⟩
        rw [List.range_succ, List.map_append, List.filter_append]
        have hl := List.length_filter_le (fun k => decide (k ∈ us)) ((List.range j).map fun (i : Nat) => lo + (i : Int))
        rw [List.length_map, List.length_range] at hl
        refine ⟨rfl, _, rfl, _, rfl, _, _, rfl, .inl (SqL.of (s _ _ hk)), rfl, flat_iL _, _, rfl, ?_⟩
        rw [show (if false = true then !inV (V.int (lo + (j : Int))) (iL us) else inV (V.int (lo + (j : Int))) (iL us)) = decide (lo + (j : Int) ∈ us) from inV_int]
        refine ite2 (fun c => ?_) (fun c => ?_)
        · refine ⟨_, rfl, _, hD, small64 (by rw [len_iL]; omega), fun b o e => by rw [upd_ne (ne_of_none e nD)]; exact s _ _ e, ?_⟩
          rw [upd_same, List.map_cons, List.filter_cons, if_pos c]
          simp [iL]
        · refine ⟨s, ?_⟩
          rw [hD, List.map_cons, List.filter_cons, if_neg c]
          simp
      · rintro H2 ⟨s, hD⟩
        refine ⟨_, rfl, (show 2 ≤ sizeLine by decide), fun t nt => ?_⟩
        have s2 := same_new (o := .tup [.ref D, .ref ka]) nt
        exact k _ t ka _ (s.trans s2) (s.free nt) upd_same ⟨D, rfl, nD, s2 _ _ hD⟩ (.inl rfl) (s2 _ _ (s _ _ hk))
    | put x =>
      rw [show decide (V.str (deedW (.put x)) = V.str "walk") = false from no (show Str.ofString "put" ≠ Str.ofString "walk" by decide +kernel)]
      refine iteF ⟨_, rfl, _, _, _, V.int x, rfl, rfl, ha, at_of (j := 1) rfl rfl, _, rfl, _, _, rfl, .inl (SqL.of hk), rfl, flat_iL _, ?_⟩
      refine ⟨_, rfl, _, _, _, V.str (deedW (.put x)), rfl, rfl, ha, at_of (j := 0) rfl rfl, rfl, _, rfl, ?_⟩
      rw [show decide (V.str (deedW (.put x)) = V.str "put") = true from yes]
      rw [show (if false = true then !inV (V.int x) (iL us) else inV (V.int x) (iL us)) = decide (x ∈ us) from inV_int]
      refine iteT ⟨_, rfl, _, rfl, _, rfl, ka, rfl, ⟨_, SqL.of hk⟩, fun D nD => ?_⟩
      refine lc_list (K := K) (a := ka) (xs := iL us) (fun j H2 => Same H H2 ∧ H2 D = some (.lst (iL ((us.take j).filter fun y => decide (y ≠ x))))) ⟨same_new nD, upd_same⟩ (fun j H2 _ z => SqL.of (z.1 _ _ hk)) ?_ ?_
      · rintro j y H2 hj ⟨s, hD⟩
        obtain ⟨z, hz, rfl⟩ := iL_get hj
        have ha2 := sqT_same s ha
        rw [take_snoc hz, List.filter_append]
        have hl := List.length_filter_le (fun y => decide (y ≠ x)) (us.take j)
        rw [List.length_take] at hl
        refine ⟨rfl, _, rfl, _, rfl, _, _, _, V.int x, rfl, rfl, ha2, at_of (j := 1) rfl rfl, rfl, _, rfl, ?_⟩
        by_cases c2 : z = x
        · rw [c2, decide_eq_true rfl]
          refine iteF ⟨s, ?_⟩
          rw [hD, List.filter_cons, if_neg (by simp)]
          simp
        · rw [decide_eq_false (fun w => c2 (V.int.inj w))]
          refine iteT ⟨_, rfl, _, hD, small64 (by rw [len_iL]; omega), fun b o e => by rw [upd_ne (ne_of_none e nD)]; exact s _ _ e, ?_⟩
          rw [upd_same, List.filter_cons, if_pos (decide_eq_true c2)]
          simp [iL]
      rintro H2 ⟨s, hD⟩
      rw [len_iL, List.take_length] at hD
      have ha2 := sqT_same s ha
      have hl := List.length_filter_le (fun y => decide (y ≠ x)) us
      refine ⟨_, rfl, _, _, _, V.int x, rfl, rfl, ha2, at_of (j := 1) rfl rfl, (show 1 ≤ sizeLine by decide), fun q1 m1 => ?_⟩
      have t1 := same_new (o := .lst [V.int x]) m1
      refine ⟨_, _, _, _, rfl, rfl, t1 _ _ hD, upd_same, Nat.le_trans (m := 5000) (by rw [len_iL]; simp only [List.length_singleton]; omega) (by decide), fun q2 m2 => ?_⟩
      have e2 : (iL (us.filter fun y => decide (y ≠ x))) ++ [V.int x] = iL ((us.filter fun y => decide (y ≠ x)) ++ [x]) := by simp [iL]
      rw [e2]
      have t2 := same_new (o := .lst (iL ((us.filter fun y => decide (y ≠ x)) ++ [x]))) m2
      refine ⟨(show 2 ≤ sizeLine by decide), fun t nt => ?_⟩
      have t3 := same_new (o := .tup [.bl (!decide (x ∈ us)), .ref q2]) nt
      exact k _ t q2 _ (((s.trans t1).trans t2).trans t3) (((s.trans t1).trans t2).free nt) upd_same rfl (.inr ((s.trans t1).free m2)) (t3 _ _ upd_same)
    | take x =>
      rw [show decide (V.str (deedW (.take x)) = V.str "walk") = false from no (show Str.ofString "take" ≠ Str.ofString "walk" by decide +kernel)]
      refine iteF ⟨_, rfl, _, _, _, V.int x, rfl, rfl, ha, at_of (j := 1) rfl rfl, _, rfl, _, _, rfl, .inl (SqL.of hk), rfl, flat_iL _, ?_⟩
      refine ⟨_, rfl, _, _, _, V.str (deedW (.take x)), rfl, rfl, ha, at_of (j := 0) rfl rfl, rfl, _, rfl, ?_⟩
      rw [show decide (V.str (deedW (.take x)) = V.str "put") = false from no (show Str.ofString "take" ≠ Str.ofString "put" by decide +kernel)]
      refine iteF ⟨_, rfl, _, _, _, V.str (deedW (.take x)), rfl, rfl, ha, at_of (j := 0) rfl rfl, rfl, _, rfl, ?_⟩
      rw [show decide (V.str (deedW (.take x)) = V.str "take") = true from yes]
      rw [show (if false = true then !inV (V.int x) (iL us) else inV (V.int x) (iL us)) = decide (x ∈ us) from inV_int]
      refine iteT ⟨_, rfl, _, rfl, ka, rfl, ⟨_, SqL.of hk⟩, fun D nD => ?_⟩
      refine lc_list (K := K) (a := ka) (xs := iL us) (fun j H2 => Same H H2 ∧ H2 D = some (.lst (iL ((us.take j).filter fun y => decide (y ≠ x))))) ⟨same_new nD, upd_same⟩ (fun j H2 _ z => SqL.of (z.1 _ _ hk)) ?_ ?_
      · rintro j y H2 hj ⟨s, hD⟩
        obtain ⟨z, hz, rfl⟩ := iL_get hj
        have ha2 := sqT_same s ha
        rw [take_snoc hz, List.filter_append]
        have hl := List.length_filter_le (fun y => decide (y ≠ x)) (us.take j)
        rw [List.length_take] at hl
        refine ⟨rfl, _, rfl, _, rfl, _, _, _, V.int x, rfl, rfl, ha2, at_of (j := 1) rfl rfl, rfl, _, rfl, ?_⟩
        by_cases c2 : z = x
        · rw [c2, decide_eq_true rfl]
          refine iteF ⟨s, ?_⟩
          rw [hD, List.filter_cons, if_neg (by simp)]
          simp
        · rw [decide_eq_false (fun w => c2 (V.int.inj w))]
          refine iteT ⟨_, rfl, _, hD, small64 (by rw [len_iL]; omega), fun b o e => by rw [upd_ne (ne_of_none e nD)]; exact s _ _ e, ?_⟩
          rw [upd_same, List.filter_cons, if_pos (decide_eq_true c2)]
          simp [iL]
      rintro H2 ⟨s, hD⟩
      rw [len_iL, List.take_length] at hD
      refine ⟨(show 2 ≤ sizeLine by decide), fun t nt => ?_⟩
      have t3 := same_new (o := .tup [.bl (decide (x ∈ us)), .ref D]) nt
      exact k _ t D _ (s.trans t3) (s.free nt) upd_same rfl (.inr nD) (t3 _ _ hD)
    | ask x =>
      rw [show decide (V.str (deedW (.ask x)) = V.str "walk") = false from no (show Str.ofString "ask" ≠ Str.ofString "walk" by decide +kernel)]
      refine iteF ⟨_, rfl, _, _, _, V.int x, rfl, rfl, ha, at_of (j := 1) rfl rfl, _, rfl, _, _, rfl, .inl (SqL.of hk), rfl, flat_iL _, ?_⟩
      refine ⟨_, rfl, _, _, _, V.str (deedW (.ask x)), rfl, rfl, ha, at_of (j := 0) rfl rfl, rfl, _, rfl, ?_⟩
      rw [show decide (V.str (deedW (.ask x)) = V.str "put") = false from no (show Str.ofString "ask" ≠ Str.ofString "put" by decide +kernel)]
      refine iteF ⟨_, rfl, _, _, _, V.str (deedW (.ask x)), rfl, rfl, ha, at_of (j := 0) rfl rfl, rfl, _, rfl, ?_⟩
      rw [show decide (V.str (deedW (.ask x)) = V.str "take") = false from no (show Str.ofString "ask" ≠ Str.ofString "take" by decide +kernel)]
      rw [show (if false = true then !inV (V.int x) (iL us) else inV (V.int x) (iL us)) = decide (x ∈ us) from inV_int]
      refine iteF ⟨_, rfl, _, rfl, (show 2 ≤ sizeLine by decide), fun t nt => ?_⟩
      have s2 := same_new (o := .tup [.bl (decide (x ∈ us)), .ref ka]) nt
      exact k _ t ka _ s2 nt upd_same rfl (.inl rfl) (s2 _ _ hk)

/-! ### weavings with other keys -/
theorem INV.turn_map {f : Int → Int} (m : Mono f) {M : Mc} {g : Gh} {mu : Nat → Nat} (I : INV M g mu) {h : Nat} (hh : h < M.n) : (mcM f M).turn h = (mcM f (M.turn h).1, toldM f (M.turn h).2) := by
  refine turn_mapM m (I.hand h hh).le fun k a b hr hw hne hd l0 hfl => ?_
  have lt : (M.ha h).at_ < (M.ha h).prog.length := by
    have := (I.hand h hh).le
    unfold Mc.rests at hr
    have := of_decide_eq_false hr
    omega
  obtain ⟨d, wo⟩ := (I.turnOk hh).work hr hw hne
  have ed : d = .take k := by
    have e1 := wo.deed
    rw [(deed_mem lt).1, hd] at e1
    exact (Option.some.inj e1).symm
  have mo := (wo.take k ed l0).two a b hfl
  obtain ⟨u, p1, p2, a0, hu, ha, hb, _, _, ma, mb, _, len, adj, _⟩ := mo.pg
  have lies := mo.lies
  intro left right hl hr2
  rw [Fo.pg_of hu] at hl hr2 ⊢
  by_cases c : u.kids.idxOf (M.lastP h) < u.kids.idxOf b
  · rw [if_pos c] at hl hr2
    subst hl; subst hr2
    have := List.idxOf_lt_length_of_mem ma
    exact ⟨by omega, lies.symm⟩
  · rw [if_neg c] at hl hr2
    subst hl; subst hr2
    have := List.idxOf_lt_length_of_mem mb
    exact ⟨by omega, lies⟩
theorem INV.run_map {f : Int → Int} (m : Mono f) : ∀ {ws : List Int} {M : Mc} {g : Gh} {mu : Nat → Nat}, INV M g mu → (∀ w ∈ ws, 0 ≤ w ∧ w < (M.n : Nat)) → (mcM f M).run ws = (mcM f (M.run ws).1, (M.run ws).2.map (toldM f))
  | [], _, _, _, _, _ => rfl
  | a :: r, M, g, mu, I, h => by
    have ha := h a (by simp)
    have e := I.turn_map m (h := a.toNat) (by omega)
    obtain ⟨g1, mu1, I1, e1, _⟩ := I.turn (h := a.toNat) (by omega)
    show (((mcM f M).turn a.toNat).1.run r |>.1, ((mcM f M).turn a.toNat).2 :: (((mcM f M).turn a.toNat).1.run r).2) = _
    rw [e]
    dsimp only
    rw [INV.run_map m (ws := r) I1 fun w hw => by rw [e1]; exact h w (by simp [hw])]
    rfl
theorem done_map {f : Int → Int} {M : Mc} : (mcM f M).done = M.done := by
  unfold Mc.done
  show (List.range M.n).all (mcM f M).rests = _
  congr 1
  funext h
  unfold Mc.rests
  rw [decide_eq_decide]
  show (M.ha h).at_ = ((M.ha h).prog.map (deedM f)).length ↔ _
  rw [List.length_map]
theorem run1_map {f : Int → Int} (m : Mono f) : ∀ {k : Nat} {M : Mc} {g : Gh} {mu : Nat → Nat}, INV M g mu → M.n = 1 → run1 k (mcM f M) = mcM f (run1 k M)
  | 0, _, _, _, _, _ => rfl
  | k + 1, M, g, mu, I, h1 => by
    show (if (mcM f M).done = true then mcM f M else run1 k ((mcM f M).turn 0).1) = mcM f (if M.done = true then M else run1 k (M.turn 0).1)
    rw [done_map]
    by_cases c : M.done = true
    · rw [if_pos c, if_pos c]
    · rw [if_neg c, if_neg c, I.turn_map m (by omega)]
      obtain ⟨g1, mu1, I1, e1, _⟩ := I.turn (h := 0) (by omega)
      exact run1_map m I1 (e1.trans h1)
theorem mc0_map {f : Int → Int} {left : Bool} {ps : List (List Deed)} {F : Fo} : mc0 left (ps.map fun p => p.map (deedM f)) (foM f F) = mcM f (mc0 left ps F) := by
  unfold mc0 mcM
  simp only [Mc.mk.injEq, true_and, List.length_map]
  funext i
  unfold ha0 haM
  simp only [Ha.mk.injEq, and_true, List.map_nil]
  rw [List.getD_eq_getElem?_getD, List.getD_eq_getElem?_getD, List.getElem?_map]
  cases ps[i]? <;> rfl
theorem begun_map {f : Int → Int} (m : Mono f) {left : Bool} {keys : List Int} (hk : KeysOk keys) : begun left (keys.map f) = mcM f (begun left keys) := by
  obtain ⟨g, mu, I, h1, _⟩ := begin0 left hk
  unfold begun
  have e : mc0 left [(keys.map f).map Deed.put] fo0 = mcM f (mc0 left [keys.map Deed.put] fo0) := by
    rw [← mc0_map]
    have e1 : foM f fo0 = fo0 := by
      unfold foM fo0
      simp only [Fo.mk.injEq, and_true]
      funext n
      by_cases c : n = 1
      · rw [if_pos c]; rfl
      · rw [if_neg c]; rfl
    rw [e1]
    congr 1
    show [(keys.map f).map Deed.put] = [(keys.map Deed.put).map (deedM f)]
    rw [List.map_map, List.map_map]
    rfl
  rw [e, List.length_map, run1_map m I h1]
theorem start_map {f : Int → Int} (m : Mono f) {left : Bool} {keys : List Int} {progs : List (List Deed)} (hk : KeysOk keys) : startM left (keys.map f) (progs.map fun p => p.map (deedM f)) = mcM f (startM left keys progs) := by
  unfold startM
  rw [begun_map m hk, ← mc0_map]
  rfl

/-! ### max of a tuple of ints -/
section
variable {prog : Program} {w : World} {A : Around} {E : Value → Shared → Prop} {s : Shared} {l : Addr} {xs : Array (Int × Tok)}
theorem iter_intTup {Q : Value → Shared → Prop} (hl : s.heap.IsTuple l (PySem.intItems xs))
    (h : ∀ s₂ : Shared, s₂ = { s with heap := s.heap.push { cls := .type "tuple_iterator", data := .fields #[.ref l, .int 0 0] } } →
      (s₂.heap.IsTupleIter s.heap.objs.size l 0 ∧ s₂.heap.IsTuple l (PySem.intItems xs)) → (∀ b ∈ [s.heap.objs.size, l], b < s₂.heap.objs.size) → l ≠ s.heap.objs.size → Q (.ref s.heap.objs.size) s₂) :
    wpAny (model prog w) A (pyIter (.ref l)) Q E s := by
  have hlt : l < s.heap.objs.size := by obtain ⟨_, e, _⟩ := hl; exact Heap.lt_size e
  refine PySem.wpAny_pyIter_tuple hl (h _ rfl ⟨⟨_, Heap.get?_push_size _ rfl, rfl, rfl⟩, hl.push _⟩ (fun b hb => ?_) (Nat.ne_of_lt hlt))
  show b < (s.heap.push _).objs.size
  rw [Heap.size_push]
  rcases List.mem_cons.mp hb with rfl | hb
  · exact Nat.lt_succ_self _
  · rcases List.mem_cons.mp hb with rfl | hb
    · exact Nat.lt_succ_of_lt hlt
    · cases hb
theorem old_keptT {h' : Heap} (hk : ∀ b o, b ∉ [s.heap.objs.size] → (s.heap.push { cls := .type "tuple_iterator", data := .fields #[.ref l, .int 0 0] }).get? b = some o → h'.get? b = some o) :
    ∀ b o, s.heap.get? b = some o → h'.get? b = some o := fun b o e => hk b o (fun hb => absurd (Heap.lt_size e) ((List.mem_singleton.mp hb) ▸ Nat.lt_irrefl _)) (Heap.get?_push_of_some _ e)
theorem max_intTup {Q : Value → Shared → Prop} (hh : A.handled = none) (hl : s.heap.IsTuple l (PySem.intItems xs)) (hne : 0 < xs.size)
    (h : ∀ v h' tk, (PySem.intItems xs)[PySem.argBest (fun i j => decide (PySem.numAt xs i > PySem.numAt xs j)) (xs.size - 1)]? = some v → (∀ b o, s.heap.get? b = some o → h'.get? b = some o) → Q v { s with heap := h', toks := tk }) :
    wpAny (model prog w) A (call (.builtin "max") [.ref l]) Q E s := by
  refine PySem.call_max_walk (iter_intTup hl fun s₂ e st hfp hlI => ?_)
  subst e
  refine ⟨_, _, _, _, _, _, _, rfl, PySem.Walks.tuple (A := A.in1) hh _ l hlI (PySem.intItems xs), st, hfp, by simpa [PySem.intItems] using hne, PySem.CmpOf.ints_gt (PySem.numAt xs) (fun _ _ => PySem.intItems_at), fun v h' tk hP hk => ?_⟩
  exact h v h' tk (by simpa [PySem.intItems] using hP) (old_keptT hk)
end
theorem max_rawT {prog : Program} {w : World} {A : Around} {E : Value → Shared → Prop} {s : Shared} {l : Addr} {its : List Value} {ns : List Int} {Q : Value → Shared → Prop} (hh : A.handled = none) (hl : s.heap.IsTuple l its.toArray) (hi : IntsAre its ns) (hne : 0 < ns.length)
    (h : ∀ h' tk M t', (∀ b o, s.heap.get? b = some o → h'.get? b = some o) → M ∈ ns → (∀ a, a ∈ ns → a ≤ M) → Q (.int M t') { s with heap := h', toks := tk }) : wpAny (model prog w) A (call (.builtin "max") [.ref l]) Q E s := by
  obtain ⟨xs, e⟩ := hi.allInts.items
  have hn : numsOf (PySem.intItems xs).toList = ns := by rw [← e]; exact hi.numsOf
  rw [nums_intItems] at hn
  subst hn
  rw [e] at hl
  have hsz : 0 < xs.size := by simpa using hne
  refine max_intTup hh hl hsz fun v h' tk hv hk => ?_
  obtain ⟨t, rfl⟩ := PySem.intItems_at hv
  obtain ⟨h1, h2⟩ := PySem.argBest_gt (PySem.numAt xs) (xs.size - 1)
  refine h h' tk _ t hk ?_ fun a ha => ?_
  · rw [numAt_eq]; exact PySem.getD_mem (by rw [List.length_map, Array.length_toList]; omega)
  · obtain ⟨j, hj, rfl⟩ := mem_getD ha
    rw [List.length_map, Array.length_toList] at hj
    rw [← numAt_eq]; exact h2 j (by omega)
theorem cr_maxT {X : Cx} {K : PySem.W.Frag} (hK : X.K = K) (hc : X.calm = true) : CallR X (.builtin "max") (fun vs H Q => ∃ (a : Addr) (ns : List Int), vs = [V.ref a] ∧ SqT K H a (iL ns) ∧ 0 < ns.length ∧ ∀ m, m ∈ ns → (∀ y, y ∈ ns → y ≤ m) → Q (.int m) H) := by
  subst hK
  intro pins s σ H vs us Q I r h
  obtain ⟨a, ns, rfl, hs, hne, q⟩ := h
  obtain ⟨its, rv, hl, _⟩ := I.tuple hs
  rw [Vals.ref1 r]
  exact max_rawT (I.ok.hd hc) hl rv.ints hne fun h' tk m t' hk h1 h2 => ⟨.int _, H, I.kept hk, ⟨_, rfl⟩, q m h1 h2⟩
theorem sl_tupB {X : Cx} {K : PySem.W.Frag} (hK : X.K = K) : SlR X (rSlT K) := hK ▸ sl_tup

/-! ### how long a walk's answer is -/
theorem flat3_len {f : Int → List Int} (h : ∀ p, (f p).length ≤ 3) : ∀ ps : List Int, (ps.flatMap f).length ≤ 3 * ps.length
  | [] => by simp
  | p :: ps => by
    rw [List.flatMap_cons, List.length_append, List.length_cons]
    have := h p
    have := flat3_len h ps
    omega
theorem ends_inj {a b : Ans} (h : Told.ends a = Told.ends b) : a = b := by injection h
theorem walk_len {M : Mc} {h : Nat} {lo hi : Int} {xs : List Int} (nd : (M.ha h).held.Nodup) (hr : ∀ p, (M.fo.pg p).row.length ≤ 3) (e : (M.walk h lo hi).2 = .ends (.l xs)) : xs.length ≤ 3 * (M.ha h).held.length := by
  have fin : Told.ends (.l (((M.leave h ((M.ha h).held.filter (isUpper M.fo))).ha h).held.flatMap fun p => (M.fo.pg p).row.filter fun k => decide (lo ≤ k ∧ k ≤ hi))) = Told.ends (.l xs) → xs.length ≤ 3 * (M.ha h).held.length := fun e => by
    have e2 := ends_inj e
    injection e2 with e3
    rw [← e3]
    refine Nat.le_trans (flat3_len (fun p => Nat.le_trans (List.length_filter_le _ _) (hr p)) _) ?_
    rw [leave_held nd]
    have := List.length_filter_le (fun x => decide (x ∉ (M.ha h).held.filter (isUpper M.fo))) (M.ha h).held
    omega
  unfold Mc.walk at e
  dsimp only at e
  cases hn : (M.fo.pg (M.lastP h)).nxt with
  | none =>
    rw [hn] at e
    exact fin e
  | some m =>
    rw [hn] at e
    dsimp only at e
    split at e
    · cases e
    · exact fin e
theorem down_told {M : Mc} {h : Nat} {an : Ans} (e : (M.down h).2 = .ends an) : False := by
  unfold Mc.down Mc.goes at e
  cases e
theorem put_told {M : Mc} {h : Nat} {k : Int} {xs : List Int} (e : (M.put h k).2 = .ends (.l xs)) : False := by
  unfold Mc.put at e
  dsimp only at e
  split at e
  · split at e <;> cases e
  · split at e
    · exact down_told e
    · split at e <;> cases e
theorem mend_told {M : Mc} {h : Nat} {u a b k : Int} {an : Ans} (e : (M.mend h u a b k).2 = .ends an) : False := by
  unfold Mc.mend at e
  dsimp only at e
  repeat' split at e
  all_goals cases e
theorem nb_told {M : Mc} {h : Nat} {u a : Int} {an : Ans} (e : (M.neighbour h u a).2 = .ends an) : False := by
  unfold Mc.neighbour at e
  dsimp only at e
  split at e <;> cases e
theorem take_told {M : Mc} {h : Nat} {k : Int} {xs : List Int} (e : (M.take h k).2 = .ends (.l xs)) : False := by
  unfold Mc.take at e
  dsimp only at e
  split at e
  · exact mend_told e
  · split at e
    · exact nb_told e
    · split at e
      · split at e <;> cases e
      · split at e
        · cases e
        · exact down_told e
theorem turn_len {M : Mc} (S : Safe M) {h : Nat} (hh : h < M.n) {xs : List Int} (e : (M.turn h).2 = .ends (.l xs)) : xs.length ≤ 2400003 := by
  have nd := S.nd h hh
  have hr : ∀ p, (M.fo.pg p).row.length ≤ 3 := fun p => by
    cases hp : M.fo.pages p with
    | none =>
      unfold Fo.pg
      rw [hp]
      exact Nat.zero_le _
    | some q =>
      rw [Fo.pg_of hp]
      exact (S.pg p q hp).2.2.1
  have hl := S.held hh
  unfold Mc.turn at e
  split at e
  · cases e
  · split at e
    · split at e <;> cases e
    · split at e
      · cases e
      · unfold Mc.work at e
        dsimp only at e
        split at e
        · cases e
        · split at e
          · exact (put_told e).elim
          · exact (take_told e).elim
          · split at e
            · cases e
            · exact (down_told e).elim
          · split at e
            · have := walk_len nd hr e
              omega
            · exact (down_told e).elim
theorem big64 {n : Nat} (h : n ≤ 2400003) : n < sizeLine := Nat.lt_of_le_of_lt h (by decide)

/-! ### all kept but the dice -/
structure Kp (K : PySem.W.Frag) (H H' : Hp) (d : Addr) : Prop where
  fr : ∀ b o, H b = some o → b ≠ d → (∀ ps, o ≠ .tbl ps) → H' b = some o
  dm : ∀ b, H' b = none → H b = none
  ta : TabsOk K H → TabsOk K H'
theorem Kp.refl (K : PySem.W.Frag) (H : Hp) (d : Addr) : Kp K H H d := ⟨fun _ _ h _ _ => h, fun _ h => h, id⟩
theorem Kp.trans {K : PySem.W.Frag} {H H1 H2 : Hp} {d : Addr} (a : Kp K H H1 d) (b : Kp K H1 H2 d) : Kp K H H2 d := ⟨fun c o h n t => b.fr c o (a.fr c o h n t) n t, fun c h => a.dm c (b.dm c h), fun h => b.ta (a.ta h)⟩
theorem Kp.same {K : PySem.W.Frag} {H H' : Hp} {d : Addr} (s : Same H H') : Kp K H H' d := ⟨fun b o h _ _ => s b o h, fun b h => s.free h, TabsOk.same s⟩
theorem Kp.stp {K : PySem.W.Frag} {H H' : Hp} {d : Addr} {f : Addr → Prop} (S : Stp K H H' noF f) : Kp K H H' d := ⟨fun b o h _ t => S.fr b o h (fun z => z) t, S.dm, S.ta⟩
theorem Kp.dst {K : PySem.W.Frag} {H0 H H' : Hp} {d : Addr} (D : Dice K H0 H d) (S : Dst H H' d) : Kp K H H' d := ⟨fun b o h n _ => S.fr b o h n, S.dm, S.tabs D⟩
theorem Kp.lst {K : PySem.W.Frag} {H H' : Hp} {d a : Addr} {xs : List V} (S : Kp K H H' d) (n : a ≠ d) (h : H a = some (.lst xs)) : H' a = some (.lst xs) := S.fr _ _ h n fun ps z => by cases z
theorem Kp.tup {K : PySem.W.Frag} {H0 H H' : Hp} {d a : Addr} {xs : List V} (S : Kp K H H' d) (D : Dice K H0 H d) (h : H a = some (.tup xs)) : H' a = some (.tup xs) := S.fr _ _ h (fun z => by
  obtain ⟨ys, hys, _⟩ := D.ref0
  rw [z, hys] at h; cases h) fun ps z => by cases z
theorem Kp.progs {K : PySem.W.Frag} {H0 H H1 H2 : Hp} {d p : Addr} {as : List Addr} {ps : List (List Deed)} (h : ProgsNew K H H1 p as ps) (D : Dice K H0 H d) (D1 : Dice K H0 H1 d) (S : Kp K H1 H2 d) : ProgsNew K H H2 p as ps :=
  h.keep fun b o e hb => S.fr b o e (fun z => by
    rw [z] at hb e
    obtain ⟨xs, hxs, hx0⟩ := D1.ref0
    rcases hb with hb | hb | ⟨ys, hb⟩
    · exact D.ne h.new hb.symm
    · obtain ⟨pr, ⟨q1, _⟩⟩ := paired_mem h.rows hb
      exact dice_old D q1
    · rw [hxs] at e; rw [hb] at e; cases e) fun qs z => by
    subst z
    rcases hb with hb | hb | ⟨xs, hb⟩
    · rw [hb, h.top] at e; cases e
    · obtain ⟨pr, _, _, ds, q, _⟩ := paired_mem h.rows hb
      rw [q] at e; cases e
    · cases hb
/-- two addresses taken, all else free -/
def two (a b : Addr) : Hp := fun x => if x = a ∨ x = b then some (.lst []) else none
theorem two_none {a b x : Addr} : two a b x = none ↔ x ≠ a ∧ x ≠ b := by
  unfold two
  by_cases c : x = a ∨ x = b
  · rw [if_pos c]
    exact ⟨fun z => (by cases z), fun ⟨h1, h2⟩ => (c.elim h1 h2).elim⟩
  · rw [if_neg c]
    simp only [not_or] at c
    exact ⟨fun _ => c, fun _ => rfl⟩
theorem AnsAt.keepL {H0 H0' H H' : Hp} {v : V} {a : Ans} (h : AnsAt H0 H v a) (k : ∀ q xs, H0 q = none → H q = some (.lst xs) → H0' q = none ∧ H' q = some (.lst xs)) : AnsAt H0' H' v a := by
  cases a with
  | b x => exact h
  | l xs =>
    obtain ⟨q, e, h1, h2⟩ := h
    obtain ⟨k1, k2⟩ := k q _ h1 h2
    exact ⟨q, e, k1, k2⟩
theorem paired_both {α β : Type} {P : α → β → Prop} : ∀ {xs : List α} {ys : List β}, Paired P xs ys → ∀ (i : Nat) (x : α) (y : β), xs[i]? = some x → ys[i]? = some y → P x y
  | _, _, .nil, i, x, y, hx, _ => by simp at hx
  | _, _, .cons h t, 0, x, y, hx, hy => by
    simp at hx hy
    exact hx ▸ hy ▸ h
  | _, _, .cons h t, i + 1, x, y, hx, hy => paired_both t i x y (by simpa using hx) (by simpa using hy)
theorem lk_lst {H : Hp} {p q : Addr} {xs ys : List V} {n : Nat} (h1 : H p = some (.lst xs)) (h2 : H q = some (.lst ys)) (hp : Paired (Lk H n) xs ys) (hl : xs.length ≤ 100000) : Lk H (n + 1) (.ref p) (.ref q) :=
  .inr (.inr (.inr (.inr ⟨p, q, _, _, rfl, rfl, .inl ⟨h1, h2⟩, paired_len hp, Nat.le_trans hl (by decide), paired_both hp⟩)))
theorem lk_tup {H : Hp} {p q : Addr} {xs ys : List V} {n : Nat} (h1 : H p = some (.tup xs)) (h2 : H q = some (.tup ys)) (hp : Paired (Lk H n) xs ys) (hl : xs.length ≤ 100000) : Lk H (n + 1) (.ref p) (.ref q) :=
  .inr (.inr (.inr (.inr ⟨p, q, _, _, rfl, rfl, .inr ⟨h1, h2⟩, paired_len hp, Nat.le_trans hl (by decide), paired_both hp⟩)))
theorem lk_int {H : Hp} {n : Nat} (i : Int) : Lk H (n + 1) (.int i) (.int i) := .inr (.inl ⟨i, rfl, rfl⟩)
theorem lk_str {H : Hp} {n : Nat} (s : Str) (h : (PyData.str s).canLay0 = true) : Lk H (n + 1) (.str s) (.str s) := .inr (.inr (.inl ⟨s, rfl, rfl, h⟩))
theorem paired_zip {α β γ : Type} {P : α → γ → Prop} {P' : β → γ → Prop} {R : α → β → Prop} (f : ∀ a b c, P a c → P' b c → R a b) : ∀ {xs : List α} {ys : List β} {zs : List γ}, Paired P xs zs → Paired P' ys zs → Paired R xs ys
  | _, _, _, .nil, .nil => .nil
  | _, _, _, .cons h t, .cons h' t' => .cons (f _ _ _ h h') (paired_zip f t t')
theorem paired_zipm {α β γ : Type} {P : α → γ → Prop} {P' : β → γ → Prop} {R : α → β → Prop} : ∀ {xs : List α} {ys : List β} {zs : List γ}, (∀ a b c, c ∈ zs → P a c → P' b c → R a b) → Paired P xs zs → Paired P' ys zs → Paired R xs ys
  | _, _, _, _, .nil, .nil => .nil
  | _, _, _, f, .cons h t, .cons h' t' => .cons (f _ _ _ (by simp) h h') (paired_zipm (fun a b c hc => f a b c (by simp [hc])) t t')
theorem lk_ends {H : Hp} {n : Nat} {es es' : List Addr} {ends : List (Nat × Nat)} (h : Paired (EndAt H) es ends) (h' : Paired (EndAt H) es' ends) : Paired (Lk H (n + 2)) (es.map V.ref) (es'.map V.ref) := by
  have : Paired (fun a b => Lk H (n + 2) (.ref a) (.ref b)) es es' := paired_zip (fun a b c h1 h2 => lk_tup h1 h2 (.cons (lk_int _) (.cons (lk_int _) .nil)) (by simp)) h h'
  clear h h'
  induction this with
  | nil => exact .nil
  | cons h t ih => exact .cons h ih

/-! ### a plain set answers as rising keys do -/
theorem rng_mem {lo hi x : Int} : x ∈ ((List.range (hi + 1 - lo).toNat).map fun (i : Nat) => lo + (i : Int)) ↔ lo ≤ x ∧ x ≤ hi := by
  rw [List.mem_map]
  constructor
  · rintro ⟨i, hi', rfl⟩
    have := List.mem_range.mp hi'
    omega
  · rintro ⟨h1, h2⟩
    exact ⟨(x - lo).toNat, List.mem_range.mpr (by omega), by omega⟩
theorem ansU_eq {us ks : List Int} {d : Deed} (pw : ks.Pairwise (· < ·)) (m : ∀ x, x ∈ us ↔ x ∈ ks) : (ansU us d).1 = (answerK ks d).1 ∧ ∀ x, x ∈ (ansU us d).2 ↔ x ∈ (answerK ks d).2 := by
  cases d with
  | walk lo hi =>
    refine ⟨?_, m⟩
    show Ans.l _ = Ans.l (ks.filter fun k => decide (lo ≤ k ∧ k ≤ hi))
    congr 1
    refine sorted_one (List.Pairwise.filter _ (List.pairwise_map.mpr (List.pairwise_lt_range.imp fun {a b} z => by omega))) (pw.filter _) fun x => ?_
    rw [List.mem_filter, rng_mem, List.mem_filter, decide_eq_true_iff, decide_eq_true_iff, m]
    exact ⟨fun z => ⟨z.2, z.1⟩, fun z => ⟨z.2, z.1⟩⟩
  | put k =>
    show Ans.b (!decide (k ∈ us)) = (if k ∈ ks then (Ans.b false, ks) else (Ans.b true, ins k ks)).1 ∧ ∀ x, x ∈ (us.filter fun x => decide (x ≠ k)) ++ [k] ↔ x ∈ (if k ∈ ks then (Ans.b false, ks) else (Ans.b true, ins k ks)).2
    by_cases c : k ∈ ks
    · rw [if_pos c, decide_eq_true ((m k).mpr c)]
      refine ⟨rfl, fun x => ?_⟩
      rw [List.mem_append, List.mem_filter, List.mem_singleton, m, decide_eq_true_iff]
      constructor
      · rintro (⟨z, _⟩ | rfl)
        · exact z
        · exact c
      · intro z
        by_cases e : x = k
        · exact .inr e
        · exact .inl ⟨z, e⟩
    · rw [if_neg c, decide_eq_false (fun z => c ((m k).mp z))]
      refine ⟨rfl, fun x => ?_⟩
      show _ ↔ x ∈ ins k ks
      rw [mem_ins, List.mem_append, List.mem_filter, List.mem_singleton, m, decide_eq_true_iff]
      constructor
      · rintro (⟨z, _⟩ | e)
        · exact .inr z
        · exact .inl e
      · rintro (e | z)
        · exact .inr e
        · exact .inl ⟨z, fun e => c (e ▸ z)⟩
  | take k =>
    show Ans.b (decide (k ∈ us)) = (if k ∈ ks then (Ans.b true, ks.filter fun x => decide (x ≠ k)) else (Ans.b false, ks)).1 ∧ ∀ x, x ∈ (us.filter fun x => decide (x ≠ k)) ↔ x ∈ (if k ∈ ks then (Ans.b true, ks.filter fun x => decide (x ≠ k)) else (Ans.b false, ks)).2
    by_cases c : k ∈ ks
    · rw [if_pos c, decide_eq_true ((m k).mpr c)]
      refine ⟨rfl, fun x => ?_⟩
      rw [List.mem_filter, m]
      show _ ↔ x ∈ ks.filter fun x => decide (x ≠ k)
      rw [List.mem_filter]
    · rw [if_neg c, decide_eq_false (fun z => c ((m k).mp z))]
      refine ⟨rfl, fun x => ?_⟩
      rw [List.mem_filter, m, decide_eq_true_iff]
      exact ⟨fun z => z.1, fun z => ⟨z, fun e => c (e ▸ z)⟩⟩
  | ask k =>
    refine ⟨?_, m⟩
    show Ans.b (decide (k ∈ us)) = Ans.b (decide (k ∈ ks))
    congr 1
    rw [decide_eq_decide]
    exact m k
theorem ansU_nodup {us : List Int} {d : Deed} (h : us.Nodup) : (ansU us d).2.Nodup := by
  cases d with
  | walk lo hi => exact h
  | ask k => exact h
  | take k => exact List.Pairwise.filter _ h
  | put k =>
    refine List.nodup_append.mpr ⟨List.Pairwise.filter _ h, by simp, fun a ha b hb => ?_⟩
    have := (List.mem_filter.mp ha).2
    rw [List.mem_singleton.mp hb]
    simpa using this
theorem ansU_len {us : List Int} {d : Deed} : (ansU us d).2.length ≤ us.length + 1 := by
  cases d with
  | walk lo hi => exact Nat.le_succ _
  | ask k => exact Nat.le_succ _
  | take k => exact Nat.le_succ_of_le (List.length_filter_le _ _)
  | put k =>
    show ((us.filter fun x => decide (x ≠ k)) ++ [k]).length ≤ _
    rw [List.length_append]
    have := List.length_filter_le (fun x => decide (x ≠ k)) us
    simp only [List.length_singleton]
    omega
theorem serialK_take : ∀ {ds : List Deed} {ks : List Int} {j : Nat}, (serialK ks (ds.take j)).1 = (serialK ks ds).1.take j
  | [], _, _ => by simp [serialK]
  | d :: ds, ks, 0 => rfl
  | d :: ds, ks, j + 1 => by
    show (answerK ks d).1 :: (serialK (answerK ks d).2 (ds.take j)).1 = (answerK ks d).1 :: (serialK (answerK ks d).2 ds).1.take j
    rw [serialK_take]
theorem pre_count {l : List (Nat × Nat)} {h m : Nat} (row : (l.filter fun e => e.1 == h).map (·.2) = List.range m) {j : Nat} {e : Nat × Nat} (hj : l[j]? = some e) (he : e.1 = h) : e.2 = ((l.take j).filter fun e => e.1 == h).length := by
  have hs : l = l.take j ++ e :: l.drop (j + 1) := by
    obtain ⟨hlt, hv⟩ := List.getElem?_eq_some_iff.mp hj
    rw [← hv, List.getElem_cons_drop, List.take_append_drop]
  rw [hs, List.filter_append, List.map_append, List.filter_cons, if_pos (by rw [he]; simp)] at row
  have g := congrArg (fun z => z[((l.take j).filter fun e => e.1 == h).length]?) row
  rw [List.getElem?_append_right (by rw [List.length_map]; exact Nat.le_refl _), List.length_map, Nat.sub_self] at g
  have g' : some e.2 = (List.range m)[((l.take j).filter fun e => e.1 == h).length]? := g
  exact ((List.getElem?_eq_some_iff.mp g'.symm).2.symm.trans (List.getElem_range ..)).trans rfl
theorem serialK_small : ∀ (ds : List Deed) (ks : List Int), ∀ a ∈ (serialK ks ds).1, ∀ xs, a = .l xs → xs.length ≤ ks.length + ds.length
  | [], _, a, h, _, _ => by simp [serialK] at h
  | d :: ds, ks, a, h, xs, e => by
    have h : a ∈ (answerK ks d).1 :: (serialK (answerK ks d).2 ds).1 := h
    rcases List.mem_cons.mp h with w | w
    · cases d with
      | walk lo hi =>
        have w : a = .l (ks.filter fun k => decide (lo ≤ k ∧ k ≤ hi)) := w
        rw [w] at e
        cases e
        have := List.length_filter_le (fun k => decide (lo ≤ k ∧ k ≤ hi)) ks
        omega
      | ask k => rw [e] at w; cases w
      | put k =>
        have w : a = (if k ∈ ks then (Ans.b false, ks) else (Ans.b true, ins k ks)).1 := w
        by_cases c : k ∈ ks
        · rw [if_pos c, e] at w; cases w
        · rw [if_neg c, e] at w; cases w
      | take k =>
        have w : a = (if k ∈ ks then (Ans.b true, ks.filter fun x => decide (x ≠ k)) else (Ans.b false, ks)).1 := w
        by_cases c : k ∈ ks
        · rw [if_pos c, e] at w; cases w
        · rw [if_neg c, e] at w; cases w
    · have := serialK_small ds _ a w xs e
      have := answerK_len ks d
      rw [List.length_cons]
      omega
theorem lk_ints {H : Hp} {p q : Addr} {xs : List Int} {n : Nat} (h1 : H p = some (.lst (iL xs))) (h2 : H q = some (.lst (iL xs))) (hl : xs.length ≤ 100000) : Lk H (n + 2) (.ref p) (.ref q) :=
  .inr (.inr (.inr (.inr ⟨p, q, _, _, rfl, rfl, .inl ⟨h1, h2⟩, rfl, by rw [len_iL]; exact Nat.le_trans hl (by decide), fun i x y hx hy => by
    rw [hx] at hy
    cases hy
    obtain ⟨z, _, rfl⟩ := iL_get hx
    exact .inr (.inl ⟨z, rfl, rfl⟩)⟩)))
theorem lk_ans {H H0 H0' : Hp} {v u : V} {a : Ans} {n : Nat} (h1 : AnsAt H0 H v a) (h2 : AnsAt H0' H u a) (hl : ∀ xs, a = .l xs → xs.length ≤ 100000) : Lk H (n + 2) v u := by
  cases a with
  | b x => exact .inl ⟨x, h1, h2⟩
  | l xs =>
    obtain ⟨p, rfl, _, hp⟩ := h1
    obtain ⟨q, rfl, _, hq⟩ := h2
    exact lk_ints hp hq (hl xs rfl)

/-! ### own exceptions are made -/
section
variable {X : Cx} {e : Expr} {es : List Expr} {ta : TA} {p1 p2 pos : Pos} {C0 : Addr} {x0 : Str}
/-- PageError.__init__(self, ..) -/
theorem pe_peinit {pl : PySem.Sem Bool} (PF : PefC X.K C0) (hg : Gl X x0) (hm : X.mg x0 = some (.ref C0)) (ha : PA X (e :: es) ta) (hdb : (x0 == ("__debug__" : Str)) = false := by decide)
    (hc : eval (.Call (.Attribute (.Name x0 p1) "__init__" p2) (e :: es) [] pos) X.env = (do
      let ov ← eval (.Name x0 p1) X.env
      standAt p2.atName
      let (f, first) ← holding [ov] (getMethod ov "__init__" pl)
      callWith pos f first (backTo pos (starEach (e :: es) X.env)) (backToKw pos (keywordEach [] X.env))) := by rfl)
    (he : starEach (e :: es) X.env = (false, eval e X.env) :: starEach es X.env := by rfl) (hpl : (backTo pos (starEach es X.env)).any (·.1) = false := by rfl) :
    PE X (.Call (.Attribute (.Name x0 p1) "__init__" p2) (e :: es) [] pos) (tVeI X.K ta) := by
  refine ⟨fun pins sh σ H Q I h => ?_⟩
  refine PySem.W.methodCall_KW (ld_glob I hg hm ?_ hdb) hc
  obtain ⟨m, fr⟩ := I.fr
  refine PySem.W.method_of_cls fr I.ok.mod.kin PF.sp (PySem.W.cls_val fr I.ok.mod.kin PF.ty PF.rd PF.ini (by decide +kernel) ?_)
  show wpAny _ _ (callWith pos (Value.builtin "ValueError.__init__") [] (backTo pos (starEach (e :: es) X.env)) []) _ _ _
  refine PyProof.Rows.callWith_method1 (thn (ha.run pos pins _ σ H _ (I.tok _) h) fun us s1 ⟨vs, H1, I1, r1, a, C, ws, ev, hl, T, ea, q⟩ => ?_) he hpl
  subst ev
  cases r1 with
  | @cons _ u0 _ ur ra rw' =>
    obtain rfl : u0 = Value.ref a := ra
    have small : ur.length ≤ sizeLine := by
      rw [← Paired.length rw', sizeLine_eq]
      omega
    exact oinit_ok T I1 ea small fun s' J => ⟨.non, H1, J, rfl, q⟩
end
def sp_BadDeed_init (K : PySem.W.Frag) : Sp := fun vs H Q _ => ∃ (x : Addr) (i n : Int), vs = [.ref x, .int i, .int n] ∧ H x = some (exo x (He.ga K "BadDeed") none) ∧
  ∀ dx, H dx = none → dx ≠ x → Q .non (upd (upd (upd H dx (exd dx [("hand", .int i)])) x (exo x (He.ga K "BadDeed") (some dx))) dx (exd dx [("number", .int n), ("hand", .int i)]))
abbrev N_BadDeed_init : List Str := ["self", "hand", "number"]
theorem sc_BadDeed_init : FnScope N_BadDeed_init ["self", "hand", "number"] (defScope s_BadDeed_init) := ⟨rfl, rfl, rfl, by decide +kernel, rfl, by decide +kernel, by decide +kernel⟩
theorem b_BadDeed_init {w : World} {K : PySem.W.Frag} {mg : Str → Option Value} {base : Heap} (T : Txt w K mg base) : Binds K (fdOf K d_BadDeed_init.at_) ["self", "hand", "number"] [] := T.f_BadDeed_init.bindsN fun _ _ _ _ _ _ us hl => match us, hl with | [_, _, _], _ => rfl
theorem ok_BadDeed_init {P : Program} {w : World} {K : PySem.W.Frag} {mg : Str → Option Value} {base : Heap} (T : Txt w K mg base) : FnOk P w K mg base CX0 1 (He.fAd K d_BadDeed_init.at_) (fdOf K d_BadDeed_init.at_) ["self", "hand", "number"] (sp_BadDeed_init K) := by
  refine T.f_BadDeed_init.ok sc_BadDeed_init (fun vs H Q E h => ?_) (fun cdv A outer s H vs Q E hr h => ?_)
  · obtain ⟨x, i, n, rfl, _⟩ := h
    rfl
  · obtain ⟨x, i, n, rfl, hx, k⟩ := h
    refine ⟨_, PSs.nox (pss_cons (ps_expr (pe_peinit T.x_PageError (by rfl) T.g_PageError (pa_cons (pv 0) (pa_cons pe_str pa_nil))))
  (pss_cons (ps_ost (pv 0) (pv 1))
  (pss_one (ps_ost (pv 0) (pv 2))))), ?_⟩
    refine ⟨_, rfl, x, He.ga K "BadDeed", _, rfl, (by simp), T.x_BadDeed, hx, ?_⟩
    refine ⟨_, rfl, _, rfl, x, He.ga K "BadDeed", rfl, T.x_BadDeed, T.xn_BadDeed_hand, .inl ⟨hx, fun dx ndx ne => ?_⟩⟩
    refine ⟨_, rfl, _, rfl, x, He.ga K "BadDeed", rfl, T.x_BadDeed, T.xn_BadDeed_number, .inr ⟨dx, _, upd_same, by rw [upd_ne ne, upd_same], (by simp), ?_⟩⟩
    exact k dx ndx ne
def sp_BadKeys_init (K : PySem.W.Frag) : Sp := fun vs H Q _ => ∃ (x : Addr) (i : Int), vs = [.ref x, .int i] ∧ H x = some (exo x (He.ga K "BadKeys") none) ∧
  ∀ dx, H dx = none → dx ≠ x → Q .non (upd (upd H dx (exd dx [("at", .int i)])) x (exo x (He.ga K "BadKeys") (some dx)))
abbrev N_BadKeys_init : List Str := ["self", "at"]
theorem sc_BadKeys_init : FnScope N_BadKeys_init ["self", "at"] (defScope s_BadKeys_init) := ⟨rfl, rfl, rfl, by decide +kernel, rfl, by decide +kernel, by decide +kernel⟩
theorem b_BadKeys_init {w : World} {K : PySem.W.Frag} {mg : Str → Option Value} {base : Heap} (T : Txt w K mg base) : Binds K (fdOf K d_BadKeys_init.at_) ["self", "at"] [] := T.f_BadKeys_init.bindsN fun _ _ _ _ _ _ us hl => match us, hl with | [_, _], _ => rfl
theorem ok_BadKeys_init {P : Program} {w : World} {K : PySem.W.Frag} {mg : Str → Option Value} {base : Heap} (T : Txt w K mg base) : FnOk P w K mg base CX0 1 (He.fAd K d_BadKeys_init.at_) (fdOf K d_BadKeys_init.at_) ["self", "at"] (sp_BadKeys_init K) := by
  refine T.f_BadKeys_init.ok sc_BadKeys_init (fun vs H Q E h => ?_) (fun cdv A outer s H vs Q E hr h => ?_)
  · obtain ⟨x, i, rfl, _⟩ := h
    rfl
  · obtain ⟨x, i, rfl, hx, k⟩ := h
    refine ⟨_, PSs.nox (pss_cons (ps_expr (pe_peinit T.x_PageError (by rfl) T.g_PageError (pa_cons (pv 0) (pa_cons pe_str pa_nil))))
  (pss_one (ps_ost (pv 0) (pv 1)))), ?_⟩
    refine ⟨_, rfl, x, He.ga K "BadKeys", _, rfl, (by simp), T.x_BadKeys, hx, ?_⟩
    refine ⟨_, rfl, _, rfl, x, He.ga K "BadKeys", rfl, T.x_BadKeys, T.xn_BadKeys_at, .inl ⟨hx, fun dx ndx ne => ?_⟩⟩
    exact k dx ndx ne
/-! a tuple that may be no deed -/
inductive Odd where
  | nil | mk (w : Str) (args : List Int)
def oddV : Odd → List V
  | .nil => []
  | .mk w a => V.str w :: iL a
def wordN (w : Str) : Option Nat := if w = "put" ∨ w = "take" ∨ w = "ask" then some 2 else if w = "walk" then some 3 else none
def inR (k : Int) : Bool := decide (0 ≤ k ∧ k ≤ 99)
def oddOk : Odd → Bool
  | .nil => false
  | .mk w a => match wordN w with
    | none => false
    | some n => decide (a.length + 1 = n) && (a.all inR && (decide (w ≠ "walk") || decide (a.getD 0 0 ≤ a.getD 1 0)))
theorem odd_no {w : Str} {a : List Int} (h : wordN w = none) : oddOk (.mk w a) = false := by
  show (match wordN w with
    | none => false
    | some n => decide (a.length + 1 = n) && (a.all inR && (decide (w ≠ "walk") || decide (a.getD 0 0 ≤ a.getD 1 0)))) = false
  rw [h]
theorem odd_some {w : Str} {a : List Int} {n : Nat} (h : wordN w = some n) : oddOk (.mk w a) = (decide (a.length + 1 = n) && (a.all inR && (decide (w ≠ "walk") || decide (a.getD 0 0 ≤ a.getD 1 0)))) := by
  show (match wordN w with
    | none => false
    | some n => decide (a.length + 1 = n) && (a.all inR && (decide (w ≠ "walk") || decide (a.getD 0 0 ≤ a.getD 1 0)))) = _
  rw [h]
/-- what the written part knows of a word -/
def WordK (K : PySem.W.Frag) (w : Str) : Prop := (w = "put" ∨ w = "take" ∨ w = "ask" ∨ w = "walk") ∨ (wordN w = none ∧ PySem.W.nsIn K (He.ga K "WORDS") w = some none)
def OddK (K : PySem.W.Frag) : Odd → Prop
  | .nil => True
  | .mk w _ => WordK K w
def spG_is_deed (K : PySem.W.Frag) : Sp := fun vs H Q _ => ∃ (a : Addr) (o : Odd), vs = [.ref a] ∧ SqT K H a (oddV o) ∧ OddK K o ∧ (∀ w xs, o = .mk w xs → xs.length ≤ 100) ∧ ∀ H', Same H H' → Q (.bl (oddOk o)) H'
theorem okG_is_deed {P : Program} {w : World} {K : PySem.W.Frag} {mg : Str → Option Value} {base : Heap} (T : Txt w K mg base) : FnOk P w K mg base CX0 1 (He.fAd K d_is_deed.at_) (fdOf K d_is_deed.at_) ["deed"] (spG_is_deed K) := by
  refine T.f_is_deed.ok sc_is_deed (fun vs H Q E h => ?_) (fun cdv A outer s H vs Q E hr h => ?_)
  · obtain ⟨a, o, rfl, _⟩ := h
    rfl
  · obtain ⟨a, o, rfl, ha, hw, hlen, k⟩ := h
    have hu := hu_of hr
    refine ⟨_, PSs.nox (pss_cons (ps_if (PW.pt (pw_or (pt_cmpR op_eq (pe_callB call_len_seq (by rfl) T.b_len PySem.boot_len (pa_cons (pv 0) pa_nil)) pe_int (nomark _)) (pw_or (pt_cmpR (op_notIn_kd T.z_WORDS.choose_spec.choose_spec) (pe_ix ix_tup (pv 0) pe_int (fun _ _ => rfl)) (pe_glob (v := .ref (He.ga K "WORDS")) rfl T.g_WORDS rfl) (by rfl)) (pw_or1 (pt_cmpR op_ne (pe_callB call_len_seq (by rfl) T.b_len PySem.boot_len (pa_cons (pv 0) pa_nil)) (pe_ix ix_kdict (pe_glob (v := .ref (He.ga K "WORDS")) rfl T.g_WORDS rfl) (pe_ix ix_tup (pv 0) pe_int (fun _ _ => rfl)) (fun _ _ => rfl)) (nomark _)))))) (pss_one (ps_ret pe_bl)) pss_nil)
  (pss_cons (ps_if (pt_cmpR (op_neD hr.units) (pe_lc (own := [("key", 1)]) (g := gName 1) rfl sc_is_deed.nd (pi_tup (pe_slice sl_tup (pv 0) (po_some pe_int) po_none)) (blkOk_by (own := [("key", 1)]) (N := N_is_deed) (sc := defScope s_is_deed) (by decide +kernel)) (fun _ _ _ _ _ => pg_name (i := 1) sc_is_deed.nd rfl (Or.inl rfl)) (fun _ _ _ _ _ => pts_one (pt_not (pt_chain op_le op_le pe_int (pv 1) (pe_glob (v := .int 99) rfl (T.i_MOST_KEY).choose_spec ⟨_, rfl⟩)))) (fun _ _ _ _ _ => (pv 1))) (pe_lst pa_nil) (nomark _)) (pss_one (ps_ret pe_bl)) pss_nil)
  (pss_one (ps_ret (pe_or (pe_cmpR op_ne (pe_ix ix_tup (pv 0) pe_int (fun _ _ => rfl)) pe_str (nomark _)) (pe_one (pe_cmpR op_le (pe_ix ix_tup (pv 0) pe_int (fun _ _ => rfl)) (pe_ix ix_tup (pv 0) pe_int (fun _ _ => rfl)) (nomark _)))))))), ?_⟩
    have n0 : ∀ m : Nat, decide (V.int ((m + 1 : Nat) : Int) = V.int 0) = false := fun m => decide_eq_false fun z => by
      have := V.int.inj z
      omega
    cases o with
    | nil =>
      refine ⟨_, rfl, _, _, rfl, .inr ha, rfl, _, rfl, ?_⟩
      exact iteT (iteT (k _ (Same.refl _)))
    | mk wd xs =>
      have ha' : SqT K H a (V.str wd :: iL xs) := ha
      have hl : (V.str wd :: iL xs).length = xs.length + 1 := by simp [iL]
      have hx := hlen wd xs rfl
      refine ⟨_, rfl, _, _, rfl, .inr ha', rfl, _, rfl, ?_⟩
      rw [hl, n0]
      rcases hw with hw | ⟨hn, hno⟩
      rotate_left
      · refine iteF ⟨_, rfl, _, _, _, V.str wd, rfl, rfl, ha', at_of (j := 0) rfl rfl, _, _, rfl, rfl, hno, _, rfl, iteT (iteT ?_)⟩
        have e : oddOk (.mk wd xs) = false := odd_no hn
        rw [e] at k
        exact k _ (Same.refl _)
      · obtain ⟨m, em, u, hu1, hu2⟩ : ∃ m : Nat, wordN wd = some (m + 1) ∧ ∃ u, PySem.W.nsIn K (He.ga K "WORDS") wd = some (some u) ∧ RelV (.int ((m : Nat) + 1)) u := by
          rcases hw with e | e | e | e <;> subst e
          · exact ⟨1, rfl, kd_some T.z_WORDS_put⟩
          · exact ⟨1, rfl, kd_some T.z_WORDS_take⟩
          · exact ⟨1, rfl, kd_some T.z_WORDS_ask⟩
          · exact ⟨2, rfl, kd_some T.z_WORDS_walk⟩
        have hkd : KDct K w (He.ga K "WORDS") wd (.int ((m : Nat) + 1)) := by
          obtain ⟨es, n, D⟩ := T.z_WORDS
          exact ⟨es, n, u, D.at_, D.lit, hu1, hu2⟩
        have m1 : 1 ≤ m := by
          rcases hw with e | e | e | e <;> subst e
          · have : wordN "put" = some 2 := rfl
            rw [this] at em; injection em with em; omega
          · have : wordN "take" = some 2 := rfl
            rw [this] at em; injection em with em; omega
          · have : wordN "ask" = some 2 := rfl
            rw [this] at em; injection em with em; omega
          · have : wordN "walk" = some 3 := rfl
            rw [this] at em; injection em with em; omega
        refine iteF ⟨_, rfl, _, _, _, V.str wd, rfl, rfl, ha', at_of (j := 0) rfl rfl, _, _, rfl, rfl, hu1, _, rfl, iteF ?_⟩
        refine ⟨_, rfl, _, _, rfl, .inr ha', _, rfl, _, _, _, V.str wd, rfl, rfl, ha', at_of (j := 0) rfl rfl, _, _, _, rfl, rfl, hkd, rfl, _, rfl, ?_⟩
        rw [hl]
        by_cases cl : xs.length = m
        rotate_left
        · rw [decide_eq_false (fun z => cl (by have := V.int.inj z; omega))]
          refine iteT ?_
          have e : oddOk (.mk wd xs) = false := by
            rw [odd_some em]
            rw [decide_eq_false (by omega)]
            rfl
          rw [e] at k
          exact k _ (Same.refl _)
        rw [decide_eq_true (by rw [cl]; simp)]
        refine iteF ?_
        have hcut : cutV (V.str wd :: iL xs) (some 1) none = iL xs := cutTail
        refine ⟨_, rfl, _, rfl, _, _, rfl, ha', by rw [hl]; exact cutNot, fun p np => ⟨p, rfl, ⟨_, SqT.of upd_same⟩, fun D nD => ?_⟩⟩
        rw [hcut] at nD ⊢
        have s1 := same_new (o := .tup (iL xs)) np
        have pD : p ≠ D := fun z => by rw [← z, upd_same] at nD; cases nD
        refine lc_tup (K := K) (a := p) (xs := iL xs) (fun j H2 => Same H H2 ∧ H2 p = some (.tup (iL xs)) ∧ H2 D = some (.lst (iL ((xs.take j).filter fun z => !inR z)))) ⟨s1.trans (same_new nD), by rw [upd_ne pD, upd_same], upd_same⟩ (fun j H2 _ z => SqT.of z.2.1) ?_ ?_
        · rintro j x H2 hj ⟨s, hp, hD⟩
          obtain ⟨z, hz, rfl⟩ := iL_get hj
          have hfl := List.length_filter_le (fun z => !inR z) (xs.take j)
          rw [List.length_take] at hfl
          rw [take_snoc hz, List.filter_append, List.filter_cons, List.filter_nil]
          have DD0 : D ≠ p := pD.symm
          have add : inR z = false → Same H (upd H2 D (.lst (iL ((xs.take j).filter fun z => !inR z) ++ [V.int z]))) ∧ upd H2 D (.lst (iL ((xs.take j).filter fun z => !inR z) ++ [V.int z])) p = some (.tup (iL xs)) ∧ upd H2 D (.lst (iL ((xs.take j).filter fun z => !inR z) ++ [V.int z])) D = some (.lst (iL (((xs.take j).filter fun z => !inR z) ++ if (!inR z) = true then [z] else []))) := fun e => by
            refine ⟨fun b o eb => ?_, ?_, ?_⟩
            · rw [upd_ne (ne_of_none (s1 _ _ eb) nD)]; exact s _ _ eb
            · rw [upd_ne pD]; exact hp
            · rw [upd_same, e]
              simp [iL]
          refine ⟨rfl, _, rfl, _, _, rfl, rfl, _, rfl, ?_⟩
          by_cases c1 : 0 ≤ z
          · rw [decide_eq_true c1]
            refine iteT ⟨_, _, rfl, rfl, _, rfl, ?_⟩
            by_cases c2 : z ≤ 99
            · rw [decide_eq_true c2]
              have e : inR z = true := decide_eq_true ⟨c1, c2⟩
              refine iteF ⟨s, hp, ?_⟩
              rw [e, if_neg (by simp), List.append_nil]
              exact hD
            · rw [decide_eq_false c2]
              have e : inR z = false := decide_eq_false fun w => c2 w.2
              exact iteT ⟨_, rfl, _, hD, small64 (by rw [len_iL]; omega), add e⟩
          · rw [decide_eq_false c1]
            have e : inR z = false := decide_eq_false fun w => c1 w.1
            exact iteF ⟨_, rfl, iteT ⟨_, rfl, _, hD, small64 (by rw [len_iL]; omega), add e⟩⟩
        · rintro H2 ⟨s, hp, hD⟩
          rw [len_iL, List.take_length] at hD
          refine ⟨(show 0 ≤ sizeLine by decide), fun q nq => ?_⟩
          have s2 := same_new (o := .lst []) nq
          refine ⟨_, _, dp_int (SqL.of (s2 _ _ hD)), dp_int (xs := []) (SqL.of upd_same), shaped_ints _, shaped_ints [], _, rfl, ?_⟩
          rw [eqv_ints]
          have s3 : Same H (upd H2 q (.lst [])) := s.trans s2
          have ha3 := sqT_same s3 ha'
          by_cases ce : xs.filter (fun z => !inR z) = []
          rotate_left
          · rw [decide_eq_false ce]
            refine iteT ?_
            have e : oddOk (.mk wd xs) = false := by
              rw [odd_some em]
              have : xs.all inR = false := by
                rw [Bool.eq_false_iff]
                intro w
                refine ce (List.filter_eq_nil_iff.mpr fun z hz => ?_)
                have := List.all_eq_true.mp w z hz
                simp [this]
              rw [this]
              simp
            rw [e] at k
            exact k _ s3
          rw [decide_eq_true ce]
          refine iteF ?_
          have all : xs.all inR = true := List.all_eq_true.mpr fun z hz => by
            have := List.filter_eq_nil_iff.mp ce z hz
            simpa using this
          have ek : oddOk (.mk wd xs) = (decide (wd ≠ "walk") || decide (xs.getD 0 0 ≤ xs.getD 1 0)) := by
            rw [odd_some em]
            rw [all, decide_eq_true (by omega)]
            rfl
          rw [ek] at k
          refine ⟨_, rfl, _, _, _, V.str wd, rfl, rfl, ha3, at_of (j := 0) rfl rfl, rfl, _, rfl, ?_⟩
          by_cases cw : wd = "walk"
          · subst cw
            have e3 : wordN "walk" = some 3 := rfl
            rw [e3] at em
            injection em with em
            obtain ⟨x0, x1, rfl⟩ : ∃ x0 x1, xs = [x0, x1] := by
              match xs, cl with
              | [x0, x1], _ => exact ⟨x0, x1, rfl⟩
              | [], h => simp at h; omega
              | [_], h => simp at h; omega
              | _ :: _ :: _ :: _, h => simp at h; omega
            rw [show decide (V.str "walk" = V.str "walk") = true from decide_eq_true rfl]
            refine iteF ⟨_, rfl, _, _, _, V.int x0, rfl, rfl, ha3, at_of (j := 1) rfl rfl, _, rfl, _, _, _, V.int x1, rfl, rfl, ha3, at_of (j := 2) rfl rfl, _, _, rfl, rfl, ?_⟩
            exact k _ s3
          · rw [decide_eq_false fun z => cw (V.str.inj z)]
            refine iteT ?_
            rw [decide_eq_true cw] at k
            exact k _ s3

/-! ### while an exception is handled: a list gone through to its end -/
section
variable {prog : Program} {w : World} {A : Around} {E : Value → Shared → Prop} {s : Shared}
/-- StopIteration raised there -/
theorem stop_hot {x1 : Addr} {Q : Fin → Shared → Prop} (hot : HotX.HotAt A x1 s.heap) (q : ∀ (h' : Heap) (e : Addr), (∀ b o, s.heap.get? b = some o → h'.get? b = some o) → ({ s with heap := h' } : Shared).TypeIs (.ref e) "StopIteration" → E (.ref e) { s with heap := h' }) :
    wpAny (model prog w) A Builtin.SmallTypes.stopIteration Q E s := by
  obtain ⟨hh, o1, vs1, g1, d1, c1⟩ := hot
  show wpAny _ _ (newExc (.type "StopIteration") [] >>= _) _ _ _
  refine wpAny_bind ?_
  simp only [newExc, newTuple]
  refine wpAny_bind (wpAny_newObj_type ?_ (by size_fits))
  refine wpAny_bind (m := firstArgMember _ _) (wpAny_of_eq (a := Value.none) (by first | rfl | (simp only [firstArgMember]; rfl)) ?_)
  refine wpAny_newObj_type ?_ (by size_fits)
  have g2 := Heap.get?_push_of_some ({ cls := .type "tuple", data := .seq #[] } : Obj) g1
  refine HotX.raiseNew_hot ⟨hh, o1, vs1, Heap.get?_push_of_some _ (Heap.get?_push_of_some _ g1), d1, c1⟩ (Nat.ne_of_lt (Heap.lt_size (Heap.get?_push_of_some _ g1))) (Heap.get?_push_size _ rfl) rfl (by first | (simp; done) | (simp; omega) | (simp only [Array.size_append]; simp; omega)) ?_
  refine q _ _ (fun b o e => ?_) ⟨_, Heap.get?_update_self _ (Heap.get?_push_size _ rfl) rfl, rfl⟩
  rw [Heap.get?_update_other _ _ (Ne.symm (Nat.ne_of_lt (Heap.lt_size (Heap.get?_push_of_some _ e))))]
  exact Heap.get?_push_of_some _ (Heap.get?_push_of_some _ e)
theorem listEnd_hot {it l x1 : Addr} {i : Nat} {its : Array Value} {Q : Option Value → Shared → Prop} (hot : HotX.HotAt A x1 s.heap) (st : s.heap.IsListIter it l i) (hl : s.heap.IsList l its) (hx : its[i]? = none) (nx : x1 ≠ it)
    (q : ∀ h', (∀ b o, b ≠ it → s.heap.get? b = some o → h'.get? b = some o) → Q none { s with heap := h' }) : wpAny (model prog w) A (pyNext (.ref it)) Q E s := by
  obtain ⟨hh, o1, vs1, g1, d1, c1⟩ := hot
  obtain ⟨oi, gi, ci, di⟩ := id st
  obtain ⟨ol, gl, _, nl, dl⟩ := hl
  unfold pyNext
  refine wpAny_bind (wpAny_attempt (wpAny_callSpecial?_slot (name := Str.ofString "__next__") st.typeIs slot_listiter_next (wpAny_call_entry slot_listiter_next st.typeIs entry_listiter_next ?_ (args_listiter_next _))))
  show wpAny _ _ (field (.ref it) 0 >>= _) _ _ s
  refine wpAny_bind (wpAny_field gi di (x := .ref l) rfl ?_)
  show wpAny _ _ (if (Value.ref l == Value.none) = true then _ else _) _ _ s
  rw [if_neg (show ¬ (Value.ref l == Value.none) = true from fun z => Bool.noConfusion z)]
  show wpAny _ _ (field (.ref it) 1 >>= _) _ _ s
  refine wpAny_bind (wpAny_field gi di (x := .int i 0) rfl ?_)
  show wpAny _ _ (seqItems? (.ref l) >>= _) _ _ s
  refine wpAny_bind (wpAny_seqItems gl dl ?_)
  simp only [Int.toNat_natCast, hx]
  refine wpAny_bind (wpAny_rule (wpAny_bind (wpAny_setField gi di (by simp) ?_)))
  have k1 : ∀ b o, b ≠ it → s.heap.get? b = some o → (s.heap.update it (Obj.mapFields fun x => x.setIfInBounds 0 Value.none)).get? b = some o := fun b o n e => by
    rw [Heap.get?_update_other _ _ (Ne.symm n)]; exact e
  generalize s.heap.update it (Obj.mapFields fun x => x.setIfInBounds 0 Value.none) = hu at *
  refine stop_hot (s := { s with heap := hu }) ⟨hh, o1, vs1, k1 _ _ nx g1, d1, c1⟩ fun h' e kk te => ?_
  refine wpAny_bind (wpAny_isInstance (T := "StopIteration") (b := true) te isSubtype_stop ?_)
  exact wpAny_pure (q h' fun b o n z => kk b o (k1 b o n z))
end

/-! ### while an exception is handled: a list made of a list's items -/
section
variable {X : Cx}
/-- [e for .. in l]: Pv by the turn, the new list at D -/
def tLcH (K : PySem.W.Frag) (tl : TE) (g : TG) (te : TE) (vs : List Nat) : TE := fun σ H Q => tl σ H fun v H1 => ∃ (a : Addr) (xs : List V), v = .ref a ∧ SqL K H1 a xs ∧ ∀ D, H1 D = none → ∃ Pv : Nat → Hp → Prop, Pv 0 (upd H1 D (.lst [])) ∧ (∀ i H', Pv i H' → SqL K H' a xs) ∧
  (∀ i x H', xs[i]? = some x → Pv i H' → g x (wipe σ vs) H' fun σ2 H2 => wipe σ2 vs = wipe σ vs ∧ te σ2 H2 fun y H3 => ∃ acc, H3 D = some (.lst acc) ∧ acc.length < sizeLine ∧ Pv (i + 1) (upd H3 D (.lst (acc ++ [y])))) ∧ ∀ H', Pv xs.length H' → Q (.ref D) H'
theorem pe_lcH {elt tg iter : Expr} {scope : Scope} {own : List (Str × Nat)} {pos : Pos} {tl : TE} {g : TG} {te : TE} (hot : L2H.HotC X) (nd : X.N.Nodup) (hl : PE X iter tl) (bk : BlkOk X.N X.env.scope scope own)
    (hg : ∀ (s : Shared) (H : Hp) (C : Addr) (cl : List (Str × Addr)) (fp : List Addr), PG (X.blk s H scope (compEnvC scope cl C X.env) fp) tg g)
    (he : ∀ (s : Shared) (H : Hp) (C : Addr) (cl : List (Str × Addr)) (fp : List Addr), PE (X.blk s H scope (compEnvC scope cl C X.env) fp) elt te) (hs : ∀ x, foldedSetIterable iter X.env x = pure x := by intro _; rfl) :
    PE X (.ListComp elt [⟨tg, iter, [], 0⟩] scope pos) (tLcH X.K tl g te (own.map (·.2))) := by
  refine ⟨fun pins s0 σ H0 Q I0 hyp => ?_⟩
  rw [eval_ListComp]
  have hfr : ∀ y ∈ scope.names, y.2 = .free → ∃ c, X.env.cells.lookup y.1 = some c := fun y hy e => (bk.free y hy e).elim (fun k => I0.ok.has _ (.inl k)) fun k => I0.ok.has _ (.inr k)
  refine wpAny_comprehension_free (use := none) rfl hs (closure_ok hfr) bk.kind (fun y hy e => by rw [bk.uniq y hy, e]) (thn (hl.run pins s0 σ H0 _ I0 hyp) fun xv sA hA => ?_)
  obtain ⟨x, H1, IA, rx, a, xs, rfl, hq, rest⟩ := hA
  cases rx
  obtain ⟨its, rv, pl, _⟩ := IA.list hq
  refine wpAny_pyIter_list pl.isList ?_
  -- the iterator
  obtain ⟨it, eit⟩ : ∃ it, sA.heap.objs.size = it := ⟨_, rfl⟩
  have T := turn_list (P := X.prog) (w := X.w) (K := X.K) (tg := tg) a it
  generalize esB : ({ sA with heap := sA.heap.push { cls := .type "list_iterator", data := .fields #[.ref a, .int 0 0] } } : Shared) = sB
  have hB : sB.heap = sA.heap.push { cls := .type "list_iterator", data := .fields #[.ref a, .int 0 0] } := by rw [← esB]
  have IB : Inv X pins σ H1 sB := by
    rw [← esB]
    exact IA.kept (t' := sA.toks) fun b o e => Heap.get?_push_of_some _ e
  have itB : sB.heap.IsListIter it a 0 := by
    rw [hB, ← eit]
    exact ⟨_, Heap.get?_push_size _ rfl, rfl, rfl⟩
  have fB : FpOk X pins H1 it := by
    rw [← eit]
    exact IA.fpOk (Nat.le_refl _) (IA.hok.fresh (Nat.le_refl _))
  rw [eit]
  -- the new list
  refine wpAny_newObj_type (newEnv_comp ?_) (show 0 ≤ sizeLine by decide)
  obtain ⟨D, eD⟩ : ∃ D, sB.heap.objs.size = D := ⟨_, rfl⟩
  have nD : H1 D = none := IB.hok.fresh (Nat.le_of_eq eD)
  obtain ⟨Pv, p0, pS, pT, pE⟩ := rest D nD
  rw [eD]
  generalize esC : ({ sB with heap := sB.heap.push { cls := .type "list", data := .seq ([] : List Value).toArray } } : Shared) = sC
  have hC : sC.heap = sB.heap.push { cls := .type "list", data := .seq ([] : List Value).toArray } := by rw [← esC]
  have IC : Inv X pins σ (upd H1 D (.lst [])) sC := by
    rw [← esC]
    exact IB.laid (t' := sB.toks) (fun b o e => Heap.get?_push_of_some _ e) (Nat.le_of_eq eD) ⟨Nat.zero_le _, [], 0, .nil, by rw [← eD]; exact Heap.get?_push_size _ rfl⟩
  have ltB : it < sB.heap.objs.size := Heap.lt_size itB.choose_spec.1
  have neD : it ≠ D := Nat.ne_of_lt (by rw [← eD]; exact ltB)
  have fC : FpOk X pins (upd H1 D (.lst [])) it := ⟨by rw [upd_ne neD]; exact fB.1, fB.2⟩
  have itC : sC.heap.IsListIter it a 0 := T.keep 0 _ _ itB fun b _ o e => by rw [hC]; exact Heap.get?_push_of_some _ e
  have IE := block_start IC bk nd (fp := [it]) fun b hb => by
    rw [List.mem_singleton.mp hb]
    exact ⟨fC, Heap.lt_size itC.choose_spec.1⟩
  obtain ⟨C, eC⟩ : ∃ C, sC.heap.objs.size = C := ⟨_, rfl⟩
  obtain ⟨HC, eHC⟩ : ∃ HC, upd H1 D (.lst []) = HC := ⟨_, rfl⟩
  have pg := hg sC HC C (cellsFrom (C + 1) scope.names (cloFrom X.env.cells scope.names [])) [it]
  have pe := he sC HC C (cellsFrom (C + 1) scope.names (cloFrom X.env.cells scope.names [])) [it]
  show codeAny _ _ (.compStart (.ListComp elt [⟨tg, iter, [], 0⟩] scope pos) 0 (.ref it) (.ref D) (compEnvC scope (cellsFrom (sC.heap.objs.size + 1) scope.names (cloFrom X.env.cells scope.names [])) sC.heap.objs.size X.env)) (compPost (model X.prog X.w) X.A X.xe none (EP X pins σ Q) (.ref D) sC.heap.objs.size) { sC with heap := pushCells (sC.heap.push { cls := .type "dict", data := .dict #[] }) scope.names }
  obtain ⟨p, ⟨hh, v1, e1, c1⟩, hp⟩ := hot
  have pin := IC.pin p (List.mem_append_left _ hp)
  have pstk : p.1 ∉ frs X.stack := fun hm => (List.mem_cons.mp (IC.stkSub p.1 hm)).elim pin.2.2.1 pin.2.2.2.1
  have pit : p.1 ≠ it := fC.2.2.2.2.2 p (List.mem_append_left _ hp)
  obtain ⟨ce, ece⟩ : ∃ ce, compEnvC scope (cellsFrom (C + 1) scope.names (cloFrom X.env.cells scope.names [])) C X.env = ce := ⟨_, rfl⟩
  have cL : ce.locals = C := by rw [← ece]; rfl
  rw [eC] at IE ⊢
  rw [ece] at IE pg pe ⊢
  rw [eHC] at IE IC pin
  have nH : HC it = none := by rw [← eHC]; exact fC.1
  rw [eHC] at p0
  have itE : ({ sC with heap := pushCells (sC.heap.push { cls := .type "dict", data := .dict #[] }) scope.names } : Shared).heap.IsListIter it a 0 := T.keep 0 _ _ itC fun b _ o e => pushCells_keeps _ _ _ _ (Heap.get?_push_of_some _ e)
  generalize ({ sC with heap := pushCells (sC.heap.push { cls := .type "dict", data := .dict #[] }) scope.names } : Shared) = sE at IE itE ⊢
  have hotB : ∀ {σ' : L2.St} {H' : Hp} {s' : Shared}, Inv (X.blk sC HC scope ce [it]) [] σ' H' s' → HotX.HotAt X.A p.1 s'.heap := fun {σ' H' s'} J =>
    ⟨hh, p.2, v1, J.base.keep p.1 p.2 pin.1 pin.2.1 pstk (fun z => pit (List.mem_singleton.mp z)), e1, c1⟩
  have fpB : ∀ {σ' : L2.St} {H' : Hp} {s' : Shared}, Inv (X.blk sC HC scope ce [it]) [] σ' H' s' → H' it = none → FpOk (X.blk sC HC scope ce [it]) [] H' it := fun {σ' H' s'} J n =>
    ⟨n, (J.ok.exf it (by simp)).1, J.ok.exfs it (by simp), .inl (by simp), fun x c e => (J.ok.exf it (by simp)).2 x c e, fun q hq => absurd (show q ∈ ([] : List (Addr × Obj)) ++ [] from hq) (by simp)⟩
  have lp : codeAny (model X.prog X.w) X.A (.compLoop (.ListComp elt [⟨tg, iter, [], 0⟩] scope pos) 0 (.ref it) (.ref D) ce) (compPost (model X.prog X.w) X.A X.xe none (EP X pins σ Q) (.ref D) C) sE := by
    refine compLoop_any (fun n s' => ∃ i H', Inv (X.blk sC HC scope ce [it]) [] (wipe σ (own.map (·.2))) H' s' ∧ s'.heap.IsListIter it a i ∧ H' it = none ∧ Pv i H' ∧ i ≤ xs.length ∧ n = xs.length - i) ?_ xs.length ⟨0, HC, IE, itE, nH, p0, Nat.zero_le _, rfl⟩
    rintro n s5 ⟨i, H5, I5, it5, n5, P5, le5, rfl⟩
    have hq5 := pS i H5 P5
    obtain ⟨its5, rv5, pl5, _⟩ := I5.list hq5
    obtain ⟨g0, g1, g2, g3, g4, g5⟩ := fpB I5 n5
    by_cases c : i < xs.length
    · obtain ⟨y, hy⟩ : ∃ y, xs[i]? = some y := ⟨_, List.getElem?_eq_getElem c⟩
      obtain ⟨u, hu, ru⟩ := rv5.get hy
      refine wpAny_pyNext_list_item it5 pl5.isList (x := u) (by simpa using hu) fun h6 it6 sb => ?_
      have I6 : Inv (X.blk sC HC scope ce [it]) [] (wipe σ (own.map (·.2))) H5 { s5 with heap := h6 } := I5.turned (t' := s5.toks) (fun b o hb e => (sb.2 b hb).trans e) g0 g1 g3 g4 g5
      obtain ⟨oi, ei, ci, di⟩ := id it6
      refine go_of (s := { s5 with heap := h6 }) ei ci di (by decide) ?_
      have obI := T.obj (i + 1) h6 it6
      have J6 := I6.pinned (fp := [it]) (fun b hb => by rw [List.mem_singleton.mp hb]; exact fpB I6 n5) obI
      refine thnF (pg.run _ _ _ H5 y u _ J6 ru (pT i y H5 hy P5)) fun _ s8 ⟨σ8, H8, I8, hw8, q8⟩ => ?_
      refine wpAny_tests_nil ?_
      rw [if_pos rfl]
      refine thnF (pe.run _ s8 σ8 H8 _ I8 q8) fun z s9 ⟨yv, H9, I9, r9, acc, hD9, hz9, nx⟩ => ?_
      refine app_ok (X := X.blk sC HC scope ce [it]) I9 hD9 hz9 r9 fun s10 I10 => ?_
      have len8 : (wipe σ (own.map (·.2))).length = σ8.length := by rw [← hw8, wipe_length]
      have pn : s10.heap.get? it = some oi ∧ (upd H9 D (.lst (acc ++ [yv]))) it = none := by
        have w := I10.pin (it, oi) (List.mem_append_right _ (List.mem_append_right _ (mem_pinsAt (by simp) ei)))
        exact ⟨w.1, w.2.1⟩
      refine ⟨xs.length - (i + 1), by omega, i + 1, _, (I10.unpinned (pins := [])).weak len8 (fun j v e => ?_), ⟨oi, pn.1, ci, di⟩, pn.2, nx, c, rfl⟩
      rw [← hw8] at e
      exact (wipe_some e).1
    · have ei : i = xs.length := by omega
      subst ei
      refine listEnd_hot (hotB I5) it5 pl5.isList (by have := rv5.length; simp; omega) pit fun h' kk => ?_
      have I6 : Inv (X.blk sC HC scope ce [it]) [] (wipe σ (own.map (·.2))) H5 { s5 with heap := h' } := I5.turned (t' := s5.toks) (fun b o hb e => kk b o hb e) g0 g1 g3 g4 g5
      have I7 : Inv X pins σ H5 { s5 with heap := h' } := IC.call' (ch := [it]) I6.os I6.base I6.hok I6.bare fun b hb => by
        rw [List.mem_singleton.mp hb]
        exact ⟨fC.2.2.2.1, fC.2.1, fC.2.2.2.2.1, fC.2.2.2.2.2⟩
      obtain ⟨m, hm, _⟩ := I6.loc
      have hm : h'.Ns ce.locals m := hm
      have nC : H5 C = none := by
        have z : H5 ce.locals = none := I6.free
        rw [cL] at z; exact z
      rw [cL] at hm
      obtain ⟨k0, k1, k2, k3, k4, k5⟩ := IC.fpOk (b := C) (Nat.le_of_eq eC) nC
      refine ⟨m, hm, fun h2 s2 => ⟨.ref D, H5, I7.turned (t' := s5.toks) (fun b o hb e => (s2.2 b hb).trans e) k0 k1 k3 k4 k5, rfl, pE H5 P5⟩⟩
  exact codeAny_compStart_list lp (T.self X.A 0 _ _ _ itE lp)
end

/-! ### a def that is handed the exception that is handled -/
open L2H
/-- what it promises: sp by the exception's place, class and dict -/
structure FnE (P : Program) (w : World) (K : PySem.W.Frag) (mg : Str → Option Value) (base : Heap) (CX : CXT) (k : Nat) (f : Addr) (fd : FuncData) (ps : List Str) (sp : Addr → Value → Option Addr → Sp) : Prop where
  len : ∀ a cls d vs H Q E, sp a cls d vs H Q E → vs.length = ps.length
  run : ∀ (p : Addr × Obj) (cls : Value) (d : Option Addr) (A : Around) (outer : List Env) (s : Shared) (H : Hp) (args : Args) (us : List Value) (vs : List V) (Q : VK) (E : XK), Hot1 A p → Zc cls d p.2 → RoomH k A → PinOk outer H s p → Env0 P w K mg base A outer s H →
    BindsTo s fd args (ps.zip us) → Vals vs us → sp p.1 cls d vs H Q E → codeAny (model P w) A (.call (.ref f) args) (CR CX outer P w H s Q E) s
theorem fnE_of {CX : CXT} {P : Program} {w : World} {K : PySem.W.Frag} {mg : Str → Option Value} {base : Heap} {k : Nat} {f : Addr} {name qual : Str} {params : Arguments} {body : List Stmt} {scope : Scope} {dV kV doc pm cdv ct oc : Value} {an od : Option Addr} {osl : Array (Option Value)} {N ps : List Str} {sp : Addr → Value → Option Addr → Sp}
    (lk : K.lookup f = some ⟨oc, od, .func (PySem.W.fnOf name qual params body scope dV kV doc pm an cdv ct), osl⟩) (hcd : PySem.W.codeIn K cdv qual = true) (S : FnScope N ps scope) (len : ∀ a cls d vs H Q E, sp a cls d vs H Q E → vs.length = ps.length)
    (hbody : ∀ (p : Addr × Obj) (cls : Value) (d : Option Addr) (A : Around) (outer : List Env) (s : Shared) (H : Hp) (vs : List V) (Q : VK) (E : XK), Hot1 A p → Zc cls d p.2 → RoomH k (A.deeper (envOfC qual scope s.heap.objs.size f cdv)) → sp p.1 cls d vs H Q E →
      ∃ t, PSs (cxH CX P w K mg base N qual scope f cdv A outer s H E p) body t ∧ t { nx := fun _ H' => Q .non H', rt := Q } (L2.start N vs) H) :
    FnE P w K mg base CX (k + 1) f (PySem.W.fnOf name qual params body scope dV kV doc pm an cdv ct) ps sp := by
  refine ⟨len, fun p cls d A outer s H args us vs Q E hot hz room pin env bind rel good => ?_⟩
  have lv := len _ _ _ _ _ _ _ good
  have inK : K.In s.heap := env.mod.kin.keeps fun b o z => (env.bs b o z).1
  have noL : s.heap.NoLimit := env.mod.nolimit.keeps fun b o z => (env.bs b o z).1
  have kinds : ∀ y ∈ ps.zip us, scope.names.lookup y.1 = some .local ∨ (scope.names.lookup y.1 = some .cell ∧ ((cellsFrom (s.heap.objs.size + 1) scope.names []).lookup y.1).isSome = true) := by
    rintro ⟨n, v⟩ hy
    rcases S.par n (List.of_mem_zip hy).1 with z | z
    · exact .inl z
    · exact .inr ⟨z, PySem.W.cellsFrom_some _ _ _ (.inl z)⟩
  refine codeAny_call_function room.depth (inK _ _ lk) rfl S.co S.gen rfl (PySem.W.codeRec_of inK hcd) (bind _ _ _ _ (wpAny_newFunctionEnv_cells S.kind kinds fun e he sN cN => ?_))
  subst he
  refine ⟨noL.keeps cN.toInCall.keep, codeAny_func ?_⟩
  obtain ⟨t, ht, hq⟩ := hbody p cls d A outer s H vs Q E hot hz (room.deeper _) good
  have J0 := inv_startH (CX := CX) (E := E) S pin env lv rel cN
  refine wpAny_mono (ht.run [] sN (L2.start N vs) H _ J0 hq) (fun fl s' hs => ?_) fun _ _ z => z
  cases fl with
  | ret u =>
    obtain ⟨v, σ', H', J, rv, q⟩ := hs
    exact ⟨v, H', J.os, J.bare, J.base, J.hok, rv, q⟩
  | next =>
    obtain ⟨σ', H', J, q⟩ := hs
    exact ⟨V.non, H', J.os, J.bare, J.base, J.hok, (rfl : RelV V.non Value.none), q⟩
  | brk =>
    obtain ⟨_, _, _, q⟩ := hs
    exact q.elim
  | cont =>
    obtain ⟨_, _, _, q⟩ := hs
    exact q.elim
theorem FnE.mono {P : Program} {w : World} {K : PySem.W.Frag} {mg : Str → Option Value} {base : Heap} {CX : CXT} {j k : Nat} {f : Addr} {fd : FuncData} {ps : List Str} {sp : Addr → Value → Option Addr → Sp} (F : FnE P w K mg base CX j f fd ps sp) (h : j ≤ k) : FnE P w K mg base CX k f fd ps sp :=
  ⟨F.len, fun p cls d A outer s H args us vs Q E hot hz room pin env bind rel good => F.run p cls d A outer s H args us vs Q E hot hz (room.mono h) pin env bind rel good⟩
section
variable {X : Cx} {CX : CXT} {k : Nat} {f : Addr} {fd : FuncData} {ps : List Str} {sp : Addr → Value → Option Addr → Sp} {E : L2.St → XK} {x : Str} {q pos : Pos} {e : Expr} {es : List Expr} {t : TA} {p : Addr × Obj} {cls : Value} {d : Option Addr}
/-- f(e, ..) there -/
theorem pe_callE (F : FnE X.prog X.w X.K X.mg X.base CX k f fd ps sp) (room : RoomH k X.A) (hp : p ∈ X.pn) (hot : Hot1 X.A p) (hz : Zc cls d p.2) (hg : Gl X x) (hm : X.mg x = some (.ref f)) (hk : PySem.W.keepIn X.K (.ref f) = true) (hb : Binds X.K fd ps [])
    (hx : ∀ σ, PassesAt CX X σ (E σ)) (ha : PA X (e :: es) t) (hdb : (x == ("__debug__" : Str)) = false := by decide) (he : starEach (e :: es) X.env = (false, eval e X.env) :: starEach es X.env := by rfl) (hpl : (backTo pos (starEach es X.env)).any (·.1) = false := by rfl) :
    PE X (.Call (.Name x q) (e :: es) [] pos) (tCallS (sp p.1 cls d) E t) := by
  refine ⟨fun pins s σ H Q I h => wpAny_Call_Name_kw (ld_glob I hg hm ?_ hdb)⟩
  refine PySem.W.callWith_K (h₀ := X.base) I.ok.mod.kin hk (thn (ha.run pos pins s σ H _ I h) fun us s1 hA => ?_) he hpl
  obtain ⟨vs, H1, J, rel, good⟩ := hA
  refine ⟨J.kIn, ?_⟩
  have ll : us.length = ps.length := by rw [← rel.length]; exact F.len _ _ _ _ _ _ _ good
  have b := hb s1 us J.kIn (by rw [List.append_nil]; exact ll)
  rw [List.append_nil] at b
  obtain ⟨p1, p2, p3, p4, p5⟩ := J.pin p (List.mem_append_left _ hp)
  have pk : PinOk X.stack H1 s1 p := ⟨p1, p2, fun hm => by
    rcases List.mem_cons.mp (J.stkSub p.1 hm) with z | z
    · exact p3 z
    · exact p4 z, p5⟩
  refine wpAny_call (codeAny_mono (F.run p cls d X.A X.stack s1 H1 ⟨us, []⟩ us vs Q (E σ) hot hz room pk J.env0 b rel good) fun r s' hr => ?_)
  match r, hr with
  | .error er, hr => exact hx σ pins H1 s1 er s' J hr
  | .ok (.ret u), hr => exact J.after hr
  | .ok .next, hr => exact hr.elim
  | .ok .brk, hr => exact hr.elim
  | .ok .cont, hr => exact hr.elim
end

/-! ### isinstance of the exception that is handled, with an own dict or none -/
section
open PySem.W PySem.Calls
variable {prog : Program} {w : World} {A : Around} {E : Value → Shared → Prop} {K : Frag} {a D : Addr} {oe : Obj} {od : Option Obj}
theorem found_data {nm : Str} {at_ gt : Value} (hc : (clsIn K D).isSome = true) (h1 : findIn K (.ref D) nm = some (some at_)) (h2 : specialIn K at_ "__get__" = some (some gt)) (h3 : takesIn K at_ = some true) : findObj K D od nm = some (.bind gt at_) := by
  cases e : clsIn K D with
  | none => rw [e] at hc; cases hc
  | some cd =>
    unfold findObj
    rw [e, Option.bind_some, h1, Option.bind_some]
    simp [h2, h3]
theorem class_told {s : Shared} {Q : Option Value → Shared → Prop} (C : L2.ExcC K D) (inK : K.In s.heap) (J : InstAt s.heap a oe D od) (q : Q (some (.ref D)) { s with toks := s.toks + 1 }) : wpAny (model prog w) A (getAttr? (.ref a) "__class__") Q E s := by
  have fo : findObj K D od "__class__" = some (.bind (.builtin "getset_descriptor.__get__") (.builtin "object.__class__")) := found_data (by
    obtain ⟨cd, hc, _⟩ := any_some C.hd
    rw [hc]; rfl) C.ha C.hn C.ht
  obtain ⟨hp, gs, dr, tk, os⟩ := s
  have ofT := J.type (M := model prog w)
  have ofA := looks_findIn (M := model prog w) inK C.hg
  have ofG := looks_findIn (M := model prog w) inK C.hk
  have ofF := looks_find (M := model prog w) inK J fo
  have isB : Looks (model prog w) hp (isInstance (.ref a) (.type "BaseException")) true := ofT.andThen (looks_subIn inK C.hs)
  have nB : (Value.builtin "BaseException.__getattribute__" == Value.builtin "object.__getattribute__") = false := by decide +kernel
  have nH : (onTheHeap (Value.ref D) && Value.builtin "BaseException.__getattribute__" == Value.builtin "object.__getattribute__") = false := by rw [nB, Bool.and_false]
  unfold getAttr? getAttrBy? getAttrBy
  refine wpAny_bind (wpAny_mkText (wpAny_bind (wpAny_attempt (wpAny_holding (wpAny_bind (ofT.at (wpAny_bind (ofA.at ?_))))))))
  show wpAny _ _ (if (onTheHeap (Value.ref D) && Value.builtin "BaseException.__getattribute__" == Value.builtin "object.__getattribute__") = true then _ else _) _ _ _
  rw [if_neg (by rw [nH]; exact Bool.false_ne_true)]
  unfold getAttrByItsOwn hookBefore
  refine wpAny_bind ?_
  rw [if_pos (show onTheHeap (Value.ref D) = true by rfl)]
  refine ofG.at (wpAny_bind (wpAny_attempt (wpAny_holding ?_)))
  unfold callGetattribute
  rw [if_neg (show ¬ (false && onTheHeap (Value.builtin "BaseException.__getattribute__")) = true by exact Bool.false_ne_true)]
  unfold boundAndCalled
  rw [PySem.F.excAttr_ValueError.ga.bind (.ref a)]
  refine wpAny_bind (wpAny_pure ?_)
  show wpAny _ _ (call (.builtin "BaseException.__getattribute__") [.ref a, .str "__class__" tk]) _ _ _
  refine wpAny_call (codeAny_call_builtin PySem.F.excAttr_ValueError.ga.plain PySem.F.entry_bexc_ga ?_)
  refine @check_slot (model prog w) _ _ ⟨hp, gs, dr, tk + 1, os⟩ "BaseException.__getattribute__" "BaseException" "__getattribute__" (.ref a) [.str "__class__" tk] [] _ (by decide +kernel) (by decide +kernel) isB (PySem.F.args_bexc_ga (.ref a) (.str "__class__" tk)) ?_
  unfold Builtin.«object.__getattribute__»
  refine wpAny_bind (wpAny_of_eq (a := ((Value.ref a : Value), [Value.str "__class__" tk])) (by first | rfl | (simp only [slotArgs]; rfl)) (wpAny_bind (wpAny_pure (wpAny_bind (ofT.at (wpAny_bind (ofF.at ?_)))))))
  show wpAny _ _ (holding [Value.builtin "object.__class__"] (call (.builtin "getset_descriptor.__get__") [.builtin "object.__class__", .ref a, .ref D]) >>= ret) _ _ _
  refine wpAny_bind (wpAny_holding (wpAny_call (class_get (s := ⟨hp, gs, dr, tk + 1, os⟩) (ox := oe) (od := od) inK J C.hm (wpAny_pure ?_))))
  show wpAny _ _ (handedOut (.ref D)) _ _ _
  rw [handedOut_of (v := .ref D) rfl]
  first
    | exact wpAny_pure (wpAny_pure q)
    | exact wpAny_pure q
    | exact wpAny_pure (wpAny_bind (wpAny_pure (wpAny_pure q)))
theorem kit_exc (C : L2.ExcC K D) : KitX K (.ref a) (.ref D) (fun h => InstAt h a oe D od) := by
  have own : ∃ c' d' cd' sl', K.lookup D = some ⟨c', d', .cls cd', sl'⟩ := by
    obtain ⟨cd, hc, _⟩ := any_some C.hd
    unfold clsIn at hc
    split at hc
    · rename_i c' d' cd' sl' ho
      exact ⟨c', d', cd', sl', ho⟩
    · cases hc
  obtain ⟨c', d', cd', sl', ho⟩ := own
  refine ⟨fun _ _ _ J => J.type, fun _ _ inK _ => fun A' Q' E' s' k q => ?_, fun h tp dd its n sl inK htp => ?_, fun inK J k => class_told C inK J k⟩
  · unfold isType loadHead
    exact wpAny_bind (wpAny_loadPart (k _ _ (inK _ _ ho)) (wpAny_pure q))
  · refine Bool.eq_false_iff.mpr fun z => ?_
    obtain rfl : D = tp := Value.ref.inj (beq_iff_eq.mp z)
    have w := (inK _ _ ho).symm.trans htp
    cases w
end
/-- isinstance(e, c) -/
def rIsA (K : PySem.W.Frag) (a : Addr) (cls : Value) (d : Option Addr) : List V → Hp → VK → Prop := fun xs H Q => ∃ (c : V) (cv : Value) (D : Addr) (b : Bool), xs = [.ref a, c] ∧ (∀ u, RelV c u → u = cv) ∧ cls = .ref D ∧ ExcC K D ∧ PySem.W.kitOne K (.ref D) cv = some b ∧ (d = none ∨ ∃ dd fs, d = some dd ∧ H dd = some (.xd fs)) ∧ Q (.bl b) H
theorem call_isA {X : Cx} {p : Addr × Obj} {cls : Value} {d : Option Addr} (hp : p ∈ X.pn) (hz : Zc cls d p.2) (hf : ∃ vs, p.2.data = .fields vs) : CallR X (.builtin "isinstance") (rIsA X.K p.1 cls d) := by
  intro pins s σ H xs us Q I rel h
  obtain ⟨c, cv, D, b, rfl, hcv, rfl, C, ek, hd, q⟩ := h
  match us, rel with
  | [u1, u2], .cons r1 (.cons r2 .nil) =>
    obtain rfl : u1 = Value.ref p.1 := r1
    obtain rfl := hcv u2 r2
    have g := (I.pin p (List.mem_append_left _ hp)).1
    obtain ⟨vs, ev⟩ := hf
    have ncls : PySem.W.notCls p.2 = true := by unfold PySem.W.notCls; rw [ev] <;> rfl
    have J : ∃ od, PySem.W.InstAt s.heap p.1 p.2 D od := by
      rcases hd with e | ⟨dd, fs, e, ed⟩
      · exact ⟨none, g, hz.1, ncls, by rw [hz.2, e]; trivial⟩
      · have hx : ObjOk X.prog X.w H s.heap dd (.xd fs) := I.hok dd _ ed
        obtain ⟨mA, hns, _⟩ := hx
        obtain ⟨od, ho, _⟩ := lookIn_ns hns
        exact ⟨some od, g, hz.1, ncls, by rw [hz.2, e]; exact ho⟩
    obtain ⟨od, J⟩ := J
    exact PySem.W.kia_one (kit_exc (od := od) C) I.kIn J ek (fun z => nomatch z) fun tk => ⟨.bl b, H, I.kept (t' := tk) fun _ _ z => z, rfl, q⟩

/-! ### an own exception made, its context None -/
theorem pmk_oexN {X : Cx} {CX : CXT} {x : Str} {e : Expr} {es : List Expr} {ta : TA} {pn pos : Pos} {C fI : Addr} {k : Nat} {fd : FuncData} {ps : List Str} {sp : Sp} {ds : List Value} {dvs : List V} (T : OexC X.K C)
    (iC : PySem.W.findIn X.K (.ref C) "__init__" = some (some (.ref fI))) (tI : PySem.W.typeIn X.K (.ref fI) = some (.type "function")) (fn : FnOk X.prog X.w X.K X.mg X.base CX k fI fd ps sp) (room : Room (k + 1) X.A) (hb : Binds X.K fd ps ds) (hd : Vals dvs ds)
    (hx : Passes CX X (fun _ _ _ => False)) (hg : Gl X x) (hm : X.mg x = some (.ref C)) (ha : PA X (e :: es) ta) (hdb : (x == ("__debug__" : Str)) = false := by decide) (he : starEach (e :: es) X.env = (false, eval e X.env) :: starEach es X.env := by rfl)
    (hpl : (backTo pos (starEach es X.env)).any (·.1) = false := by rfl) : L2N.PMk X (.Call (.Name x pn) (e :: es) [] pos) (tMkO C sp dvs ta) := by
  intro pins s0 σ H Q I hyp
  obtain ⟨nm, q, N, bs, bm, sn, sub, ab, col, dd, k0, k1, k2, k3, k5, hC, hbm⟩ := T.cls
  refine wpAny_Call_Name_kw (ld_glob I hg hm ?_ hdb)
  refine PySem.W.callWith_K (h₀ := X.base) I.ok.mod.kin T.kC (thn (ha.run pos pins s0 σ H _ I hyp) fun us sA hA => ?_) he hpl
  obtain ⟨vs, HA, IA, rel, short, good⟩ := hA
  refine ⟨IA.kIn, ?_⟩
  show wpAny _ _ (call (.ref C) us) _ _ _
  obtain ⟨hp, gs, dr, tk, osA⟩ := sA
  obtain ⟨a, ea⟩ : ∃ a, hp.objs.size + 1 = a := ⟨_, rfl⟩
  have le : hp.objs.size ≤ a := by rw [← ea]; exact Nat.le_succ _
  have free : HA a = none := IA.hok.fresh le
  have goodA := good a free
  have keep : ∀ b o, hp.get? b = some o → ((hp.push (PySem.W.kdv_tup us)).push (PySem.HandSPX.excO C hp.objs.size)).get? b = some o := fun b o z => Heap.get?_push_of_some _ (Heap.get?_push_of_some _ z)
  have there : ((hp.push (PySem.W.kdv_tup us)).push (PySem.HandSPX.excO C hp.objs.size)).get? a = some (PySem.HandSPX.excO C hp.objs.size) := by rw [← ea]; heap_get
  have IB : Inv X pins σ (upd HA a (exo a C none)) ⟨(hp.push (PySem.W.kdv_tup us)).push (PySem.HandSPX.excO C hp.objs.size), gs, dr, tk, osA⟩ :=
    IA.laid (t' := tk) (h' := (hp.push (PySem.W.kdv_tup us)).push (PySem.HandSPX.excO C hp.objs.size)) keep le (exo_ok there)
  have relB : Vals (V.ref a :: (vs ++ dvs)) (Value.ref a :: (us ++ ds)) := .cons rfl (rel.append hd)
  have lenB : (Value.ref a :: us ++ ds).length = ps.length := by
    have z := relB.length
    rw [fn.len _ _ _ _ goodA] at z
    exact z.symm
  have small : us.length ≤ sizeLine := by
    have := Paired.length rel
    rw [sizeLine_eq]
    omega
  have run := fn.run _ X.stack _ _ ⟨Value.ref a :: us, []⟩ (Value.ref a :: (us ++ ds)) _ _ (fun _ _ _ => False) (room.make C us []) (IB.env0.make C us []) (hb _ (Value.ref a :: us) IB.kIn lenB) relB goodA
  subst ea
  refine wpAny_call (PySem.HandSPX.call_own PySem.F.excBase_ValueError (fun Y => PySem.HandSPX.refsVE_contains Y bm hbm) (IA.kIn _ _ hC) (PySem.W.looks_findIn IA.kIn iC) (fun self => PySem.W.bind_fn IA.kIn self tI) small (codeAny_mono run fun r s' hr => ?_))
  match r, hr with
  | .error er, hr => exact hx pins σ _ _ er s' IB hr
  | .ok .next, hr => exact hr.elim
  | .ok .brk, hr => exact hr.elim
  | .ok .cont, hr => exact hr.elim
  | .ok (.ret u), hr =>
    obtain ⟨v, H2, os2, bare2, un2, hok2, rv, rfl, d, fs, e1, e2, e3, good2⟩ := hr
    obtain ⟨h2, g2, d2, t2, os'⟩ := s'
    obtain ⟨t0, G, J, kG, nG, obj, na⟩ := mk_end0 (d2 := d2) (t2 := t2) IA le keep un2 hok2 os2 bare2 e1 e2 e3
    exact ⟨rv, _, _, _, ⟨G, g2, d2, t2, os'⟩, _, .ref C, some d, rfl, J, kG, nG, obj, ⟨rfl, rfl, fun vs hv => by cases hv; rfl⟩, rfl, rfl, na, rfl, bare2, raises_own T.exC T.tyC, good2⟩
theorem hotF {cls : Value} {d : Option Addr} {oe : Obj} (hz : L2N.Zn cls d oe) (hf : ∃ vs, oe.data = .fields vs) : ∃ vs : Array Value, oe.data = .fields vs ∧ vs[2]? = some .none := by
  obtain ⟨vs, e⟩ := hf
  exact ⟨vs, e, hz.2.2 vs e⟩
theorem _root_.L2H.RoomH.units {k : Nat} {A : Around} (r : L2H.RoomH k A) : A.units + 64 < cLine := by have := r.un; omega
theorem FunD.okE {CX : CXT} {P : Program} {w : World} {K : PySem.W.Frag} {mg : Str → Option Value} {base : Heap} {x qual : Str} {params : Arguments} {body : List Stmt} {scope : Scope} {dvs : List V} {kws : List (Str × V)} {f : Addr} {fd : FuncData} {N ps : List Str} {k : Nat} {sp : Addr → Value → Option Addr → Sp}
    (D : FunD K x qual params body scope dvs kws f fd) (S : FnScope N ps scope) (len : ∀ a cls d vs H Q E, sp a cls d vs H Q E → vs.length = ps.length)
    (walk : ∀ (p : Addr × Obj) (cls : Value) (d : Option Addr) (cdv : Value) (A : Around) (outer : List Env) (s : Shared) (H : Hp) (vs : List V) (Q : VK) (E : XK), L2H.Hot1 A p → Zc cls d p.2 → L2H.RoomH k (A.deeper (envOfC qual scope s.heap.objs.size f cdv)) → sp p.1 cls d vs H Q E →
      ∃ t, PSs (L2H.cxH CX P w K mg base N qual scope f cdv A outer s H E p) body t ∧ t { nx := fun _ H' => Q .non H', rt := Q } (L2.start N vs) H) : FnE P w K mg base CX (k + 1) f fd ps sp := by
  obtain ⟨oc, od, dV, kV, doc, pm, an, cdv, ct, osl, rfl, lk, hcd, _, _⟩ := D.ex
  exact fnE_of lk hcd S len fun p cls d A outer s H vs Q E hot hz room good => walk p cls d cdv A outer s H vs Q E hot hz room good
theorem pe_callE0 {X : Cx} {k : Nat} {f : Addr} {fd : FuncData} {ps : List Str} {sp : Addr → Value → Option Addr → Sp} {x : Str} {q pos : Pos} {e : Expr} {es : List Expr} {t : TA} {cls : Value} {d : Option Addr} {a : Addr} {oe : Obj} (fn : FnE X.prog X.w X.K X.mg X.base CX0 k f fd ps sp) (room : L2H.RoomH k X.A) (hp : (a, oe) ∈ X.pn)
    (hot : L2H.Hot1 X.A (a, oe)) (hz : Zc cls d oe) (hg : Gl X x) (hm : X.mg x = some (.ref f)) (hk : PySem.W.keepIn X.K (.ref f) = true) (hb : Binds X.K fd ps []) (ha : PA X (e :: es) t) (hdb : (x == ("__debug__" : Str)) = false := by decide)
    (he : starEach (e :: es) X.env = (false, eval e X.env) :: starEach es X.env := by rfl) (hpl : (backTo pos (starEach es X.env)).any (·.1) = false := by rfl) : PE X (.Call (.Name x q) (e :: es) [] pos) (tCallS (sp a cls d) (fun _ _ _ _ => False) t) :=
  pe_callE fn room hp hot hz hg hm hk hb (fun _ _ _ _ _ _ _ z => z.elim) ha hdb he hpl

/-! ### which refusal it is -/
def kindsL (ks : List Bool) : List V := ks.map V.bl
def wordsL : List Str := ["keys", "deed", "hand", "many"]
def spE_l_is (K : PySem.W.Frag) (a : Addr) (cls : Value) (d : Option Addr) : Sp := fun vs H Q _ => ∃ (C : Addr) (k1 k2 k3 k4 : Bool) (w : Str), vs = [.ref a, .str w] ∧ cls = .ref C ∧ ExcC K C ∧ PySem.W.kitOne K (.ref C) (.ref (He.ga K "BadKeys")) = some k1 ∧ PySem.W.kitOne K (.ref C) (.ref (He.ga K "BadDeed")) = some k2 ∧
  PySem.W.kitOne K (.ref C) (.ref (He.ga K "NoHand")) = some k3 ∧ PySem.W.kitOne K (.ref C) (.ref (He.ga K "TooMany")) = some k4 ∧ PySem.W.kitOne K (.ref C) (.type "ValueError") = some true ∧ (d = none ∨ ∃ dd fs, d = some dd ∧ H dd = some (.xd fs)) ∧
  ∀ H', Same H H' → Q (.bl (decide ([k1, k2, k3, k4] = wordsL.map fun o => decide (V.str w = V.str o)))) H'
theorem eqv_bools : ∀ {xs ys : List Bool}, PyData.eqv (.list (xs.map PyData.bool)) (.list (ys.map PyData.bool)) = decide (xs = ys) := by
  have all : ∀ xs ys : List Bool, PyData.eqvAll (xs.map PyData.bool) (ys.map PyData.bool) = decide (xs = ys) := fun xs => by
    induction xs with
    | nil => intro ys; cases ys <;> simp [PyData.eqvAll]
    | cons a t ih =>
      intro ys
      cases ys with
      | nil => simp [PyData.eqvAll]
      | cons b u =>
        rw [List.map_cons, List.map_cons]
        simp only [PyData.eqvAll, ih u]
        cases a <;> cases b <;> simp [PyData.eqv]
  intro xs ys
  show PyData.eqv _ _ = _
  simp only [PyData.eqv]
  exact all xs ys
abbrev N_l_is : List Str := ["_law_e", "_law_word", "_law_kinds", "_law_words", "_law_one"]
theorem sc_l_is : FnScope N_l_is ["_law_e", "_law_word"] (defScope s_l_is) := ⟨rfl, rfl, rfl, by decide +kernel, rfl, by decide +kernel, by decide +kernel⟩
theorem b_l_is {w : World} {K : PySem.W.Frag} {mg : Str → Option Value} {base : Heap} (T : Txt w K mg base) : Binds K (fdOf K d_l_is.at_) ["_law_e", "_law_word"] [] := T.f_l_is.bindsN fun _ _ _ _ _ _ us hl => match us, hl with | [_, _], _ => rfl
theorem okE_l_is {P : Program} {w : World} {K : PySem.W.Frag} {mg : Str → Option Value} {base : Heap} (T : Txt w K mg base) : FnE P w K mg base CX0 1 (He.fAd K d_l_is.at_) (fdOf K d_l_is.at_) ["_law_e", "_law_word"] (spE_l_is K) := by
  refine FunD.okE T.f_l_is sc_l_is (fun a cls d vs H Q E h => ?_) (fun p cls d cdv A outer s H vs Q E hot hz hr h => ?_)
  · obtain ⟨C, k1, k2, k3, k4, w, rfl, _⟩ := h
    rfl
  · obtain ⟨C, k1, k2, k3, k4, wd, rfl, rfl, xc, e1, e2, e3, e4, e5, hd, k⟩ := h
    have hotf : ∃ vs, p.2.data = .fields vs := by
      obtain ⟨vs, e, _⟩ := hot.2
      exact ⟨vs, e⟩
    have hotc : L2H.HotC (L2H.cxH CX0 P w K mg base N_l_is (d_l_is.qual) (defScope s_l_is) (He.fAd K d_l_is.at_) cdv A outer s H E p) := ⟨p, ⟨hot.1, hot.2⟩, List.mem_singleton.mpr rfl⟩
    refine ⟨_, (pss_cons (ps_set (i := 2) sc_l_is.nd rfl (Or.inl rfl) (pe_lst (pa_cons (pe_callB (call_isA (p := p) (List.mem_singleton.mpr rfl) hz hotf) (by rfl) T.b_isinstance (by decide +kernel) (pa_cons (pv 0) (pa_cons (pe_glob (v := .ref (He.ga K "BadKeys")) rfl T.g_BadKeys rfl) pa_nil))) (pa_cons (pe_callB (call_isA (p := p) (List.mem_singleton.mpr rfl) hz hotf) (by rfl) T.b_isinstance (by decide +kernel) (pa_cons (pv 0) (pa_cons (pe_glob (v := .ref (He.ga K "BadDeed")) rfl T.g_BadDeed rfl) pa_nil))) (pa_cons (pe_callB (call_isA (p := p) (List.mem_singleton.mpr rfl) hz hotf) (by rfl) T.b_isinstance (by decide +kernel) (pa_cons (pv 0) (pa_cons (pe_glob (v := .ref (He.ga K "NoHand")) rfl T.g_NoHand rfl) pa_nil))) (pa_cons (pe_callB (call_isA (p := p) (List.mem_singleton.mpr rfl) hz hotf) (by rfl) T.b_isinstance (by decide +kernel) (pa_cons (pv 0) (pa_cons (pe_glob (v := .ref (He.ga K "TooMany")) rfl T.g_TooMany rfl) pa_nil))) pa_nil))))))
  (pss_cons (ps_set (i := 3) sc_l_is.nd rfl (Or.inl rfl) (pe_lst (pa_cons pe_str (pa_cons pe_str (pa_cons pe_str (pa_cons pe_str pa_nil))))))
  (pss_one (ps_ret (pe_and (pe_callB (call_isA (p := p) (List.mem_singleton.mpr rfl) hz hotf) (by rfl) T.b_isinstance (by decide +kernel) (pa_cons (pv 0) (pa_cons (pe_bltn (v := .ty "ValueError") (by rfl) T.b_ValueError (by decide +kernel) rfl) pa_nil))) (pe_one (pe_cmpR (op_eqD hr.units) (pv 2) (pe_lcH (own := [("_law_one", 4)]) (g := gName 4) hotc sc_l_is.nd (pv 3) (blkOk_by (own := [("_law_one", 4)]) (N := N_l_is) (sc := defScope s_l_is) (by decide +kernel)) (fun _ _ _ _ _ => pg_name (i := 4) sc_l_is.nd rfl (Or.inl rfl)) (fun _ _ _ _ _ => (pe_cmpR op_eq (pv 1) (pv 4) (nomark _)))) (nomark _)))))))), ?_⟩
    refine ⟨_, rfl, _, _, C, k1, rfl, fun u r => r, rfl, xc, e1, hd, _, rfl, _, _, C, k2, rfl, fun u r => r, rfl, xc, e2, hd, _, rfl, _, _, C, k3, rfl, fun u r => r, rfl, xc, e3, hd, _, rfl, _, _, C, k4, rfl, fun u r => r, rfl, xc, e4, hd, (show 4 ≤ sizeLine by decide), fun q1 n1 => ⟨(show 4 ≤ sizeLine by decide), fun q2 n2 => ?_⟩⟩
    have s1 := same_new (o := .lst [V.bl k1, V.bl k2, V.bl k3, V.bl k4]) n1
    have s2 := same_new (o := .lst (wordsL.map V.str)) n2
    have s12 := s1.trans s2
    have h1 := s2 _ _ (show upd H q1 (.lst [V.bl k1, V.bl k2, V.bl k3, V.bl k4]) q1 = some (.lst [V.bl k1, V.bl k2, V.bl k3, V.bl k4]) from upd_same)
    have h2 : upd (upd H q1 (.lst [V.bl k1, V.bl k2, V.bl k3, V.bl k4])) q2 (.lst (wordsL.map V.str)) q2 = some (.lst (wordsL.map V.str)) := upd_same
    have hd2 : d = none ∨ ∃ dd fs, d = some dd ∧ upd (upd H q1 (.lst [V.bl k1, V.bl k2, V.bl k3, V.bl k4])) q2 (.lst (wordsL.map V.str)) dd = some (.xd fs) := hd.imp id fun ⟨dd, fs, z1, z2⟩ => ⟨dd, fs, z1, s12 _ _ z2⟩
    refine ⟨_, rfl, _, _, C, true, rfl, fun u r => r, rfl, xc, e5, hd2, _, rfl, iteT ⟨_, rfl, _, rfl, q2, wordsL.map V.str, rfl, SqL.of h2, fun D nD => ?_⟩⟩
    refine ⟨fun i H' => Same (upd (upd H q1 (.lst [V.bl k1, V.bl k2, V.bl k3, V.bl k4])) q2 (.lst (wordsL.map V.str))) H' ∧ H' D = some (.lst ((wordsL.take i).map fun o => V.bl (decide (V.str wd = V.str o)))), ⟨same_new nD, upd_same⟩, fun i H' z => SqL.of (z.1 _ _ h2), fun i x H' hx z => ?_, fun H' z => ?_⟩
    · obtain ⟨s3, hD⟩ := z
      obtain ⟨o, ho, rfl⟩ : ∃ o, wordsL[i]? = some o ∧ x = V.str o := by
        rw [List.getElem?_map] at hx
        cases e : wordsL[i]? with
        | none => rw [e] at hx; cases hx
        | some o => rw [e] at hx; exact ⟨o, rfl, (Option.some.inj hx).symm⟩
      have hi := (List.getElem?_eq_some_iff.mp ho).1
      have hi : i < 4 := hi
      refine ⟨rfl, _, rfl, _, rfl, rfl, _, hD, small64 (by rw [List.length_map, List.length_take]; omega), fun b u e => by rw [upd_ne (ne_of_none e nD)]; exact s3 _ _ e, ?_⟩
      rw [take_snoc ho, List.map_append]
      exact upd_same
    · obtain ⟨s3, hD⟩ := z
      rw [List.length_map, List.take_length] at hD
      have b1 : ∀ (bs : List Bool), DpAll K H' (bs.map V.bl) (bs.map PyData.bool) := fun bs => by
        induction bs with
        | nil => exact .nil
        | cons a t ih => exact .cons (.bl a) ih
      have d1 : Dp K H' (.ref q1) (.list ([k1, k2, k3, k4].map PyData.bool)) := .lst (SqL.of (s3 _ _ h1)) (b1 [k1, k2, k3, k4])
      have d2 : Dp K H' (.ref D) (.list ((wordsL.map fun o => decide (V.str wd = V.str o)).map PyData.bool)) := .lst (SqL.of hD) (by have := b1 (wordsL.map fun o => decide (V.str wd = V.str o)); rw [List.map_map] at this; exact this)
      refine ⟨_, _, d1, d2, (flat_map (fun _ => Flat.bool) _).shaped (by decide), (flat_map (fun _ => Flat.bool) _).shaped (by decide), ?_⟩
      rw [eqv_bools]
      exact k _ (s12.trans s3)

/-! ### what serial is refused for -/
theorem takes0 {X : Cx} : L2N.Takes X (fun _ _ _ _ => False) := fun _ _ ⟨_, _, _, _, _, _, _, _, _, _, _, _, _, _, _, _, z⟩ => z.elim
theorem FnOk.toX {P : Program} {w : World} {K : PySem.W.Frag} {mg : Str → Option Value} {base : Heap} {k : Nat} {f : Addr} {fd : FuncData} {ps : List Str} {sp : Sp} (F : FnOk P w K mg base CX0 k f fd ps sp) : FnOk P w K mg base (L2N.CX P w) k f fd ps sp :=
  ⟨F.len, fun A outer s H args us vs Q E hr he hb hv hs => codeAny_mono (F.run A outer s H args us vs Q E hr he hb hv hs) fun r s' h => by
    cases r with
    | ok z => cases z <;> exact h
    | error e => exact (h : False).elim⟩
theorem FnOk.either {P : Program} {w : World} {K : PySem.W.Frag} {mg : Str → Option Value} {base : Heap} {CX : CXT} {k : Nat} {f : Addr} {fd : FuncData} {ps : List Str} {sp1 sp2 : Sp} (F1 : FnOk P w K mg base CX k f fd ps sp1) (F2 : FnOk P w K mg base CX k f fd ps sp2) :
    FnOk P w K mg base CX k f fd ps (fun vs H Q E => sp1 vs H Q E ∨ sp2 vs H Q E) :=
  ⟨fun vs H Q E h => h.elim (F1.len vs H Q E) (F2.len vs H Q E), fun A outer s H args us vs Q E hr he hb hv hs => hs.elim (F1.run A outer s H args us vs Q E hr he hb hv) (F2.run A outer s H args us vs Q E hr he hb hv)⟩
theorem made_same {H : Hp} {a d : Addr} {o1 o2 o3 o4 o5 : HO} (na : H a = none) (nd : H d = none) : Same H (upd (del (upd (upd (upd (upd H a o1) d o2) a o3) d o4) a) d o5) := fun b o e => by
  have ba := ne_of_none e na
  have bd := ne_of_none e nd
  rw [upd_ne bd, del_ne ba, upd_ne bd, upd_ne ba, upd_ne bd, upd_ne ba]
  exact e
theorem made_same1 {H : Hp} {a d : Addr} {o1 o2 o3 o5 : HO} (na : H a = none) (nd : H d = none) : Same H (upd (del (upd (upd (upd H a o1) d o2) a o3) a) d o5) := fun b o e => by
  have ba := ne_of_none e na
  have bd := ne_of_none e nd
  rw [upd_ne bd, del_ne ba, upd_ne ba, upd_ne bd, upd_ne ba]
  exact e
/-- the first place at which keys can't be keys -/
def KeyAt (ks : List Int) (j : Nat) : Prop := ∃ k, ks[j]? = some k ∧ 0 ≤ k ∧ k ≤ 99 ∧ k ∉ ks.take j
def BadAt (ks : List Int) (n : Nat) : Prop := (40 < ks.length ∧ n = 40) ∨ (ks.length ≤ 40 ∧ (∀ j, j < n → KeyAt ks j) ∧ ∃ k, ks[n]? = some k ∧ (k < 0 ∨ 99 < k ∨ k ∈ ks.take n))
def spR_need_keys (K : PySem.W.Frag) : Sp := fun vs H _ E => ∃ (a : Addr) (ks : List Int) (n : Nat), vs = [.ref a] ∧ SqL K H a (iL ks) ∧ BadAt ks n ∧ ks.length ≤ 1000 ∧ ∀ (H' : Hp) (dx : Addr), Same H H' → H' dx = some (.xd [("at", .int (n : Nat))]) → E (.ref (He.ga K "BadKeys")) (some dx) H'
theorem okR_need_keys {P : Program} {w : World} {K : PySem.W.Frag} {mg : Str → Option Value} {base : Heap} (T : Txt w K mg base) : FnOk P w K mg base (L2N.CX P w) 4 (He.fAd K d_need_keys.at_) (fdOf K d_need_keys.at_) ["keys"] (spR_need_keys K) := by
  refine T.f_need_keys.ok sc_need_keys (fun vs H Q E h => ?_) (fun cdv A outer s H vs Q E hr h => ?_)
  · obtain ⟨a, ks, n, rfl, _⟩ := h
    rfl
  · obtain ⟨a, ks, n, rfl, ha, bad, l1000, k⟩ := h
    refine ⟨_, (pss_cons (ps_if (pt_cmpR op_gt (pe_callB call_len_seq (by rfl) T.b_len PySem.boot_len (pa_cons (pv 0) pa_nil)) (pe_glob (v := .int 40) rfl (T.i_MOST_BEGIN).choose_spec ⟨_, rfl⟩) (nomark _)) (pss_one (L2N.ps_raise rfl (L2N.takes_of rfl rfl rfl rfl) (pmk_oexN T.x_BadKeys T.xi_BadKeys T.xt_BadKeys (ok_BadKeys_init T) (hr.mono (by decide)) (b_BadKeys_init T) .nil pass0 (by rfl) T.g_BadKeys (pa_cons (pe_glob (v := .int 40) rfl (T.i_MOST_BEGIN).choose_spec ⟨_, rfl⟩) pa_nil)))) pss_nil)
  (pss_one (ps_for (passes_of rfl) rfl (pi_range1 (by rfl) T.b_range (pa_cons (pe_callB call_len_seq (by rfl) T.b_len PySem.boot_len (pa_cons (pv 0) pa_nil)) pa_nil)) (pg_name (i := 1) sc_need_keys.nd rfl (Or.inl rfl))
  (pss_one (ps_if (PW.pt (pw_or (pt_not (pt_chain op_le op_le pe_int (pe_ix ix_list (pv 0) (pv 1) (fun _ _ => rfl)) (pe_glob (v := .int 99) rfl (T.i_MOST_KEY).choose_spec ⟨_, rfl⟩))) (pw_or1 (pt_cmpR op_in_seq (pe_ix ix_list (pv 0) (pv 1) (fun _ _ => rfl)) (pe_slice sl_list (pv 0) po_none (po_some (pv 1))) (by rfl))))) (pss_one (L2N.ps_raise rfl (L2N.takes_of rfl rfl rfl rfl) (pmk_oexN T.x_BadKeys T.xi_BadKeys T.xt_BadKeys (ok_BadKeys_init T) (hr.mono (by decide)) (b_BadKeys_init T) .nil pass0 (by rfl) T.g_BadKeys (pa_cons (pv 1) pa_nil)))) pss_nil))))), ?_⟩
    rcases bad with ⟨l40, rfl⟩ | ⟨l40, good, kb, hkb, hbad⟩
    · refine ⟨_, rfl, _, _, rfl, .inl ha, _, _, rfl, rfl, _, rfl, ?_⟩
      rw [len_iL, decide_eq_true (by omega)]
      refine iteT ⟨(show 1 ≤ 1000 by decide), fun b nb => ⟨b, 40, rfl, upd_same, fun dx ndx ne => ?_⟩⟩
      have nd : H dx = none := by rw [upd_ne ne] at ndx; exact ndx
      exact ⟨rfl, dx, _, upd_same, (upd_ne ne).trans upd_same, nd, k _ dx (made_same1 nb nd) upd_same⟩
    · have hlt : n < ks.length := (List.getElem?_eq_some_iff.mp hkb).1
      refine ⟨_, rfl, _, _, rfl, .inl ha, _, _, rfl, rfl, _, rfl, ?_⟩
      rw [len_iL, decide_eq_false (by omega)]
      refine iteF ⟨_, rfl, _, _, rfl, .inl ha, _, rfl, by omega, by rw [len_iL]; omega, ?_⟩
      rw [len_iL, Int.toNat_natCast]
      refine for_range (fun j σ H2 => j ≤ n ∧ ∃ v, σ = [some (.ref a), v] ∧ Same H H2) ⟨Nat.zero_le _, _, rfl, Same.refl _⟩ ?_ ?_
      · rintro j σ H2 hj ⟨hjn, v, rfl, s2⟩
        have ha2 := Same.seq s2 ha
        have hz : ks[j]? = some ks[j] := List.getElem?_eq_getElem hj
        have hat : atI (iL ks) (0 + (j : Int)) = some (V.int ks[j]) := at_of (j := j) (by omega) (by show (ks.map V.int)[j]? = _; rw [List.getElem?_map, hz]; rfl)
        have ec : cutV (iL ks) none (some (0 + (j : Int))) = iL (ks.take j) := by
          rw [Int.zero_add, cutTo (by rw [len_iL]; omega)]
          simp [iL]
        -- refused here
        have refuse : ∀ {H3 : Hp}, Same H H3 → j = n → tMkO (He.ga K "BadKeys") (sp_BadKeys_init K) [] (tCons (tVar 1) tNil) [some (.ref a), some (.int (0 + (j : Int)))] H3 (fun cls d H' => E cls d H') := fun {H3} s3 e => by
          subst e
          refine ⟨_, rfl, (show 1 ≤ 1000 by decide), fun b nb => ⟨b, _, rfl, upd_same, fun dx ndx ne => ?_⟩⟩
          have nd : H3 dx = none := by rw [upd_ne ne] at ndx; exact ndx
          rw [Int.zero_add]
          exact ⟨rfl, dx, _, upd_same, (upd_ne ne).trans upd_same, nd, k _ dx (s3.trans (made_same1 nb nd)) upd_same⟩
        by_cases cj : j = n
        · have ek : ks[j] = kb := by
            subst cj
            rw [hz] at hkb; exact Option.some.inj hkb
          refine ⟨_, rfl, _, rfl, _, _, _, V.int ks[j], rfl, rfl, ha2, hat, _, _, rfl, rfl, _, rfl, ?_⟩
          rw [ek]
          by_cases c0 : 0 ≤ kb
          · rw [decide_eq_true c0]
            refine iteT ⟨_, _, rfl, rfl, _, rfl, ?_⟩
            by_cases c9 : kb ≤ 99
            · rw [decide_eq_true c9]
              have hin : kb ∈ ks.take j := by
                rw [cj]
                rcases hbad with z | z | z
                · omega
                · omega
                · exact z
              refine iteF ⟨_, rfl, _, rfl, _, _, _, V.int ks[j], rfl, rfl, ha2, hat, _, rfl, _, rfl, _, rfl, _, _, rfl, ha2, fun l nl => ?_⟩
              rw [ec]
              refine ⟨_, _, rfl, .inl (SqL.of upd_same), rfl, flat_iL _, ?_⟩
              rw [inV_int, ek, decide_eq_true hin]
              exact ⟨_, rfl, iteT (refuse (s2.trans (same_new nl)) cj)⟩
            · rw [decide_eq_false c9]
              exact iteT (iteT (refuse s2 cj))
          · rw [decide_eq_false c0]
            exact iteF ⟨_, rfl, iteT (iteT (refuse s2 cj))⟩
        · obtain ⟨kj, hkj, g1, g2, g3⟩ := good j (by omega)
          have ek : ks[j] = kj := by rw [hz] at hkj; exact Option.some.inj hkj
          refine ⟨_, rfl, _, rfl, _, _, _, V.int ks[j], rfl, rfl, ha2, hat, _, _, rfl, rfl, _, rfl, ?_⟩
          rw [ek, decide_eq_true g1]
          refine iteT ⟨_, _, rfl, rfl, _, rfl, ?_⟩
          rw [decide_eq_true g2]
          refine iteF ⟨_, rfl, _, rfl, _, _, _, V.int ks[j], rfl, rfl, ha2, hat, _, rfl, _, rfl, _, rfl, _, _, rfl, ha2, fun l nl => ?_⟩
          rw [ec]
          refine ⟨_, _, rfl, .inl (SqL.of upd_same), rfl, flat_iL _, ?_⟩
          rw [inV_int, ek, decide_eq_false g3]
          exact ⟨_, rfl, iteF ⟨by omega, _, rfl, s2.trans (same_new nl)⟩⟩
      · rintro σ H2 ⟨hjn, _⟩
        omega

/-! ### serial, refused -/
def spX_need_keys (K : PySem.W.Frag) : Sp := fun vs H Q E => sp_need_keys K vs H Q E ∨ spR_need_keys K vs H Q E
theorem okX_need_keys {P : Program} {w : World} {K : PySem.W.Frag} {mg : Str → Option Value} {base : Heap} (T : Txt w K mg base) : FnOk P w K mg base (L2N.CX P w) (1 + 3) (He.fAd K d_need_keys.at_) (fdOf K d_need_keys.at_) ["keys"] (spX_need_keys K) := FnOk.either (FnOk.toX ((ok_need_keys T).mono (by decide))) (okR_need_keys T)
def oddOf (d : Deed) : Odd := .mk (deedW d) (deedArgs d)
theorem oddOf_v {d : Deed} : oddV (oddOf d) = deedV d := deedV_eq.symm
theorem oddOf_ok {d : Deed} (h : DeedOk d) : oddOk (oddOf d) = true := by
  have hr : (deedArgs d).all inR = true := List.all_eq_true.mpr fun k hk => decide_eq_true (deed_args h k hk)
  obtain ⟨h1, h2, h3⟩ := h
  cases d with
  | put k =>
    refine (odd_some (n := 2) rfl).trans ?_
    rw [show ((deedArgs (.put k)).all inR) = true from hr]
    rfl
  | take k =>
    refine (odd_some (n := 2) rfl).trans ?_
    rw [show ((deedArgs (.take k)).all inR) = true from hr]
    rfl
  | ask k =>
    refine (odd_some (n := 2) rfl).trans ?_
    rw [show ((deedArgs (.ask k)).all inR) = true from hr]
    rfl
  | walk lo hi =>
    refine (odd_some (n := 3) rfl).trans ?_
    rw [show ((deedArgs (.walk lo hi)).all inR) = true from hr]
    have : decide (lo ≤ hi) = true := decide_eq_true (h3 lo hi rfl).1
    show (true && (true && (decide (_ ≠ _) || decide (lo ≤ hi)))) = true
    rw [this]
    simp
theorem oddOf_k {K : PySem.W.Frag} {d : Deed} : OddK K (oddOf d) := by
  refine .inl ?_
  cases d
  · exact .inl rfl
  · exact .inr (.inl rfl)
  · exact .inr (.inr (.inl rfl))
  · exact .inr (.inr (.inr rfl))
theorem oddOf_len {d : Deed} : ∀ w xs, oddOf d = .mk w xs → xs.length ≤ 100 := fun w xs e => by
  injection e with _ e
  subst e
  cases d <;> (show (_ : List Int).length ≤ 100; simp [deedArgs])
def spX_serial (K : PySem.W.Frag) : Sp := fun vs H _ E => ∃ (ka da : Addr) (keys sk : List Int) (ds rest : List Addr) (deeds : List Deed) (b : Addr) (o : Odd), vs = [.ref ka, .ref da] ∧ SqL K H ka (iL keys) ∧ KeysOk keys ∧ sk.Pairwise (· < ·) ∧ (∀ x, x ∈ sk ↔ x ∈ keys) ∧
  SqL K H da ((ds ++ b :: rest).map V.ref) ∧ Paired (DeedAt K H) ds deeds ∧ (∀ d ∈ deeds, DeedOk d) ∧ (ds ++ b :: rest).length ≤ 500 ∧ SqT K H b (oddV o) ∧ OddK K o ∧ (∀ w xs, o = .mk w xs → xs.length ≤ 100) ∧ oddOk o = false ∧
  ∀ (H' : Hp) (dx : Addr), Same H H' → H' dx = some (.xd [("number", .int (deeds.length : Nat)), ("hand", .int 0)]) → E (.ref (He.ga K "BadDeed")) (some dx) H'
theorem okX_serial {P : Program} {w : World} {K : PySem.W.Frag} {mg : Str → Option Value} {base : Heap} (T : Txt w K mg base) : FnOk P w K mg base (L2N.CX P w) 5 (He.fAd K d_serial.at_) (fdOf K d_serial.at_) ["keys", "deeds"] (spX_serial K) := by
  refine T.f_serial.ok sc_serial (fun vs H Q E h => ?_) (fun cdv A outer s H vs Q E hr h => ?_)
  · obtain ⟨ka, da, keys, sk, ds, rest, deeds, b, o, rfl, _⟩ := h
    rfl
  · obtain ⟨ka, da, keys, sk, ds, rest, deeds, b, o, rfl, hka, kok, pw, sm, hda, hdp, dok, dl, hb, ho, hol, hbad, k⟩ := h
    refine ⟨_, (pss_cons (ps_expr (pe_callS (okX_need_keys T) (hr.mono (by decide)) rfl T.g_need_keys T.f_need_keys.kp (b_need_keys T) (fun σ => L2N.passAt (L2N.takes_of rfl rfl rfl rfl) σ) (pa_cons (pv 0) pa_nil)))
  (pss_cons (ps_set (i := 2) sc_serial.nd rfl (Or.inl rfl) (pe_lst pa_nil))
  (pss_cons (ps_set (i := 3) sc_serial.nd rfl (Or.inl rfl) (pe_callB cr_sortedI (by rfl) T.b_sorted (by decide +kernel) (pa_cons (pv 0) pa_nil)))
  (pss_cons (ps_for (passes_of rfl) rfl (pi_range1 (by rfl) T.b_range (pa_cons (pe_callB call_len_seq (by rfl) T.b_len PySem.boot_len (pa_cons (pv 1) pa_nil)) pa_nil)) (pg_name (i := 4) sc_serial.nd rfl (Or.inl rfl))
  (pss_cons (ps_if (pt_not (pt_val (pe_call (okG_is_deed T) (hr.mono (by decide)) rfl T.g_is_deed T.f_is_deed.kp (b_is_deed T) .nil pass0 (pa_cons (pe_ix ix_list (pv 1) (pv 4) (fun _ _ => rfl)) pa_nil)))) (pss_one (L2N.ps_raise rfl (L2N.takes_of rfl rfl rfl rfl) (pmk_oexN T.x_BadDeed T.xi_BadDeed T.xt_BadDeed (ok_BadDeed_init T) (hr.mono (by decide)) (b_BadDeed_init T) .nil pass0 (by rfl) T.g_BadDeed (pa_cons pe_int (pa_cons (pv 4) pa_nil))))) pss_nil)
  (pss_cons (ps_asg (pe_call (ok_answer T) (hr.mono (by decide)) rfl T.g_answer T.f_answer.kp (b_answer T) .nil pass0 (pa_cons (pv 3) (pa_cons (pe_ix ix_list (pv 1) (pv 4) (fun _ _ => rfl)) pa_nil))) (pg_tup (by rfl) (pgs_cons (pg_name (i := 5) sc_serial.nd rfl (Or.inl rfl)) (pgs_cons (pg_name (i := 3) sc_serial.nd rfl (Or.inl rfl)) pgs_nil))))
  (pss_one (ps_expr (pe_bm PySem.F.plainAttrs_list PySem.F.slot_list_append PySem.F.type_list_append mt_append (pv 2) (pa_cons (pv 5) pa_nil)))))))
  (pss_one (ps_ret (pe_tup (pa_cons (pv 2) (pa_cons (pv 3) pa_nil))))))))), ?_⟩
    have lsk : sk.length = keys.length := (perm_of_mem (lt_nodup pw) kok.nd sm).length_eq
    have lk := kok.len
    have lds := paired_len hdp
    refine ⟨_, rfl, .inl ⟨ka, keys, rfl, hka, kok, fun H1 s1 => ?_⟩⟩
    refine ⟨(show 0 ≤ sizeLine by decide), fun f nf => ?_⟩
    have s2 := same_new (o := .lst []) nf
    have nf0 := s1.free nf
    refine ⟨_, rfl, ka, keys, rfl, Same.seq (s1.trans s2) hka, fun ns' n0 hpm hpw nn => ?_⟩
    have en : ns' = sk := sorted_eq (hpm.trans (perm_of_mem (lt_nodup pw) kok.nd sm).symm) hpw (lt_le pw)
    subst en
    have s3 := same_new (o := .lst (ns'.map V.int)) nn
    have s30 := (s1.trans s2).trans s3
    have nn0 := (s1.trans s2).free nn
    have hf3 := s3 _ _ (show upd H1 f (.lst []) f = some (.lst []) from upd_same)
    have hn3 : upd (upd H1 f (.lst [])) n0 (.lst (ns'.map V.int)) n0 = some (.lst (iL ns')) := upd_same
    have hnf : n0 ≠ f := fun z => by rw [z] at nn; have := upd_same (H := H1) (a := f) (o := HO.lst []); rw [nn] at this; cases this
    clear s1 s2 s3 nf nn hpm hpw
    generalize upd (upd H1 f (.lst [])) n0 (.lst (ns'.map V.int)) = H3 at *
    have lall : (ds ++ b :: rest).length = deeds.length + 1 + rest.length := by rw [List.length_append, List.length_cons, lds]; omega
    refine ⟨_, rfl, _, _, rfl, .inl (Same.seq s30 hda), _, rfl, by omega, by rw [List.length_map]; omega, ?_⟩
    rw [List.length_map, Int.toNat_natCast]
    refine for_range (fun j σ H4 => j ≤ deeds.length ∧ ∃ (v1 v2 : Option V) (n : Addr) (xs : List V), σ = [some (.ref ka), some (.ref da), some (.ref f), some (.ref n), v1, v2] ∧ Same H H4 ∧ H4 f = some (.lst xs) ∧ Paired (fun v a => AnsAt H H4 v a ∧ v ≠ .ref f) xs (serialK ns' (deeds.take j)).1 ∧ H n = none ∧ n ≠ f ∧ H4 n = some (.lst (iL (serialK ns' (deeds.take j)).2)))
      ⟨Nat.zero_le _, _, _, n0, [], rfl, s30, hf3, .nil, nn0, hnf, hn3⟩ ?_ ?_
    · rintro j σ H4 hj ⟨hjd, v1, v2, n, xs, rfl, s4, hf, hp, nn, nef, hn⟩
      by_cases cj : j = deeds.length
      · subst cj
        have hat : ((ds ++ b :: rest).map V.ref)[deeds.length]? = some (V.ref b) := by
          rw [List.getElem?_map, List.getElem?_append_right (by omega), ← lds, Nat.sub_self]
          rfl
        refine ⟨_, rfl, _, rfl, _, _, _, V.ref b, rfl, rfl, Same.seq s4 hda, at_of (j := deeds.length) (by omega) hat, b, o, rfl, sqT_same s4 hb, ho, hol, fun H5 s5 => ⟨_, rfl, ?_⟩⟩
        rw [hbad]
        refine iteT ⟨_, rfl, (show 2 ≤ 1000 by decide), fun a na => ⟨a, 0, _, rfl, upd_same, fun dx ndx ne => ?_⟩⟩
        have nd : H5 dx = none := by rw [upd_ne ne] at ndx; exact ndx
        exact ⟨rfl, dx, _, (upd_ne ne.symm).trans upd_same, upd_same, nd, k _ dx ((s4.trans s5).trans (made_same na nd)) (by rw [show (0 : Int) + (deeds.length : Nat) = (deeds.length : Nat) by omega]; exact upd_same)⟩
      have hj' : j < deeds.length := by omega
      have hz : deeds[j]? = some deeds[j] := List.getElem?_eq_getElem hj'
      have hdm := dok _ (List.getElem_mem hj')
      generalize deeds[j] = d at *
      obtain ⟨a, ha, had⟩ := paired_get hdp hz
      have had4 : DeedAt K H4 a d := sqT_same s4 had
      have pwn := (serialK_inv ns' pw j (deeds.take j) (by rw [List.length_take]; omega))
      have lx := paired_len hp
      have hat : ((ds ++ b :: rest).map V.ref)[j]? = some (V.ref a) := by
        rw [List.getElem?_map, List.getElem?_append_left (by omega), ha]
        rfl
      refine ⟨_, rfl, _, rfl, _, _, _, V.ref a, rfl, rfl, Same.seq s4 hda, at_of (j := j) (by omega) hat, a, oddOf d, rfl, by rw [oddOf_v]; exact had4, oddOf_k, oddOf_len, fun H5 s5 => ⟨_, rfl, ?_⟩⟩
      rw [oddOf_ok hdm]
      refine iteF ?_
      have s45 := s4.trans s5
      refine ⟨_, rfl, _, rfl, _, rfl, _, _, _, V.ref a, rfl, rfl, Same.seq s45 hda, at_of (j := j) (by omega) hat, n, a, _, d, rfl, s5 _ _ hn, sqT_same s5 had4, pwn.1, by omega, fun H6 t k' v s6 nt ht hv hk6 hk' => ?_⟩
      refine ⟨t, _, rfl, SqT.of ht, rfl, _, _, rfl, _, _, rfl, rfl, ?_⟩
      have s06 := s45.trans s6
      have hf6 := s6 _ _ (s5 _ _ hf)
      have nek : k' ≠ f := fun z => by
        rw [z, hf6] at hk'
        rcases hk6 with w | w
        · exact nef (w.symm.trans z)
        · rw [z] at w; have := s5 _ _ hf; rw [w] at this; cases this
      refine ⟨_, rfl, .inl ⟨rfl, _, SqL.of hf6⟩, _, rfl, _, _, _, rfl, rfl, hf6, small64 (by omega), ?_⟩
      rw [take_snoc hz, serialK_snoc]
      have keep : ∀ b o, H6 b = some o → b ≠ f → upd H6 f (.lst (xs ++ [v])) b = some o := fun b o e nb => by rw [upd_ne nb]; exact e
      have old : ∀ {v' : V} {a' : Ans}, AnsAt H H4 v' a' ∧ v' ≠ .ref f → AnsAt H (upd H6 f (.lst (xs ++ [v]))) v' a' ∧ v' ≠ .ref f := fun {v' a'} h => by
        refine ⟨?_, h.2⟩
        cases a' with
        | b x => exact h.1
        | l ys =>
          obtain ⟨⟨q, h1, h2, h3⟩, h4⟩ := h
          exact ⟨q, h1, h2, keep _ _ (s6 _ _ (s5 _ _ h3)) fun z => h4 (by rw [h1, z])⟩
      have new : AnsAt H (upd H6 f (.lst (xs ++ [v]))) v (answerK (serialK ns' (deeds.take j)).2 d).1 ∧ v ≠ .ref f := by
        cases e : (answerK (serialK ns' (deeds.take j)).2 d).1 with
        | b x =>
          rw [e] at hv
          have hv : v = .bl x := hv
          exact ⟨hv, by rw [hv]; simp⟩
        | l ys =>
          rw [e] at hv
          obtain ⟨q, h1, h2, h3⟩ := hv
          have qf : q ≠ f := fun z => by have := s5 _ _ hf; rw [z] at h2; rw [h2] at this; cases this
          exact ⟨⟨q, h1, s45.free h2, keep _ _ h3 qf⟩, by rw [h1]; exact fun z => qf (V.ref.inj z)⟩
      refine ⟨by omega, _, _, k', xs ++ [v], rfl, fun b o e => ?_, upd_same, paired_snoc (paired_imp hp fun v a h => old h) new, ?_, nek, keep _ _ hk' nek⟩
      · rw [upd_ne (ne_of_none e nf0)]
        exact s06 _ _ e
      · rcases hk6 with w | w
        · rw [w]; exact nn
        · exact s45.free w
    · rintro σ H4 ⟨hjd, _⟩
      omega
/-- keys that can't be -/
def spK_serial (K : PySem.W.Frag) : Sp := fun vs H _ E => ∃ (ka : Addr) (v : V) (ks : List Int) (n : Nat), vs = [.ref ka, v] ∧ SqL K H ka (iL ks) ∧ BadAt ks n ∧ ks.length ≤ 1000 ∧ ∀ (H' : Hp) (dx : Addr), Same H H' → H' dx = some (.xd [("at", .int (n : Nat))]) → E (.ref (He.ga K "BadKeys")) (some dx) H'
theorem okK_serial {P : Program} {w : World} {K : PySem.W.Frag} {mg : Str → Option Value} {base : Heap} (T : Txt w K mg base) : FnOk P w K mg base (L2N.CX P w) 5 (He.fAd K d_serial.at_) (fdOf K d_serial.at_) ["keys", "deeds"] (spK_serial K) := by
  refine T.f_serial.ok sc_serial (fun vs H Q E h => ?_) (fun cdv A outer s H vs Q E hr h => ?_)
  · obtain ⟨ka, v, ks, n, rfl, _⟩ := h
    rfl
  · obtain ⟨ka, v, ks, n, rfl, hka, bad, l1000, k⟩ := h
    refine ⟨_, (pss_cons (ps_expr (pe_callS (okX_need_keys T) (hr.mono (by decide)) rfl T.g_need_keys T.f_need_keys.kp (b_need_keys T) (fun σ => L2N.passAt (L2N.takes_of rfl rfl rfl rfl) σ) (pa_cons (pv 0) pa_nil)))
  (pss_cons (ps_set (i := 2) sc_serial.nd rfl (Or.inl rfl) (pe_lst pa_nil))
  (pss_cons (ps_set (i := 3) sc_serial.nd rfl (Or.inl rfl) (pe_callB cr_sortedI (by rfl) T.b_sorted (by decide +kernel) (pa_cons (pv 0) pa_nil)))
  (pss_cons (ps_for (passes_of rfl) rfl (pi_range1 (by rfl) T.b_range (pa_cons (pe_callB call_len_seq (by rfl) T.b_len PySem.boot_len (pa_cons (pv 1) pa_nil)) pa_nil)) (pg_name (i := 4) sc_serial.nd rfl (Or.inl rfl))
  (pss_cons (ps_if (pt_not (pt_val (pe_call (okG_is_deed T) (hr.mono (by decide)) rfl T.g_is_deed T.f_is_deed.kp (b_is_deed T) .nil pass0 (pa_cons (pe_ix ix_list (pv 1) (pv 4) (fun _ _ => rfl)) pa_nil)))) (pss_one (L2N.ps_raise rfl (L2N.takes_of rfl rfl rfl rfl) (pmk_oexN T.x_BadDeed T.xi_BadDeed T.xt_BadDeed (ok_BadDeed_init T) (hr.mono (by decide)) (b_BadDeed_init T) .nil pass0 (by rfl) T.g_BadDeed (pa_cons pe_int (pa_cons (pv 4) pa_nil))))) pss_nil)
  (pss_cons (ps_asg (pe_call (ok_answer T) (hr.mono (by decide)) rfl T.g_answer T.f_answer.kp (b_answer T) .nil pass0 (pa_cons (pv 3) (pa_cons (pe_ix ix_list (pv 1) (pv 4) (fun _ _ => rfl)) pa_nil))) (pg_tup (by rfl) (pgs_cons (pg_name (i := 5) sc_serial.nd rfl (Or.inl rfl)) (pgs_cons (pg_name (i := 3) sc_serial.nd rfl (Or.inl rfl)) pgs_nil))))
  (pss_one (ps_expr (pe_bm PySem.F.plainAttrs_list PySem.F.slot_list_append PySem.F.type_list_append mt_append (pv 2) (pa_cons (pv 5) pa_nil)))))))
  (pss_one (ps_ret (pe_tup (pa_cons (pv 2) (pa_cons (pv 3) pa_nil))))))))), ?_⟩
    exact ⟨_, rfl, .inr ⟨ka, ks, n, rfl, hka, bad, l1000, k⟩⟩
def spE_serial (K : PySem.W.Frag) : Sp := fun vs H Q E => (sp_serial K vs H Q E ∨ spX_serial K vs H Q E) ∨ spK_serial K vs H Q E
theorem okE_serial {P : Program} {w : World} {K : PySem.W.Frag} {mg : Str → Option Value} {base : Heap} (T : Txt w K mg base) : FnOk P w K mg base (L2N.CX P w) (2 + 3) (He.fAd K d_serial.at_) (fdOf K d_serial.at_) ["keys", "deeds"] (spE_serial K) := FnOk.either (FnOk.either (FnOk.toX ((ok_serial T).mono (by decide))) (okX_serial T)) (okK_serial T)

/-! ### what serial is refused with, told -/
def sp_l_told (K : PySem.W.Frag) : Sp := fun vs H Q _ => ∃ (ka da : Addr), vs = [.ref ka, .ref da] ∧
  ((∃ (ks : List Int) (n : Nat), SqL K H ka (iL ks) ∧ BadAt ks n ∧ ks.length ≤ 1000 ∧ ∀ H' t, Same H H' → H t = none → H' t = some (.lst [.str "keys", .int (n : Nat)]) → Q (.ref t) H') ∨
   (∃ (keys sk : List Int) (ds rest : List Addr) (deeds : List Deed) (b : Addr) (o : Odd), SqL K H ka (iL keys) ∧ KeysOk keys ∧ sk.Pairwise (· < ·) ∧ (∀ x, x ∈ sk ↔ x ∈ keys) ∧
    SqL K H da ((ds ++ b :: rest).map V.ref) ∧ Paired (DeedAt K H) ds deeds ∧ (∀ d ∈ deeds, DeedOk d) ∧ (ds ++ b :: rest).length ≤ 500 ∧ SqT K H b (oddV o) ∧ OddK K o ∧ (∀ w xs, o = .mk w xs → xs.length ≤ 100) ∧ oddOk o = false ∧
    ∀ H' t, Same H H' → H t = none → H' t = some (.lst [.str "deed", .int 0, .int (deeds.length : Nat)]) → Q (.ref t) H'))
theorem is_kk : decide ([true, false, false, false] = wordsL.map fun o => decide (V.str "keys" = V.str o)) = true := by decide +kernel
theorem is_dk : decide ([false, true, false, false] = wordsL.map fun o => decide (V.str "keys" = V.str o)) = false := by decide +kernel
theorem is_dd : decide ([false, true, false, false] = wordsL.map fun o => decide (V.str "deed" = V.str o)) = true := by decide +kernel
abbrev N_l_told : List Str := ["_law_keys_here", "_law_deeds", "_law_e"]
theorem sc_l_told : FnScope N_l_told ["_law_keys_here", "_law_deeds"] (defScope s_l_told) := ⟨rfl, rfl, rfl, by decide +kernel, rfl, by decide +kernel, by decide +kernel⟩
theorem b_l_told {w : World} {K : PySem.W.Frag} {mg : Str → Option Value} {base : Heap} (T : Txt w K mg base) : Binds K (fdOf K d_l_told.at_) ["_law_keys_here", "_law_deeds"] [] := T.f_l_told.bindsN fun _ _ _ _ _ _ us hl => match us, hl with | [_, _], _ => rfl
theorem ok_l_told {P : Program} {w : World} {K : PySem.W.Frag} {mg : Str → Option Value} {base : Heap} (T : Txt w K mg base) : FnOk P w K mg base CX0 9 (He.fAd K d_l_told.at_) (fdOf K d_l_told.at_) ["_law_keys_here", "_law_deeds"] (sp_l_told K) := by
  refine T.f_l_told.ok sc_l_told (fun vs H Q E h => ?_) (fun cdv A outer s H vs Q E hr h => ?_)
  · obtain ⟨ka, da, rfl, _⟩ := h
    rfl
  · obtain ⟨ka, da, rfl, c⟩ := h
    refine ⟨_, PSs.nox (pss_one (L2N.ps_try_as (i := 2) rfl rfl sc_l_told.nd rfl rfl ⟨rfl, by decide, .inl T.g_PageError⟩ takes0 (fun W pn xe tk po => (pss_one (ps_ret (pe_callS (okE_serial T) (hr.mono (by decide)) rfl T.g_serial T.f_serial.kp (b_serial T) (fun σ => L2N.passAt tk σ) (pa_cons (pv 0) (pa_cons (pv 1) pa_nil)))))) (fun a oe cls d pn hz hf => (pss_cons (ps_if (pt_val (pe_callE0 (okE_l_is T) (L2H.roomH_mark (hr.mono (by decide)) _) List.mem_cons_self ⟨rfl, hotF hz hf⟩ hz.zc rfl T.g_l_is T.f_l_is.kp (b_l_is T) (pa_cons (pv 2) (pa_cons pe_str pa_nil)))) (pss_one (ps_ret (pe_lst (pa_cons pe_str (pa_cons (pe_xf T.xf_BadKeys T.xn_BadKeys_at hz.zc hf (pv 2)) pa_nil))))) pss_nil)
  (pss_one (ps_ret (pe_ifExp (pt_val (pe_callE0 (okE_l_is T) (L2H.roomH_mark (hr.mono (by decide)) _) List.mem_cons_self ⟨rfl, hotF hz hf⟩ hz.zc rfl T.g_l_is T.f_l_is.kp (b_l_is T) (pa_cons (pv 2) (pa_cons pe_str pa_nil)))) (pe_lst (pa_cons pe_str (pa_cons (pe_xf T.xf_BadDeed T.xn_BadDeed_hand hz.zc hf (pv 2)) (pa_cons (pe_xf T.xf_BadDeed T.xn_BadDeed_number hz.zc hf (pv 2)) pa_nil)))) pe_non))))))), ?_⟩
    rcases c with ⟨ks, n, hka, bad, l1000, k⟩ | ⟨keys, sk, ds, rest, deeds, b, o, hka, kok, pw, sm, hda, hdp, dok, dl, hb, ho, hol, hbad, k⟩
    · refine ⟨_, rfl, _, rfl, .inr ⟨ka, .ref da, ks, n, rfl, hka, bad, l1000, fun H1 dx s1 hdx => ?_⟩⟩
      refine ⟨true, T.te_BadKeys_PageError, fun _ e ne => ?_, fun z => by cases z⟩
      refine ⟨_, rfl, He.ga K "BadKeys", true, false, false, false, "keys", rfl, rfl, T.xc_BadKeys, T.ki_BadKeys_BadKeys, T.ki_BadKeys_BadDeed, T.ki_BadKeys_NoHand, T.ki_BadKeys_TooMany, T.ki_BadKeys_V, .inr ⟨dx, _, rfl, hdx⟩, fun H2 s2 => ⟨_, rfl, ?_⟩⟩
      rw [is_kk]
      refine iteT ⟨_, rfl, rfl, rfl, dx, _, _, rfl, s2 _ _ hdx, rfl, (show 2 ≤ sizeLine by decide), fun t nt => ?_⟩
      exact k _ t ((s1.trans s2).trans (same_new nt)) ((s1.trans s2).free nt) upd_same
    · refine ⟨_, rfl, _, rfl, .inl (.inr ⟨ka, da, keys, sk, ds, rest, deeds, b, o, rfl, hka, kok, pw, sm, hda, hdp, dok, dl, hb, ho, hol, hbad, fun H1 dx s1 hdx => ?_⟩)⟩
      refine ⟨true, T.te_BadDeed_PageError, fun _ e ne => ?_, fun z => by cases z⟩
      refine ⟨_, rfl, He.ga K "BadDeed", false, true, false, false, "keys", rfl, rfl, T.xc_BadDeed, T.ki_BadDeed_BadKeys, T.ki_BadDeed_BadDeed, T.ki_BadDeed_NoHand, T.ki_BadDeed_TooMany, T.ki_BadDeed_V, .inr ⟨dx, _, rfl, hdx⟩, fun H2 s2 => ⟨_, rfl, ?_⟩⟩
      rw [is_dk]
      refine iteF ⟨_, rfl, He.ga K "BadDeed", false, true, false, false, "deed", rfl, rfl, T.xc_BadDeed, T.ki_BadDeed_BadKeys, T.ki_BadDeed_BadDeed, T.ki_BadDeed_NoHand, T.ki_BadDeed_TooMany, T.ki_BadDeed_V, .inr ⟨dx, _, rfl, s2 _ _ hdx⟩, fun H3 s3 => ⟨_, rfl, ?_⟩⟩
      rw [is_dd]
      have s23 := s2.trans s3
      refine iteT ⟨_, rfl, rfl, rfl, dx, _, _, rfl, s23 _ _ hdx, rfl, _, rfl, rfl, rfl, dx, _, _, rfl, s23 _ _ hdx, rfl, (show 3 ≤ sizeLine by decide), fun t nt => ?_⟩
      exact k _ t ((s1.trans s23).trans (same_new nt)) ((s1.trans s23).free nt) upd_same

/-! ### the law -/
theorem cutFrom {xs : List V} {j : Nat} : cutV xs (some (j : Int)) none = xs.drop j := by
  unfold cutV
  have e1 : HT.sIx xs.length 0 (some (j : Int)) = min j xs.length := HT.sIx_nat ..
  have e2 : HT.sIx xs.length xs.length none = xs.length := rfl
  rw [e1, e2]
  by_cases c : j ≤ xs.length
  · rw [Nat.min_eq_left c, List.take_of_length_le (by rw [List.length_drop]; omega)]
  · rw [Nat.min_eq_right (by omega), List.drop_eq_nil_of_le (Nat.le_refl _), List.drop_eq_nil_of_le (by omega)]
    simp
theorem cutTo' {xs : List V} {j : Nat} : cutV xs none (some (j : Int)) = xs.take j := by
  by_cases c : j ≤ xs.length
  · exact cutTo c
  · have e := cutTo (xs := xs) (Nat.le_refl _)
    unfold cutV at e ⊢
    have e1 : HT.sIx xs.length xs.length (some (j : Int)) = min j xs.length := HT.sIx_nat ..
    have e2 : HT.sIx xs.length xs.length (some (xs.length : Int)) = min xs.length xs.length := HT.sIx_nat ..
    rw [e1, Nat.min_eq_right (by omega)]
    rw [e2, Nat.min_self] at e
    rw [e, List.take_of_length_le (Nat.le_refl _), List.take_of_length_le (by omega)]
def deedD : Deed → PyData
  | .put k => .tuple [.str "put", .int k]
  | .take k => .tuple [.str "take", .int k]
  | .ask k => .tuple [.str "ask", .int k]
  | .walk lo hi => .tuple [.str "walk", .int lo, .int hi]
theorem flat_deed (d : Deed) : Flat 1 (deedD d) := by
  cases d with
  | walk lo hi => exact Flat.tup3 Flat.str Flat.int Flat.int
  | _ => exact Flat.tup2 Flat.str Flat.int
theorem deed_dp {K : PySem.W.Frag} {H : Hp} {x : Addr} {d : Deed} (h : H x = some (.tup (deedV d))) : Dp K H (.ref x) (deedD d) := by
  cases d with
  | walk lo hi => exact .tup (SqT.of h) (.cons (.str _) (.cons (.int _) (.cons (.int _) .nil)))
  | _ => exact .tup (SqT.of h) (.cons (.str _) (.cons (.int _) .nil))
def hand02 (keys : List Int) (pr : List Deed) : PyData := .list [.list (iD keys), .list (pr.map deedD)]
theorem flat_hand02 {keys : List Int} {pr : List Deed} : Flat 3 (hand02 keys pr) := Flat.list fun d hd => by
  simp only [List.mem_cons, List.not_mem_nil, or_false] at hd
  rcases hd with e | e <;> rw [e]
  · exact (flat_ints _).mono (by omega)
  · exact flat_map flat_deed pr
theorem hand02_dp {K : PySem.W.Frag} {H : Hp} {h k r : Addr} {keys : List Int} {ds : List Addr} {pr : List Deed} (h1 : H h = some (.lst [.ref k, .ref r])) (h2 : H k = some (.lst (iL keys))) (h3 : H r = some (.lst (ds.map V.ref))) (h4 : Paired (fun x de => H x = some (.tup (deedV de))) ds pr) : Dp K H (.ref h) (hand02 keys pr) :=
  .lst (SqL.of h1) (.cons (dp_int (SqL.of h2)) (.cons (.lst (SqL.of h3) (dpAll_ref (fun _ _ w => deed_dp w) h4)) .nil))
theorem rep_all (n : Nat) (xs : List Int) : (List.replicate n (iL xs)).flatten = iL (List.replicate n xs).flatten := by
  induction n with
  | zero => rfl
  | succ n ih => rw [List.replicate_succ, List.flatten_cons, ih, List.replicate_succ, List.flatten_cons]; simp [iL]
theorem len_rep (n : Nat) (xs : List Int) : (List.replicate n xs).flatten.length = n * xs.length := by
  induction n with
  | zero => simp
  | succ n ih => rw [List.replicate_succ, List.flatten_cons, List.length_append, ih, Nat.succ_mul, Nat.add_comm]
theorem rg_all (n : Nat) : rgV 0 (n : Int) = iL ((List.range n).map fun i => (0 : Int) + (i : Nat)) := by
  unfold rgV
  simp [iL]
/-- a key that can't be, in the middle -/
theorem bad_at {keys : List Int} (kok : KeysOk keys) {j : Nat} (hj : j ≤ keys.length) (h40 : j < 40) {x : Int} (hx : x < 0 ∨ 99 < x ∨ x ∈ keys.take j) : BadAt ((keys.take j ++ [x, 100] ++ keys.drop j).take 40) j := by
  have lt : (keys.take j).length = j := by rw [List.length_take]; omega
  have e1 : keys.take j ++ [x, 100] ++ keys.drop j = keys.take j ++ (x :: (100 :: keys.drop j)) := by simp
  have tk : ∀ m, m ≤ j → ((keys.take j ++ (x :: (100 :: keys.drop j))).take 40).take m = keys.take m := fun m hm => by
    rw [List.take_take, Nat.min_eq_left (by omega), List.take_append_of_le_length (by omega), List.take_take, Nat.min_eq_left hm]
  rw [e1]
  refine .inr ⟨by rw [List.length_take]; omega, fun i hi => ?_, x, ?_, ?_⟩
  · have hk : keys[i]? = some keys[i] := List.getElem?_eq_getElem (by omega)
    have hm := kok.rng _ (List.getElem_mem (l := keys) (n := i) (by omega))
    refine ⟨keys[i], ?_, hm.1, hm.2, ?_⟩
    · rw [List.getElem?_take, if_pos (by omega), List.getElem?_append_left (by omega), List.getElem?_take, if_pos hi]
      exact hk
    · rw [tk i (by omega)]
      intro hin
      obtain ⟨p, hp, e⟩ := List.mem_iff_getElem.mp hin
      rw [List.length_take] at hp
      rw [List.getElem_take] at e
      have := (List.getElem_inj kok.nd).mp e
      omega
  · rw [List.getElem?_take, if_pos h40, List.getElem?_append_right (by omega), lt, Nat.sub_self]
    rfl
  · rw [tk j (Nat.le_refl _)]
    exact hx
theorem seq_cut {t u : TS} {D : L2.Ends} {σ : L2.St} {H : Hp} (I : L2.St → Hp → Prop) (h2 : ∀ σ' H', I σ' H' → u D σ' H') (h1 : (∀ σ' H', I σ' H' → u D σ' H') → t { D with nx := u D } σ H) : tSeq t u D σ H := h1 h2
def oddsL : List Odd := [.nil, .mk "put" [], .mk "put" [1, 2], .mk "puts" [1], .mk "ask" [-1], .mk "take" [100], .mk "walk" [3], .mk "walk" [3, 2], .mk "walk" [0, 100]]
theorem odds_bad : ∀ o ∈ oddsL, oddOk o = false := by decide +kernel
theorem odds_len : ∀ o ∈ oddsL, ∀ w xs, o = .mk w xs → xs.length ≤ 100 := by
  intro o ho w xs e
  simp only [oddsL, List.mem_cons, List.not_mem_nil, or_false] at ho
  rcases ho with z | z | z | z | z | z | z | z | z <;> rw [z] at e <;> cases e <;> simp
theorem odds_k {w : World} {K : PySem.W.Frag} {mg : Str → Option Value} {base : Heap} (T : Txt w K mg base) : ∀ o ∈ oddsL, OddK K o := by
  intro o ho
  simp only [oddsL, List.mem_cons, List.not_mem_nil, or_false] at ho
  rcases ho with z | z | z | z | z | z | z | z | z <;> rw [z]
  · trivial
  · exact .inl (.inl rfl)
  · exact .inl (.inl rfl)
  · exact .inr ⟨by decide +kernel, T.z_no_puts⟩
  · exact .inl (.inr (.inr (.inl rfl)))
  · exact .inl (.inr (.inl rfl))
  · exact .inl (.inr (.inr (.inr rfl)))
  · exact .inl (.inr (.inr (.inr rfl)))
  · exact .inl (.inr (.inr (.inr rfl)))
theorem lk_told {H : Hp} {t t' : Addr} {s : Str} {i : Nat} {j : Int} (hs : (PyData.str s).canLay0 = true) (e : (i : Int) = j) (h1 : H t = some (.lst [.str s, .int i])) (h2 : H t' = some (.lst [.str s, .int j])) : Lk H 6 (.ref t) (.ref t') := by
  rw [← e] at h2
  exact lk_lst h1 h2 (.cons (lk_str s hs) (.cons (.inr (.inl ⟨_, rfl, rfl⟩)) .nil)) (by simp)
theorem lk_told3 {H : Hp} {t t' : Addr} {s : Str} {i : Nat} {j : Int} (hs : (PyData.str s).canLay0 = true) (e : (i : Int) = j) (h1 : H t = some (.lst [.str s, .int 0, .int i])) (h2 : H t' = some (.lst [.str s, .int 0, .int j])) : Lk H 6 (.ref t) (.ref t') := by
  rw [← e] at h2
  exact lk_lst h1 h2 (.cons (lk_str s hs) (.cons (.inr (.inl ⟨_, rfl, rfl⟩)) (.cons (.inr (.inl ⟨_, rfl, rfl⟩)) .nil))) (by simp)
def sp_law (K : PySem.W.Frag) : Sp := fun vs H Q _ => ∃ (a : Addr) (ns : List Int), vs = [.ref a] ∧ SqL K H a (ns.map V.int) ∧ ns.length ≤ 63 ∧ TabsOk K H ∧ ∀ H', Q (.bl true) H'
abbrev N_law : List Str := ["_law_script", "_law_d", "_law_keys_here", "_law_far", "_law_deeds", "_law_k", "_law_answers", "_law_now", "_law_deed_here", "_law_told_here", "_law_handed", "_law_turn", "_law_found", "_law_at", "_law_bad", "_law_many", "_law_odd"]
theorem sc_law : FnScope N_law ["_law_script"] (defScope s_law) := ⟨rfl, rfl, rfl, by decide +kernel, rfl, by decide +kernel, by decide +kernel⟩
theorem b_law {w : World} {K : PySem.W.Frag} {mg : Str → Option Value} {base : Heap} (T : Txt w K mg base) : Binds K (fdOf K d_law.at_) ["_law_script"] [] := T.f_law.bindsN fun _ _ _ _ _ _ us hl => match us, hl with | [_], _ => rfl
theorem ok_law {P : Program} {w : World} {K : PySem.W.Frag} {mg : Str → Option Value} {base : Heap} (T : Txt w K mg base) : FnOk P w K mg base CX0 10 (He.fAd K d_law.at_) (fdOf K d_law.at_) ["_law_script"] (sp_law K) := by
  refine T.f_law.ok sc_law (fun vs H Q E h => ?_) (fun cdv A outer s H vs Q E hr h => ?_)
  · obtain ⟨a, ns, rfl, _⟩ := h
    rfl
  · obtain ⟨a, ns, rfl, hS, hl, tb, k⟩ := h
    have hu := hu_of hr
    refine ⟨_, PSs.nox (pss_cons (ps_set (i := 1) sc_law.nd rfl (Or.inr rfl) (pe_call (ok_l_dice T) (hr.mono (by decide)) rfl T.g_l_dice T.f_l_dice.kp (b_l_dice T) .nil pass0 (pa_cons (pv 0) pa_nil)))
  (pss_cons (ps_asg (pe_call (ok_l_keys T) (hr.mono (by decide)) rfl T.g_l_keys T.f_l_keys.kp (b_l_keys T) .nil pass0 (pa_cons (pv 1) pa_nil)) (pg_tup (by rfl) (pgs_cons (pg_name (i := 2) sc_law.nd rfl (Or.inl rfl)) (pgs_cons (pg_name (i := 3) sc_law.nd rfl (Or.inr rfl)) pgs_nil))))
  (pss_cons (ps_setLc (i := 4) (own := [("_law_k", 5)]) (g := gName 5) rfl sc_law.nd rfl rfl (sw_true rfl rfl rfl (by decide +kernel)) (pi_range1 (by rfl) T.b_range (pa_cons (pe_call (ok_l_next T) (hr.mono (by decide)) rfl T.g_l_next T.f_l_next.kp (b_l_next T) .nil pass0 (pa_cons (pv 1) (pa_cons pe_int pa_nil))) pa_nil)) (blkOk_by (own := [("_law_k", 5)]) (N := N_law) (sc := defScope s_law) (by decide +kernel)) (fun _ _ _ _ _ => pg_name (i := 5) sc_law.nd rfl (Or.inl rfl)) (fun _ _ _ _ _ => pts_nil) (fun _ _ _ _ _ => (pe_call (ok_l_deed T) (hr.mono (by decide)) rfl T.g_l_deed T.f_l_deed.kp (b_l_deed T) .nil pass0 (pa_cons (pv 1) (pa_cons (pv 3) pa_nil)))))
  (pss_cons (ps_set (i := 6) sc_law.nd rfl (Or.inl rfl) (pe_lst pa_nil))
  (pss_cons (ps_set (i := 7) sc_law.nd rfl (Or.inl rfl) (pe_callTy call_list_of (by rfl) T.b_list (by decide +kernel) (pa_cons (pv 2) pa_nil)))
  (pss_cons (ps_for PassesOwn.never rfl (pi_list (pv 4)) (pg_name (i := 8) sc_law.nd rfl (Or.inl rfl))
  (pss_cons (ps_asg (pe_call (ok_l_answer T) (hr.mono (by decide)) rfl T.g_l_answer T.f_l_answer.kp (b_l_answer T) .nil pass0 (pa_cons (pv 7) (pa_cons (pv 8) pa_nil))) (pg_tup (by rfl) (pgs_cons (pg_name (i := 9) sc_law.nd rfl (Or.inl rfl)) (pgs_cons (pg_name (i := 7) sc_law.nd rfl (Or.inl rfl)) pgs_nil))))
  (pss_one (ps_expr (pe_bm PySem.F.plainAttrs_list PySem.F.slot_list_append PySem.F.type_list_append mt_append (pv 6) (pa_cons (pv 9) pa_nil))))))
  (pss_cons (ps_set (i := 10) sc_law.nd rfl (Or.inl rfl) (pe_lst (pa_cons (pe_callTy call_list_of (by rfl) T.b_list (by decide +kernel) (pa_cons (pv 2) pa_nil)) (pa_cons (pe_callTy call_list_of (by rfl) T.b_list (by decide +kernel) (pa_cons (pv 4) pa_nil)) pa_nil))))
  (pss_cons (ps_for PassesOwn.never rfl (pi_range1 (by rfl) T.b_range (pa_cons pe_int pa_nil)) (pg_name (i := 11) sc_law.nd rfl (Or.inl rfl))
  (pss_cons (ps_set (i := 12) sc_law.nd rfl (Or.inl rfl) (pe_call (ok_serial T) (hr.mono (by decide)) rfl T.g_serial T.f_serial.kp (b_serial T) .nil pass0 (pa_cons (pe_ix ix_list (pv 10) pe_int (fun _ _ => rfl)) (pa_cons (pe_ix ix_list (pv 10) pe_int (fun _ _ => rfl)) pa_nil))))
  (pss_cons (ps_if (PW.pt (pw_or (pt_not (pt_val (pe_call (ok_l_like T 6) (hr.mono (by decide)) rfl T.g_l_like T.f_l_like.kp (b_l_like T) .nil pass0 (pa_cons (pv 12) (pa_cons (pe_tup (pa_cons (pv 6) (pa_cons (pe_callB cr_sortedI (by rfl) T.b_sorted (by decide +kernel) (pa_cons (pv 7) pa_nil)) pa_nil))) pa_nil))))) (pw_or1 (pt_cmpR (op_neD hr.units) (pv 10) (pe_lst (pa_cons (pv 2) (pa_cons (pv 4) pa_nil))) (nomark _))))) (pss_one (ps_ret pe_bl)) pss_nil)
  (pss_cons (ps_expr (pe_bm PySem.F.plainAttrs_list PySem.F.slot_list_append PySem.F.type_list_append mt_append (pe_ix ix_tup (pv 12) pe_int (fun _ _ => rfl)) (pa_cons pe_int pa_nil)))
  (pss_one (ps_expr (pe_bm PySem.F.plainAttrs_list PySem.F.slot_list_append PySem.F.type_list_append mt_append (pe_ix ix_tup (pv 12) pe_int (fun _ _ => rfl)) (pa_cons pe_int pa_nil))))))))
  (pss_cons (ps_set (i := 13) sc_law.nd rfl (Or.inl rfl) (pe_call (ok_l_next T) (hr.mono (by decide)) rfl T.g_l_next T.f_l_next.kp (b_l_next T) .nil pass0 (pa_cons (pv 1) (pa_cons (pe_op op_add (pe_callB call_len_seq (by rfl) T.b_len PySem.boot_len (pa_cons (pv 2) pa_nil)) pe_int) pa_nil))))
  (pss_cons (ps_set (i := 14) sc_law.nd rfl (Or.inl rfl) (pe_op op_cat (pe_op op_cat (pe_slice sl_list (pv 2) po_none (po_some (pv 13))) (pe_lst (pa_cons (pe_ix ix_list (pe_op op_cat (pe_lst (pa_cons (pe_un un_neg pe_int) (pa_cons pe_int pa_nil))) (pe_slice sl_list (pv 2) po_none (po_some (pv 13)))) (pe_call (ok_l_next T) (hr.mono (by decide)) rfl T.g_l_next T.f_l_next.kp (b_l_next T) .nil pass0 (pa_cons (pv 1) (pa_cons (pe_op op_add pe_int (pv 13)) pa_nil))) (fun _ _ => rfl)) (pa_cons pe_int pa_nil)))) (pe_slice sl_list (pv 2) (po_some (pv 13)) po_none)))
  (pss_cons (ps_if (PW.pt (pw_and (pt_cmpR op_lt (pv 13) pe_int (nomark _)) (pw_and1 (pt_not (pt_val (pe_call (ok_l_like T 6) (hr.mono (by decide)) rfl T.g_l_like T.f_l_like.kp (b_l_like T) .nil pass0 (pa_cons (pe_call (ok_l_told T) (hr.mono (by decide)) rfl T.g_l_told T.f_l_told.kp (b_l_told T) .nil pass0 (pa_cons (pe_slice sl_list (pv 14) po_none (po_some pe_int)) (pa_cons (pv 4) pa_nil))) (pa_cons (pe_lst (pa_cons pe_str (pa_cons (pv 13) pa_nil))) pa_nil)))))))) (pss_one (ps_ret pe_bl)) pss_nil)
  (pss_cons (ps_for PassesOwn.never rfl (pi_list (pe_lst (pa_cons (pe_listRg rfl rfl T.b_list (prg_1 rfl T.b_range pe_int)) (pa_cons (pe_op op_cat (pe_lst (pa_cons pe_int pa_nil)) (pe_listRg rfl rfl T.b_list (prg_1 rfl T.b_range pe_int))) (pa_cons (pe_op op_cat (pe_op op_rep (pe_slice sl_list (pv 2) po_none (po_some pe_int)) pe_int) (pe_listRg rfl rfl T.b_list (prg_1 rfl T.b_range pe_int))) pa_nil))))) (pg_name (i := 15) sc_law.nd rfl (Or.inl rfl))
  (pss_one (ps_if (pt_not (pt_val (pe_call (ok_l_like T 6) (hr.mono (by decide)) rfl T.g_l_like T.f_l_like.kp (b_l_like T) .nil pass0 (pa_cons (pe_call (ok_l_told T) (hr.mono (by decide)) rfl T.g_l_told T.f_l_told.kp (b_l_told T) .nil pass0 (pa_cons (pv 15) (pa_cons (pe_lst (pa_cons (pe_tup pa_nil) pa_nil)) pa_nil))) (pa_cons (pe_lst (pa_cons pe_str (pa_cons pe_int pa_nil))) pa_nil))))) (pss_one (ps_ret pe_bl)) pss_nil)))
  (pss_cons (ps_set (i := 13) sc_law.nd rfl (Or.inl rfl) (pe_call (ok_l_next T) (hr.mono (by decide)) rfl T.g_l_next T.f_l_next.kp (b_l_next T) .nil pass0 (pa_cons (pv 1) (pa_cons (pe_op op_add (pe_callB call_len_seq (by rfl) T.b_len PySem.boot_len (pa_cons (pv 4) pa_nil)) pe_int) pa_nil))))
  (pss_cons (ps_set (i := 16) sc_law.nd rfl (Or.inl rfl) (pe_lst (pa_cons (pe_tup pa_nil) (pa_cons (pe_tup (pa_cons pe_str pa_nil)) (pa_cons (pe_tup (pa_cons pe_str (pa_cons pe_int (pa_cons pe_int pa_nil)))) (pa_cons (pe_tup (pa_cons pe_str (pa_cons pe_int pa_nil))) (pa_cons (pe_tup (pa_cons pe_str (pa_cons (pe_un un_neg pe_int) pa_nil))) (pa_cons (pe_tup (pa_cons pe_str (pa_cons pe_int pa_nil))) (pa_cons (pe_tup (pa_cons pe_str (pa_cons pe_int pa_nil))) (pa_cons (pe_tup (pa_cons pe_str (pa_cons pe_int (pa_cons pe_int pa_nil)))) pa_nil))))))))))
  (pss_cons (ps_expr (pe_bm PySem.F.plainAttrs_list PySem.F.slot_list_append PySem.F.type_list_append mt_append (pv 16) (pa_cons (pe_tup (pa_cons pe_str (pa_cons pe_int (pa_cons pe_int pa_nil)))) pa_nil)))
  (pss_one (ps_ret (pe_call (ok_l_like T 6) (hr.mono (by decide)) rfl T.g_l_like T.f_l_like.kp (b_l_like T) .nil pass0 (pa_cons (pe_call (ok_l_told T) (hr.mono (by decide)) rfl T.g_l_told T.f_l_told.kp (b_l_told T) .nil pass0 (pa_cons (pv 2) (pa_cons (pe_op op_cat (pe_op op_cat (pe_slice sl_list (pv 4) po_none (po_some (pv 13))) (pe_lst (pa_cons (pe_ix ix_list (pv 16) (pe_call (ok_l_next T) (hr.mono (by decide)) rfl T.g_l_next T.f_l_next.kp (b_l_next T) .nil pass0 (pa_cons (pv 1) (pa_cons pe_int pa_nil))) (fun _ _ => rfl)) (pa_cons (pe_tup pa_nil) pa_nil)))) (pe_slice sl_list (pv 4) (po_some (pv 13)) po_none)) pa_nil))) (pa_cons (pe_lst (pa_cons pe_str (pa_cons pe_int (pa_cons (pv 13) pa_nil)))) pa_nil)))))))))))))))))))), ?_⟩
    refine ⟨_, rfl, a, ns, rfl, hS, hl, fun d H1 nd s1 D1 => ?_⟩
    refine ⟨_, rfl, H, d, rfl, D1, fun H2 p ka keys far D2 S2 np nka _ hp hka kok kfar hfar => ?_⟩
    have kad := D1.ne nka
    refine ⟨p, _, rfl, SqT.of hp, rfl, _, _, rfl, _, _, rfl, rfl, ?_⟩
    clear hp np nka S2 s1 tb D1
    -- deeds
    refine ⟨_, rfl, H, d, 31, rfl, D2, by decide, by decide, fun v o v0 v1 D3 => ⟨_, rfl, by omega, by omega, fun Rl nRl => ?_⟩⟩
    have S3 : Dst H2 (upd H2 d o) d := Dst.at
    have hka3 := S3.fr _ _ hka kad
    clear S3 D2 hka
    generalize upd H2 d o = H3 at *
    have Rd : Rl ≠ d := D3.ne nRl
    have kR : ka ≠ Rl := ne_of_none hka3 nRl
    refine lc_range (fun i H4 => ∃ (ds : List Addr) (pr : List Deed), Dice K H H4 d ∧ Dst H3 H4 d ∧ H4 Rl = some (.lst (ds.map V.ref)) ∧ Paired (fun x de => H4 x = some (.tup (deedV de))) ds pr ∧ pr.length = i ∧ ∀ de ∈ pr, DeedOk de) ⟨[], [], D3.same (same_new nRl), Dst.same (same_new nRl), upd_same, .nil, rfl, by simp⟩ ?_ ?_
    · rintro i H4 hi ⟨ds, pr, D4, S4, hR, hp, hl, hok⟩
      refine ⟨rfl, _, rfl, _, rfl, H, d, far, rfl, D4, by omega, by omega, fun H5 x de D5 S5 nx hx okd => ?_⟩
      have hR5 := S5.fr _ _ hR Rd
      have keep : ∀ b xs, H4 b = some (.tup xs) → upd H5 Rl (.lst (ds.map V.ref ++ [V.ref x])) b = some (.tup xs) := fun b xs e => by
        have bd : b ≠ d := fun z => by
          obtain ⟨ys, hys, _⟩ := D4.ref0
          rw [z, hys] at e; cases e
        rw [upd_ne (fun z => by rw [z, hR] at e; cases e)]
        exact S5.fr _ _ e bd
      have xR : x ≠ Rl := fun z => by rw [z, hR] at nx; cases nx
      refine ⟨_, hR5, by rw [List.length_map, paired_len hp]; exact small64 (by omega), ds ++ [x], pr ++ [de], D5.put (D3.new0 nRl) Rd, ?_, by rw [upd_same]; simp, paired_snoc (paired_imp hp fun a b z => keep _ _ z) (by rw [upd_ne xR]; exact hx), by simp [hl], fun e he => ?_⟩
      · exact (S4.trans S5).own nRl
      · rcases List.mem_append.mp he with w | w
        · exact hok e w
        · rw [List.mem_singleton.mp w]; exact okd
    rintro H4 ⟨ds, pr, D4, S4, hR, hp, hl, hok⟩
    have hka4 := S4.fr _ _ hka3 kad
    have l31 : pr.length ≤ 30 := by rw [hl]; omega
    have ldp := paired_len hp
    clear S4 D3 hka3 nRl
    have pok1 : ProgsOk [[]] := ⟨by simp, by simp, fun p hp => by rw [List.mem_singleton.mp hp]; simp, fun p hp => by rw [List.mem_singleton.mp hp]; simp⟩
    obtain ⟨g2, mu2, I2, hh2⟩ := start_ok true kok pok1
    have skl := keysF_lt (startM true keys [[]]).fo
    have skm : ∀ x, x ∈ keysF (startM true keys [[]]).fo ↔ x ∈ keys := fun x => by rw [keysF_mem I2.tree, hh2]
    generalize keysF (startM true keys [[]]).fo = sk at *
    have skn : sk.length ≤ 40 := by rw [(perm_of_mem (lt_nodup skl) kok.nd skm).length_eq]; exact kok.len
    clear hh2 I2 g2 mu2
    -- the answers
    refine ⟨(show 0 ≤ sizeLine by decide), fun an nan => ?_⟩
    have s5 := same_new (o := .lst []) nan
    have and : an ≠ d := D4.ne nan
    refine ⟨_, rfl, ka, _, rfl, .inl (SqL.of (s5 _ _ hka4)), fun nw nnw => ?_⟩
    have s6' := same_new (o := .lst (iL keys)) nnw
    have s6 := s5.trans s6'
    have hnw6 : upd (upd H4 an (.lst [])) nw (.lst (iL keys)) nw = some (.lst (iL keys)) := upd_same
    have han6 := s6' _ _ (show upd H4 an (.lst []) an = some (.lst []) from upd_same)
    have nwan : nw ≠ an := fun z => by rw [z, upd_same] at nnw; cases nnw
    have nw0 := upd_free nnw
    have nwd : nw ≠ d := D4.ne nw0
    have D6 := D4.same s6
    have hka6 := s6 _ _ hka4
    have hR6 := s6 _ _ hR
    have hp6 : Paired (fun x de => upd (upd H4 an (.lst [])) nw (.lst (iL keys)) x = some (.tup (deedV de))) ds pr := paired_imp hp fun _ _ w => s6 _ _ w
    have Ran : Rl ≠ an := ne_of_none hR nan
    have kan : ka ≠ an := ne_of_none hka4 nan
    generalize upd (upd H4 an (.lst [])) nw (.lst (iL keys)) = H6 at *
    clear s5 s6' s6 hR hka4 hp nnw nw0
    refine ⟨_, rfl, Rl, rfl, ⟨_, SqL.of hR6⟩, ?_⟩
    refine for_list (K := K) (a := Rl) (xs := ds.map V.ref) (fun j σ H7 => ∃ (v8 v9 : Option V) (nw : Addr) (us : List Int) (vs : List V), σ = [some (.ref a), some (.ref d), some (.ref ka), some (.int far), some (.ref Rl), none, some (.ref an), some (.ref nw), v8, v9, none, none, none, none, none, none, none] ∧ Same (wo H6 an) H7 ∧ Dice K H H7 d ∧ H7 an = some (.lst vs) ∧ Paired (AnsAt (two d an) H7) vs ((serialK sk pr).1.take j) ∧
        H7 nw = some (.lst (iL us)) ∧ nw ≠ an ∧ nw ≠ d ∧ us.Nodup ∧ us.length ≤ 40 + j ∧ ∀ x, x ∈ us ↔ x ∈ (serialK sk (pr.take j)).2)
      ⟨_, _, nw, keys, [], rfl, wo_same, D6, han6, .nil, hnw6, nwan, nwd, kok.nd, by have := kok.len; omega, fun x => (skm x).symm⟩ (fun j σ H7 _ ⟨_, _, _, _, _, _, s, _⟩ => SqL.of (s _ _ (wo_at Ran hR6))) ?_ ?_
    · rintro j y σ H7 hj ⟨v8, v9, nw, us, vs, rfl, s7, D7, han, hvs, hnw, nwan, nwd, und, ul, um⟩
      obtain ⟨x, hx, rfl⟩ := map_get hj
      have hjl : j < pr.length := by rw [← ldp]; exact (List.getElem?_eq_some_iff.mp hx).1
      have hz : pr[j]? = some pr[j] := List.getElem?_eq_getElem hjl
      obtain ⟨x', hx', hxd⟩ := paired_get hp6 hz
      rw [hx] at hx'
      cases hx'
      have okj := hok _ (List.getElem_mem hjl)
      have xan : x ≠ an := fun z => by rw [z, han6] at hxd; cases hxd
      have hxd7 := s7 _ _ (wo_at xan hxd)
      have pwj := (serialK_inv sk skl _ (pr.take j) rfl).1
      obtain ⟨q1, q2⟩ := ansU_eq (d := pr[j]) pwj um
      have lv := paired_len hvs
      rw [List.length_take, (serialK_inv sk skl _ pr rfl).2.2] at lv
      have ser2 : (serialK sk (pr.take (j + 1))).2 = (answerK (serialK sk (pr.take j)).2 pr[j]).2 := by rw [take_snoc hz, serialK_snoc]
      have ser1 : (serialK sk pr).1.take (j + 1) = (serialK sk pr).1.take j ++ [(answerK (serialK sk (pr.take j)).2 pr[j]).1] := by rw [← serialK_take, take_snoc hz, serialK_snoc, serialK_take]
      rw [ser1, ser2]
      generalize pr[j] = de at *
      refine ⟨_, rfl, _, rfl, nw, x, us, de, rfl, hnw, SqT.of hxd7, okj, by omega, fun H8 t8 k8 v s8 nt8 ht8 hv hk8 hk8' => ?_⟩
      refine ⟨t8, _, rfl, SqT.of ht8, rfl, _, _, rfl, _, _, rfl, rfl, ?_⟩
      have han8 := s8 _ _ han
      have D8 := D7.same s8
      have k8an : k8 ≠ an := by
        rcases hk8 with e | e
        · rw [e]; exact nwan
        · exact fun z => by rw [z, han] at e; cases e
      have k8d : k8 ≠ d := by
        rcases hk8 with e | e
        · rw [e]; exact nwd
        · exact D7.ne e
      refine ⟨_, rfl, .inl ⟨rfl, _, SqL.of han8⟩, _, rfl, _, _, _, rfl, rfl, han8, small64 (by omega), ?_⟩
      refine ⟨_, _, k8, _, vs ++ [v], rfl, fun b o e => by rw [upd_ne (wo_of e).1]; exact s8 _ _ (s7 _ _ e), ?_, upd_same, ?_, by rw [upd_ne k8an]; exact hk8', k8an, k8d, ansU_nodup und, by have := ansU_len (us := us) (d := de); omega, q2⟩
      · exact D8.put (D4.new0 nan) and
      · refine paired_snoc (paired_imp hvs fun b c w => w.keepL fun q xs e1 e2 => ⟨e1, ?_⟩) ?_
        · rw [upd_ne (two_none.mp e1).2]
          exact s8 _ _ e2
        · rw [← q1]
          refine hv.keepL fun q xs e1 e2 => ?_
          have e3 : q ≠ an := fun z => by rw [z, han] at e1; cases e1
          exact ⟨two_none.mpr ⟨D7.ne e1, e3⟩, by rw [upd_ne e3]; exact e2⟩
    rintro σ H7 ⟨v8, v9, nw, us, vs, rfl, s7, D7, han, hvs, hnw, nwan, nwd, und, ul, um⟩
    have lser := (serialK_inv sk skl _ pr rfl).2.2
    rw [List.length_map, ldp, List.take_of_length_le (Nat.le_of_eq lser)] at hvs
    rw [List.length_map, ldp, List.take_length] at um
    rw [List.length_map, ldp] at ul
    have hka7 := s7 _ _ (wo_at kan hka6)
    have hR7 := s7 _ _ (wo_at Ran hR6)
    have hp7 : Paired (fun x de => H7 x = some (.tup (deedV de))) ds pr := paired_imp hp6 fun x de w => s7 _ _ (wo_at (fun z => by rw [z, han6] at w; cases w) w)
    clear s7 D6 D4 han6 hnw6 hka6 hR6 hp6 nan
    -- what is handed
    refine ⟨_, rfl, ka, _, rfl, .inl (SqL.of hka7), fun h1 n1 => ?_⟩
    have s8a := same_new (o := .lst (iL keys)) n1
    have hh1 : upd H7 h1 (.lst (iL keys)) h1 = some (.lst (iL keys)) := upd_same
    have n1d := D7.ne n1
    generalize upd H7 h1 (.lst (iL keys)) = H8a at *
    refine ⟨_, rfl, Rl, _, rfl, .inl (SqL.of (s8a _ _ hR7)), fun h2 n2 => ?_⟩
    have s8b := same_new (o := .lst (ds.map V.ref)) n2
    have hh2 : upd H8a h2 (.lst (ds.map V.ref)) h2 = some (.lst (ds.map V.ref)) := upd_same
    have n2d := (D7.same s8a).ne n2
    generalize upd H8a h2 (.lst (ds.map V.ref)) = H8b at *
    refine ⟨(show 2 ≤ sizeLine by decide), fun hd nhd => ?_⟩
    have s8c := same_new (o := .lst [V.ref h1, V.ref h2]) nhd
    have hhd : upd H8b hd (.lst [V.ref h1, V.ref h2]) hd = some (.lst [V.ref h1, V.ref h2]) := upd_same
    generalize upd H8b hd (.lst [V.ref h1, V.ref h2]) = H8 at *
    have hh1 := s8c _ _ (s8b _ _ hh1)
    have hh2 := s8c _ _ hh2
    have s8 := (s8a.trans s8b).trans s8c
    have D8 := D7.same s8
    have hka8 := s8 _ _ hka7
    have hR8 := s8 _ _ hR7
    have hp8 : Paired (fun x de => H8 x = some (.tup (deedV de))) ds pr := paired_imp hp7 fun _ _ w => s8 _ _ w
    have han8 := s8 _ _ han
    have hvs8 : Paired (AnsAt (two d an) H8) vs (serialK sk pr).1 := paired_imp hvs fun _ _ w => w.keepL fun q xs e1 e2 => ⟨e1, s8 _ _ e2⟩
    have hnw8 := s8 _ _ hnw
    clear s8 s8a s8b s8c D7 hka7 hR7 hp7 han hvs hnw n1 n2 nhd
    have small := fun a ha xs e => Nat.le_trans (serialK_small pr sk a ha xs e) (by omega : sk.length + pr.length ≤ 100000)
    have lvs := paired_len hvs8
    -- twice
    refine ⟨_, rfl, by decide, by decide, ?_⟩
    refine for_range (fun i σ H9 => ∃ (v11 v12 : Option V), σ = [some (.ref a), some (.ref d), some (.ref ka), some (.int far), some (.ref Rl), none, some (.ref an), some (.ref nw), v8, v9, some (.ref hd), v11, v12, none, none, none, none] ∧ Same H8 H9) ⟨_, _, rfl, Same.refl _⟩ ?_ ?_
    · rintro i σ H9 hi ⟨v11, v12, rfl, s9⟩
      have hhd9 := s9 _ _ hhd
      have hp9 : Paired (fun x de => H9 x = some (.tup (deedV de))) ds pr := paired_imp hp8 fun _ _ w => s9 _ _ w
      refine ⟨_, rfl, _, _, _, V.ref h1, rfl, rfl, SqL.of hhd9, at_of (j := 0) rfl rfl, _, rfl, _, _, _, V.ref h2, rfl, rfl, SqL.of hhd9, at_of (j := 1) rfl rfl, ?_⟩
      refine ⟨h1, h2, keys, sk, ds, pr, rfl, SqL.of (s9 _ _ hh1), kok, skl, skm, SqL.of (s9 _ _ hh2), paired_imp hp9 fun _ _ w => SqT.of w, hok, by omega, fun H10 t f n xs s10 nt ht nf hf hxs nn hn => ?_⟩
      refine ⟨_, rfl, _, rfl, _, rfl, nw, us, rfl, SqL.of (s10 _ _ (s9 _ _ hnw8)), fun ys q hpm hpw nq2 => ?_⟩
      have ey : ys = (serialK sk pr).2 := sorted_one (lt_of_le_nodup hpw (hpm.symm.nodup und)) (serialK_inv sk skl _ pr rfl).1 fun x => by rw [hpm.mem_iff, um]
      subst ey
      have u2 := same_new (o := .lst (iL (serialK sk pr).2)) nq2
      have hq2 : upd H10 q (.lst (iL (serialK sk pr).2)) q = some (.lst (iL (serialK sk pr).2)) := upd_same
      generalize upd H10 q (.lst (iL (serialK sk pr).2)) = H11 at *
      refine ⟨(show 2 ≤ sizeLine by decide), fun t2 nt2 => ?_⟩
      have u3 := same_new (o := .tup [V.ref an, V.ref q]) nt2
      have u23 := u2.trans u3
      have s0 := (s9.trans s10).trans u23
      have ht2 : upd H11 t2 (.tup [V.ref an, V.ref q]) t2 = some (.tup [V.ref an, V.ref q]) := upd_same
      have hq3 := u3 _ _ hq2
      generalize upd H11 t2 (.tup [V.ref an, V.ref q]) = H12 at *
      have lk : Lk H12 6 (.ref t) (.ref t2) := by
        have a1 : Lk H12 5 (.ref f) (.ref an) := by
          refine lk_lst (u23 _ _ hf) (s0 _ _ han8) (paired_zipm (fun v u a ha h1 h2 => ?_) hxs hvs8) (by have := paired_len hxs; omega)
          exact lk_ans (H0 := H9) (H0' := two d an) (n := 2) (h1.keepL fun q xs e1 e2 => ⟨e1, u23 _ _ e2⟩) (h2.keepL fun q xs e1 e2 => ⟨e1, s0 _ _ e2⟩) (small a ha)
        have a2 : Lk H12 5 (.ref n) (.ref q) := lk_ints (n := 3) (u23 _ _ hn) hq3 (by have := (serialK_inv sk skl _ pr rfl).2.1; omega)
        exact lk_tup (u23 _ _ ht) ht2 (.cons a1 (.cons a2 .nil)) (by simp)
      refine ⟨_, _, rfl, lk, _, rfl, iteF ?_⟩
      refine ⟨_, rfl, _, rfl, _, rfl, (show 2 ≤ sizeLine by decide), fun w nw2 => ?_⟩
      have u4 := same_new (o := .lst [V.ref ka, V.ref Rl]) nw2
      have hw : upd H12 w (.lst [V.ref ka, V.ref Rl]) w = some (.lst [V.ref ka, V.ref Rl]) := upd_same
      have s00 := s0.trans u4
      have ht4 := u4 _ _ (u23 _ _ ht)
      have hf4 := u4 _ _ (u23 _ _ hf)
      have hn4 := u4 _ _ (u23 _ _ hn)
      generalize upd H12 w (.lst [V.ref ka, V.ref Rl]) = H13 at *
      have hp13 : Paired (fun x de => H13 x = some (.tup (deedV de))) ds pr := paired_imp hp8 fun _ _ w => s00 _ _ w
      refine ⟨_, _, hand02_dp (s00 _ _ hhd) (s00 _ _ hh1) (s00 _ _ hh2) hp13, hand02_dp hw (s00 _ _ hka8) (s00 _ _ hR8) hp13, flat_hand02.shaped (by decide), flat_hand02.shaped (by decide), _, rfl, ?_⟩
      rw [eqv_same flat_hand02]
      refine iteF ?_
      have lxs := paired_len hxs
      have nf8 := s9.free nf
      have nn8 := s9.free nn
      refine ⟨_, rfl, _, _, _, V.ref f, rfl, rfl, SqT.of ht4, at_of (j := 0) rfl rfl, .inl ⟨rfl, _, SqL.of hf4⟩, _, _, _, rfl, rfl, hf4, small64 (by omega), ?_⟩
      have tf : t ≠ f := fun z => by rw [z, hf4] at ht4; cases ht4
      have tn : t ≠ n := fun z => by rw [z, hn4] at ht4; cases ht4
      have ht5 : upd H13 f (.lst (xs ++ [V.int 0])) t = some (.tup [V.ref f, V.ref n]) := by rw [upd_ne tf]; exact ht4
      obtain ⟨zs, hzs, lz⟩ : ∃ zs, upd H13 f (.lst (xs ++ [V.int 0])) n = some (.lst zs) ∧ zs.length ≤ 1000 := by
        by_cases c : n = f
        · exact ⟨_, by rw [c]; exact upd_same, by rw [List.length_append, List.length_singleton]; omega⟩
        · exact ⟨_, by rw [upd_ne c]; exact hn4, by rw [len_iL]; have := (serialK_inv sk skl _ pr rfl).2.1; omega⟩
      refine ⟨_, rfl, _, _, _, V.ref n, rfl, rfl, SqT.of ht5, at_of (j := 1) rfl rfl, .inl ⟨rfl, _, SqL.of hzs⟩, _, _, _, rfl, rfl, hzs, small64 (by omega), ?_⟩
      exact ⟨_, _, rfl, fun b o e => by rw [upd_ne (ne_of_none e nn8), upd_ne (ne_of_none e nf8)]; exact s00 _ _ e⟩
    rintro σ H9 ⟨v11, v12, rfl, s9⟩
    have D9 := D8.same s9
    have hka9 := s9 _ _ hka8
    have hR9 := s9 _ _ hR8
    have hp9 : Paired (fun x de => H9 x = some (.tup (deedV de))) ds pr := paired_imp hp8 fun _ _ w => s9 _ _ w
    clear s9 D8 hka8 hR8 hp8 han8 hvs8 hnw8 hhd hh1 hh2 n1d n2d und ul um
    -- keys that can't be
    have lk40 := kok.len
    refine ⟨_, rfl, _, rfl, _, _, rfl, .inl (SqL.of hka9), _, _, rfl, rfl, H, d, _, rfl, D9, by omega, by rw [len_iL]; omega, fun at' o at0 at1 D10 => ?_⟩
    have hka10 := (Dst.at (H := H9) (d := d) (o := o)).fr _ _ hka9 kad
    have hR10 := (Dst.at (H := H9) (d := d) (o := o)).fr _ _ hR9 Rd
    have hp10 : Paired (fun x de => upd H9 d o x = some (.tup (deedV de))) ds pr := paired_imp hp9 fun x de w => (Dst.at (H := H9) (d := d) (o := o)).fr _ _ w fun z => by
      obtain ⟨ys, hys, _⟩ := D9.ref0
      rw [z, hys] at w; cases w
    generalize upd H9 d o = H10 at *
    clear D9 hka9 hR9 hp9
    rw [len_iL] at at1
    obtain ⟨j, rfl⟩ : ∃ j : Nat, at' = (j : Int) := ⟨at'.toNat, by omega⟩
    have hj : j ≤ keys.length := by omega
    have tk : (iL keys).take j = iL (keys.take j) := by simp [iL]
    have dk : (iL keys).drop j = iL (keys.drop j) := by simp [iL]
    have ltk : (keys.take j).length ≤ 40 := by rw [List.length_take]; omega
    have ldk : (keys.drop j).length ≤ 40 := by rw [List.length_drop]; omega
    have ctk : cutV (iL keys) none (some (j : Int)) = iL (keys.take j) := by rw [cutTo', tk]
    have cdk : cutV (iL keys) (some (j : Int)) none = iL (keys.drop j) := by rw [cutFrom, dk]
    refine ⟨_, rfl, _, rfl, _, rfl, _, _, rfl, SqL.of hka10, fun l1 m1 => ?_⟩
    rw [ctk]
    have t1 := same_new (o := .lst (iL (keys.take j))) m1
    have g1 : upd H10 l1 (.lst (iL (keys.take j))) l1 = some (.lst (iL (keys.take j))) := upd_same
    have l1d := D10.ne m1
    have D11 := D10.same t1
    generalize upd H10 l1 (.lst (iL (keys.take j))) = H11 at *
    refine ⟨_, rfl, (show 2 ≤ sizeLine by decide), fun l2 m2 => ?_⟩
    have t2 := same_new (o := .lst [V.int (-1), V.int 100]) m2
    have g2 : upd H11 l2 (.lst [V.int (-1), V.int 100]) l2 = some (.lst (iL [-1, 100])) := upd_same
    have D12 := D11.same t2
    generalize upd H11 l2 (.lst [V.int (-1), V.int 100]) = H12 at *
    refine ⟨_, rfl, _, rfl, _, rfl, _, _, rfl, SqL.of (t2 _ _ (t1 _ _ hka10)), fun l3 m3 => ?_⟩
    rw [ctk]
    have t3 := same_new (o := .lst (iL (keys.take j))) m3
    have g3 : upd H12 l3 (.lst (iL (keys.take j))) l3 = some (.lst (iL (keys.take j))) := upd_same
    have D13 := D12.same t3
    have g2 := t3 _ _ g2
    generalize upd H12 l3 (.lst (iL (keys.take j))) = H13 at *
    refine ⟨_, _, _, _, rfl, rfl, g2, g3, Nat.le_trans (m := 1000) (by rw [len_iL, len_iL]; simp; omega) (by decide), fun l4 m4 => ?_⟩
    have e4 : iL [-1, 100] ++ iL (keys.take j) = iL ([-1, 100] ++ keys.take j) := by simp [iL]
    rw [e4]
    have t4 := same_new (o := .lst (iL ([-1, 100] ++ keys.take j))) m4
    have g4 : upd H13 l4 (.lst (iL ([-1, 100] ++ keys.take j))) l4 = some (.lst (iL ([-1, 100] ++ keys.take j))) := upd_same
    have l4d := D13.ne m4
    have D14 := D13.same t4
    have t14 := ((t1.trans t2).trans t3).trans t4
    have g1 := t4 _ _ (t3 _ _ (t2 _ _ g1))
    generalize upd H13 l4 (.lst (iL ([-1, 100] ++ keys.take j))) = H14 at *
    have hka14 := t14 _ _ hka10
    have hR14 := t14 _ _ hR10
    have hp14 : Paired (fun x de => H14 x = some (.tup (deedV de))) ds pr := paired_imp hp10 fun _ _ w => t14 _ _ w
    clear t14 t1 t2 t3 t4 m1 m2 m3 m4 g2 g3 e4 D10 D11 D12 D13 hka10 hR10 hp10
    refine ⟨_, rfl, _, rfl, _, _, rfl, rfl, H, d, _, rfl, D14, by omega, by omega, fun c o c0 c1 D15 => ?_⟩
    have S15 : Dst H14 (upd H14 d o) d := Dst.at
    have hka15 := S15.fr _ _ hka14 kad
    have hR15 := S15.fr _ _ hR14 Rd
    have hp15 : Paired (fun x de => upd H14 d o x = some (.tup (deedV de))) ds pr := paired_imp hp14 fun x de w => S15.fr _ _ w fun z => by
      obtain ⟨ys, hys, _⟩ := D14.ref0
      rw [z, hys] at w; cases w
    have g1 := S15.fr _ _ g1 l1d
    have g4 := S15.fr _ _ g4 l4d
    generalize upd H14 d o = H15 at *
    clear S15 D14 hka14 hR14 hp14 l4d l1d
    obtain ⟨x, hx, hxb⟩ : ∃ x : Int, ([-1, 100] ++ keys.take j)[c.toNat]? = some x ∧ (x < 0 ∨ 99 < x ∨ x ∈ keys.take j) := by
      have lx : ([-1, 100] ++ keys.take j).length = 2 + j := by rw [List.length_append, List.length_take]; simp; omega
      refine ⟨_, List.getElem?_eq_getElem (by rw [lx]; omega), ?_⟩
      rcases List.mem_append.mp (List.getElem_mem (l := [-1, 100] ++ keys.take j) (n := c.toNat) (by rw [lx]; omega)) with z | z
      · rcases List.mem_cons.mp z with z | z
        · rw [z]; exact .inl (by decide)
        · rw [List.mem_singleton.mp z]; exact .inr (.inl (by decide))
      · exact .inr (.inr z)
    refine ⟨_, _, _, V.int x, rfl, rfl, SqL.of g4, at_of (j := c.toNat) (by omega) (iL_at hx), (show 2 ≤ sizeLine by decide), fun l5 m5 => ?_⟩
    have t5 := same_new (o := .lst [V.int x, V.int 100]) m5
    have g5 : upd H15 l5 (.lst [V.int x, V.int 100]) l5 = some (.lst (iL [x, 100])) := upd_same
    generalize upd H15 l5 (.lst [V.int x, V.int 100]) = H16 at *
    refine ⟨_, _, _, _, rfl, rfl, t5 _ _ g1, g5, Nat.le_trans (m := 1000) (by rw [len_iL, len_iL]; simp; omega) (by decide), fun l6 m6 => ?_⟩
    have e6 : iL (keys.take j) ++ iL [x, 100] = iL (keys.take j ++ [x, 100]) := by simp [iL]
    rw [e6]
    have t6 := same_new (o := .lst (iL (keys.take j ++ [x, 100]))) m6
    have g6 : upd H16 l6 (.lst (iL (keys.take j ++ [x, 100]))) l6 = some (.lst (iL (keys.take j ++ [x, 100]))) := upd_same
    generalize upd H16 l6 (.lst (iL (keys.take j ++ [x, 100]))) = H17 at *
    refine ⟨_, rfl, _, rfl, _, rfl, _, _, rfl, SqL.of (t6 _ _ (t5 _ _ hka15)), fun l7 m7 => ?_⟩
    rw [cdk]
    have t7 := same_new (o := .lst (iL (keys.drop j))) m7
    have g7 : upd H17 l7 (.lst (iL (keys.drop j))) l7 = some (.lst (iL (keys.drop j))) := upd_same
    have g6 := t7 _ _ g6
    generalize upd H17 l7 (.lst (iL (keys.drop j))) = H18 at *
    refine ⟨_, _, _, _, rfl, rfl, g6, g7, Nat.le_trans (m := 1000) (by rw [len_iL, len_iL, List.length_append]; simp; omega) (by decide), fun bl m8 => ?_⟩
    have e8 : iL (keys.take j ++ [x, 100]) ++ iL (keys.drop j) = iL (keys.take j ++ [x, 100] ++ keys.drop j) := by simp [iL]
    rw [e8]
    have t8 := same_new (o := .lst (iL (keys.take j ++ [x, 100] ++ keys.drop j))) m8
    have g8 : upd H18 bl (.lst (iL (keys.take j ++ [x, 100] ++ keys.drop j))) bl = some (.lst (iL (keys.take j ++ [x, 100] ++ keys.drop j))) := upd_same
    have t58 := ((t5.trans t6).trans t7).trans t8
    generalize upd H18 bl (.lst (iL (keys.take j ++ [x, 100] ++ keys.drop j))) = H19 at *
    have hka19 := t58 _ _ hka15
    have hR19 := t58 _ _ hR15
    have hp19 : Paired (fun x de => H19 x = some (.tup (deedV de))) ds pr := paired_imp hp15 fun _ _ w => t58 _ _ w
    have D19 := D15.same t58
    clear t58 t5 t6 t7 t8 m5 m6 m7 m8 g5 g6 g7 g1 g4 e6 e8 D15 hka15 hR15 hp15
    dsimp only [gName]
    refine seq_cut (fun σ H20 => σ = [some (.ref a), some (.ref d), some (.ref ka), some (.int far), some (.ref Rl), none, some (.ref an), some (.ref nw), v8, v9, some (.ref hd), v11, v12, some (.int (j : Nat)), some (.ref bl), none, none] ∧ Same H19 H20) ?_ ?_
    rotate_left
    · intro J
      refine ⟨_, rfl, _, _, rfl, rfl, _, rfl, ?_⟩
      by_cases c40 : j < 40
      · rw [decide_eq_true (show (j : Int) < 40 by omega)]
        refine iteT ⟨_, rfl, _, rfl, _, _, rfl, SqL.of g8, fun l9 m9 => ?_⟩
        have t9 := same_new (o := .lst (cutV (iL (keys.take j ++ [x, 100] ++ keys.drop j)) none (some 40))) m9
        have g9 : upd H19 l9 (.lst (cutV (iL (keys.take j ++ [x, 100] ++ keys.drop j)) none (some 40))) l9 = some (.lst (iL ((keys.take j ++ [x, 100] ++ keys.drop j).take 40))) := upd_same.trans (congrArg (fun z => some (HO.lst z)) ((cutTo' (j := 40)).trans (by simp [iL])))
        refine ⟨_, rfl, l9, Rl, rfl, .inl ⟨_, j, SqL.of g9, bad_at kok hj c40 hxb, by rw [List.length_take]; omega, fun H20 t s20 nt ht => ?_⟩⟩
        refine ⟨_, rfl, (show 2 ≤ sizeLine by decide), fun l10 m10 => ?_⟩
        have t10 := same_new (o := .lst [V.str "keys", V.int (j : Nat)]) m10
        exact ⟨_, _, rfl, lk_told (by decide +kernel) rfl (t10 _ _ ht) upd_same, _, rfl, iteF (J _ _ ⟨rfl, (t9.trans s20).trans t10⟩)⟩
      · rw [decide_eq_false (show ¬ (j : Int) < 40 by omega)]
        exact iteF (J _ _ ⟨rfl, Same.refl _⟩)
    rintro σ H20 ⟨rfl, s20⟩
    have hka20 := s20 _ _ hka19
    have hR20 := s20 _ _ hR19
    have hp20 : Paired (fun x de => H20 x = some (.tup (deedV de))) ds pr := paired_imp hp19 fun _ _ w => s20 _ _ w
    have D20 := D19.same s20
    clear s20 D19 hka19 hR19 hp19 g8 hx hxb c0 c1
    -- too many keys
    have r41 : rgV 0 41 = iL ((List.range 41).map fun i => (0 : Int) + (i : Nat)) := rg_all 41
    have r40 : rgV 0 40 = iL ((List.range 40).map fun i => (0 : Int) + (i : Nat)) := rg_all 40
    have lr41 : ((List.range 41).map fun i => (0 : Int) + (i : Nat)).length = 41 := by rw [List.length_map, List.length_range]
    have lr40 : ((List.range 40).map fun i => (0 : Int) + (i : Nat)).length = 40 := by rw [List.length_map, List.length_range]
    generalize ((List.range 41).map fun i => (0 : Int) + (i : Nat)) = L1 at *
    generalize ((List.range 40).map fun i => (0 : Int) + (i : Nat)) = LB at *
    refine ⟨_, rfl, RgOk.of_le (by decide) (by decide) (by decide) (by decide), fun q1 o1 => ?_⟩
    rw [r41]
    have t1 := same_new (o := .lst (iL L1)) o1
    have g1 : upd H20 q1 (.lst (iL L1)) q1 = some (.lst (iL L1)) := upd_same
    generalize upd H20 q1 (.lst (iL L1)) = H21 at *
    refine ⟨(show 1 ≤ sizeLine by decide), fun r1 o2 => ?_⟩
    have t2 := same_new (o := .lst [V.int 100]) o2
    have g2 : upd H21 r1 (.lst [V.int 100]) r1 = some (.lst (iL [100])) := upd_same
    generalize upd H21 r1 (.lst [V.int 100]) = H22 at *
    refine ⟨_, rfl, RgOk.of_le (by decide) (by decide) (by decide) (by decide), fun r2 o3 => ?_⟩
    rw [r40]
    have t3 := same_new (o := .lst (iL LB)) o3
    have g3 : upd H22 r2 (.lst (iL LB)) r2 = some (.lst (iL LB)) := upd_same
    generalize upd H22 r2 (.lst (iL LB)) = H23 at *
    refine ⟨_, _, _, _, rfl, rfl, t3 _ _ g2, g3, Nat.le_trans (m := 1000) (by rw [len_iL, len_iL, lr40]; simp) (by decide), fun q2 o4 => ?_⟩
    have e4 : iL [100] ++ iL LB = iL ([100] ++ LB) := by simp [iL]
    rw [e4]
    have t4 := same_new (o := .lst (iL ([100] ++ LB))) o4
    have g4 : upd H23 q2 (.lst (iL ([100] ++ LB))) q2 = some (.lst (iL ([100] ++ LB))) := upd_same
    generalize upd H23 q2 (.lst (iL ([100] ++ LB))) = H24 at *
    have t14 := ((t1.trans t2).trans t3).trans t4
    refine ⟨_, rfl, _, rfl, _, _, rfl, SqL.of (t14 _ _ hka20), fun r3 o5 => ?_⟩
    have c1e : cutV (iL keys) none (some (1 : Int)) = iL (keys.take 1) := (cutTo' (j := 1)).trans (by simp [iL])
    rw [c1e]
    have t5 := same_new (o := .lst (iL (keys.take 1))) o5
    have g5 : upd H24 r3 (.lst (iL (keys.take 1))) r3 = some (.lst (iL (keys.take 1))) := upd_same
    generalize upd H24 r3 (.lst (iL (keys.take 1))) = H25 at *
    have l1k : (keys.take 1).length ≤ 1 := by rw [List.length_take]; omega
    refine ⟨_, _, _, rfl, rfl, g5, by decide, by decide, Nat.le_trans (m := 1000) (by rw [len_iL]; exact Nat.le_trans (Nat.mul_le_mul_right _ l1k) (by decide)) (by decide), fun r4 o6 => ?_⟩
    have e6 : (List.replicate (41 : Int).toNat (iL (keys.take 1))).flatten = iL (List.replicate 41 (keys.take 1)).flatten := rep_all 41 _
    rw [e6]
    have l41k : (List.replicate 41 (keys.take 1)).flatten.length ≤ 41 := by rw [len_rep]; exact Nat.mul_le_mul_left 41 l1k
    have t6 := same_new (o := .lst (iL (List.replicate 41 (keys.take 1)).flatten)) o6
    have g6 : upd H25 r4 (.lst (iL (List.replicate 41 (keys.take 1)).flatten)) r4 = some (.lst (iL (List.replicate 41 (keys.take 1)).flatten)) := upd_same
    generalize upd H25 r4 (.lst (iL (List.replicate 41 (keys.take 1)).flatten)) = H26 at *
    generalize (List.replicate 41 (keys.take 1)).flatten = L3 at *
    refine ⟨_, rfl, RgOk.of_le (by decide) (by decide) (by decide) (by decide), fun r5 o7 => ?_⟩
    rw [r41]
    have t7 := same_new (o := .lst (iL L1)) o7
    have g7 : upd H26 r5 (.lst (iL L1)) r5 = some (.lst (iL L1)) := upd_same
    generalize upd H26 r5 (.lst (iL L1)) = H27 at *
    refine ⟨_, _, _, _, rfl, rfl, t7 _ _ g6, g7, Nat.le_trans (m := 1000) (by rw [len_iL, len_iL, lr41]; omega) (by decide), fun q3 o8 => ?_⟩
    have e8 : iL L3 ++ iL L1 = iL (L3 ++ L1) := by simp [iL]
    rw [e8]
    have t8 := same_new (o := .lst (iL (L3 ++ L1))) o8
    have g8 : upd H27 q3 (.lst (iL (L3 ++ L1))) q3 = some (.lst (iL (L3 ++ L1))) := upd_same
    generalize upd H27 q3 (.lst (iL (L3 ++ L1))) = H28 at *
    refine ⟨(show 3 ≤ sizeLine by decide), fun yl o9 => ?_⟩
    have t9 := same_new (o := .lst [V.ref q1, V.ref q2, V.ref q3]) o9
    have hyl : upd H28 yl (.lst [V.ref q1, V.ref q2, V.ref q3]) yl = some (.lst ([q1, q2, q3].map V.ref)) := upd_same
    have t59 := (((t5.trans t6).trans t7).trans t8).trans t9
    have g1 := t59 _ _ (t4 _ _ (t3 _ _ (t2 _ _ g1)))
    have g4 := t59 _ _ g4
    have g8 := t9 _ _ g8
    have t19 := t14.trans t59
    refine ⟨yl, rfl, ⟨_, SqL.of hyl⟩, ?_⟩
    change ∃ W : Nat → Nat → L2.St → Hp → Prop, (∃ m, W 0 m _ (upd H28 yl (.lst [V.ref q1, V.ref q2, V.ref q3]))) ∧ _
    generalize upd H28 yl (.lst [V.ref q1, V.ref q2, V.ref q3]) = H29 at *
    have many : Paired (fun x ks => H29 x = some (.lst (iL ks)) ∧ 40 < ks.length ∧ ks.length ≤ 1000) [q1, q2, q3] [L1, [100] ++ LB, L3 ++ L1] :=
      .cons ⟨g1, by omega, by omega⟩ (.cons ⟨g4, by simp; omega, by simp; omega⟩ (.cons ⟨g8, by rw [List.length_append]; omega, by rw [List.length_append]; omega⟩ .nil))
    have hka29 := t19 _ _ hka20
    have hR29 := t19 _ _ hR20
    have hp29 : Paired (fun x de => H29 x = some (.tup (deedV de))) ds pr := paired_imp hp20 fun _ _ w => t19 _ _ w
    have D29 := D20.same t19
    clear t19 t59 t14 t1 t2 t3 t4 t5 t6 t7 t8 t9 o1 o2 o3 o4 o5 o6 o7 o8 o9 g2 g3 g5 g6 g7 g1 g4 g8 e4 e6 e8 D20 hka20 hR20 hp20
    generalize [q1, q2, q3] = xs at *
    generalize [L1, [100] ++ LB, L3 ++ L1] = kss at *
    refine for_list (K := K) (a := yl) (xs := xs.map V.ref) (fun i σ H30 => ∃ (v15 : Option V), σ = [some (.ref a), some (.ref d), some (.ref ka), some (.int far), some (.ref Rl), none, some (.ref an), some (.ref nw), v8, v9, some (.ref hd), v11, v12, some (.int (j : Nat)), some (.ref bl), v15, none] ∧ Same H29 H30) ⟨_, rfl, Same.refl _⟩ (fun i σ H30 _ ⟨_, _, z⟩ => SqL.of (z _ _ hyl)) ?_ ?_
    · rintro i y σ H30 hy ⟨v15, rfl, s30⟩
      obtain ⟨q, hx, rfl⟩ := map_get hy
      have lm := paired_len many
      have hz : kss[i]? = some (kss[i]'(by have := (List.getElem?_eq_some_iff.mp hx).1; omega)) := List.getElem?_eq_getElem _
      obtain ⟨q', hx', hq, b40, b1000⟩ := paired_get many hz
      rw [hx] at hx'
      cases hx'
      generalize kss[i]'_ = ks at *
      refine ⟨_, rfl, (show 0 ≤ sizeLine by decide), fun e0 m0 => ⟨(show 1 ≤ sizeLine by decide), fun e1 m1 => ?_⟩⟩
      have u1 := same_new (o := .tup []) m0
      have u2 := same_new (o := .lst [V.ref e0]) m1
      have u3 := (s30.trans u1).trans u2
      refine ⟨q, e1, rfl, .inl ⟨ks, 40, SqL.of (u3 _ _ hq), .inl ⟨b40, rfl⟩, b1000, fun H31 t s31 nt ht => ?_⟩⟩
      refine ⟨(show 2 ≤ sizeLine by decide), fun l10 m10 => ?_⟩
      have t10 := same_new (o := .lst [V.str "keys", V.int 40]) m10
      exact ⟨_, _, rfl, lk_told (by decide +kernel) rfl (t10 _ _ ht) upd_same, _, rfl, iteF ⟨_, rfl, (u3.trans s31).trans t10⟩⟩
    rintro σ H30 ⟨v15, rfl, s30⟩
    have hka30 := s30 _ _ hka29
    have hR30 := s30 _ _ hR29
    have hp30 : Paired (fun x de => H30 x = some (.tup (deedV de))) ds pr := paired_imp hp29 fun _ _ w => s30 _ _ w
    have D30 := D29.same s30
    clear s30 many hyl D29 hka29 hR29 hp29 lr41 lr40 r41 r40 l41k
    -- a deed that can't be
    refine ⟨_, rfl, _, rfl, _, _, rfl, .inl (SqL.of hR30), _, _, rfl, rfl, H, d, _, rfl, D30, by omega, by rw [List.length_map, ldp]; omega, fun at' o at0 at1 D31 => ?_⟩
    have S31 : Dst H30 (upd H30 d o) d := Dst.at
    have hka31 := S31.fr _ _ hka30 kad
    have hR31 := S31.fr _ _ hR30 Rd
    have hp31 : Paired (fun x de => upd H30 d o x = some (.tup (deedV de))) ds pr := paired_imp hp30 fun x de w => S31.fr _ _ w fun z => by
      obtain ⟨ys, hys, _⟩ := D30.ref0
      rw [z, hys] at w; cases w
    generalize upd H30 d o = H31 at *
    clear S31 D30 hka30 hR30 hp30
    rw [List.length_map, ldp] at at1
    obtain ⟨j2, rfl⟩ : ∃ j2 : Nat, at' = (j2 : Int) := ⟨at'.toNat, by omega⟩
    have hj2 : j2 ≤ pr.length := by omega
    refine ⟨(show 0 ≤ sizeLine by decide), fun p0 n0 => ?_⟩
    have z0 := same_new (o := .tup []) n0
    have g0 : upd H31 p0 (.tup []) p0 = some (.tup (oddV (Odd.nil))) := upd_same
    generalize upd H31 p0 (.tup []) = H32 at *
    refine ⟨(show 1 ≤ sizeLine by decide), fun p1 n1 => ?_⟩
    have z1 := same_new (o := .tup [V.str "put"]) n1
    have g1 : upd H32 p1 (.tup [V.str "put"]) p1 = some (.tup (oddV (.mk "put" []))) := upd_same
    generalize upd H32 p1 (.tup [V.str "put"]) = H33 at *
    refine ⟨(show 3 ≤ sizeLine by decide), fun p2 n2 => ?_⟩
    have z2 := same_new (o := .tup [V.str "put", V.int 1, V.int 2]) n2
    have g2 : upd H33 p2 (.tup [V.str "put", V.int 1, V.int 2]) p2 = some (.tup (oddV (.mk "put" [1, 2]))) := upd_same
    generalize upd H33 p2 (.tup [V.str "put", V.int 1, V.int 2]) = H34 at *
    refine ⟨(show 2 ≤ sizeLine by decide), fun p3 n3 => ?_⟩
    have z3 := same_new (o := .tup [V.str "puts", V.int 1]) n3
    have g3 : upd H34 p3 (.tup [V.str "puts", V.int 1]) p3 = some (.tup (oddV (.mk "puts" [1]))) := upd_same
    generalize upd H34 p3 (.tup [V.str "puts", V.int 1]) = H35 at *
    refine ⟨_, rfl, (show 2 ≤ sizeLine by decide), fun p4 n4 => ?_⟩
    have z4 := same_new (o := .tup [V.str "ask", V.int (-1)]) n4
    have g4 : upd H35 p4 (.tup [V.str "ask", V.int (-1)]) p4 = some (.tup (oddV (.mk "ask" [-1]))) := upd_same
    generalize upd H35 p4 (.tup [V.str "ask", V.int (-1)]) = H36 at *
    refine ⟨(show 2 ≤ sizeLine by decide), fun p5 n5 => ?_⟩
    have z5 := same_new (o := .tup [V.str "take", V.int 100]) n5
    have g5 : upd H36 p5 (.tup [V.str "take", V.int 100]) p5 = some (.tup (oddV (.mk "take" [100]))) := upd_same
    generalize upd H36 p5 (.tup [V.str "take", V.int 100]) = H37 at *
    refine ⟨(show 2 ≤ sizeLine by decide), fun p6 n6 => ?_⟩
    have z6 := same_new (o := .tup [V.str "walk", V.int 3]) n6
    have g6 : upd H37 p6 (.tup [V.str "walk", V.int 3]) p6 = some (.tup (oddV (.mk "walk" [3]))) := upd_same
    generalize upd H37 p6 (.tup [V.str "walk", V.int 3]) = H38 at *
    refine ⟨(show 3 ≤ sizeLine by decide), fun p7 n7 => ?_⟩
    have z7 := same_new (o := .tup [V.str "walk", V.int 3, V.int 2]) n7
    have g7 : upd H38 p7 (.tup [V.str "walk", V.int 3, V.int 2]) p7 = some (.tup (oddV (.mk "walk" [3, 2]))) := upd_same
    generalize upd H38 p7 (.tup [V.str "walk", V.int 3, V.int 2]) = H39 at *
    refine ⟨(show 8 ≤ sizeLine by decide), fun ol nol => ?_⟩
    have z8 := same_new (o := .lst [V.ref p0, V.ref p1, V.ref p2, V.ref p3, V.ref p4, V.ref p5, V.ref p6, V.ref p7]) nol
    have gol : upd H39 ol (.lst [V.ref p0, V.ref p1, V.ref p2, V.ref p3, V.ref p4, V.ref p5, V.ref p6, V.ref p7]) ol = some (.lst ([p0, p1, p2, p3, p4, p5, p6, p7].map V.ref)) := upd_same
    dsimp only [gName]
    generalize upd H39 ol (.lst [V.ref p0, V.ref p1, V.ref p2, V.ref p3, V.ref p4, V.ref p5, V.ref p6, V.ref p7]) = H40 at *
    refine ⟨_, rfl, .inl ⟨rfl, _, SqL.of gol⟩, (show 3 ≤ sizeLine by decide), fun p8 n8 => ?_⟩
    have z9 := same_new (o := .tup [V.str "walk", V.int 0, V.int 100]) n8
    have g8 : upd H40 p8 (.tup [V.str "walk", V.int 0, V.int 100]) p8 = some (.tup (oddV (.mk "walk" [0, 100]))) := upd_same
    have gol := z9 _ _ gol
    generalize upd H40 p8 (.tup [V.str "walk", V.int 0, V.int 100]) = H41 at *
    have g0 := z9 _ _ (z8 _ _ (z7 _ _ (z6 _ _ (z5 _ _ (z4 _ _ (z3 _ _ (z2 _ _ (z1 _ _ (g0)))))))))
    have g1 := z9 _ _ (z8 _ _ (z7 _ _ (z6 _ _ (z5 _ _ (z4 _ _ (z3 _ _ (z2 _ _ (g1))))))))
    have g2 := z9 _ _ (z8 _ _ (z7 _ _ (z6 _ _ (z5 _ _ (z4 _ _ (z3 _ _ (g2)))))))
    have g3 := z9 _ _ (z8 _ _ (z7 _ _ (z6 _ _ (z5 _ _ (z4 _ _ (g3))))))
    have g4 := z9 _ _ (z8 _ _ (z7 _ _ (z6 _ _ (z5 _ _ (g4)))))
    have g5 := z9 _ _ (z8 _ _ (z7 _ _ (z6 _ _ (g5))))
    have g6 := z9 _ _ (z8 _ _ (z7 _ _ (g6)))
    have g7 := z9 _ _ (z8 _ _ (g7))
    have z31 := (((((((((z0.trans z1).trans z2).trans z3).trans z4).trans z5).trans z6).trans z7).trans z8).trans z9)
    refine ⟨_, _, _, rfl, rfl, gol, small64 (by simp), ?_⟩
    have D41 := D31.same z31
    have old : ol ≠ d := (((((((((D31.same z0).same z1).same z2).same z3).same z4).same z5).same z6).same z7)).ne nol
    have kol : ka ≠ ol := ne_of_none (z7 _ _ (z6 _ _ (z5 _ _ (z4 _ _ (z3 _ _ (z2 _ _ (z1 _ _ (z0 _ _ hka31)))))))) nol
    have Rol : Rl ≠ ol := ne_of_none (z7 _ _ (z6 _ _ (z5 _ _ (z4 _ _ (z3 _ _ (z2 _ _ (z1 _ _ (z0 _ _ hR31)))))))) nol
    have tol : ∀ b xs, H41 b = some (.tup xs) → b ≠ ol := fun b xs e z => by rw [z, gol] at e; cases e
    have put : ∀ b u, H41 b = some u → b ≠ ol → upd H41 ol (.lst ([p0, p1, p2, p3, p4, p5, p6, p7].map V.ref ++ [V.ref p8])) b = some u := fun b u e n => by rw [upd_ne n]; exact e
    have odds : Paired (fun x o => upd H41 ol (.lst ([p0, p1, p2, p3, p4, p5, p6, p7].map V.ref ++ [V.ref p8])) x = some (.tup (oddV o))) [p0, p1, p2, p3, p4, p5, p6, p7, p8] oddsL :=
      .cons (put _ _ g0 (tol _ _ g0)) (.cons (put _ _ g1 (tol _ _ g1)) (.cons (put _ _ g2 (tol _ _ g2)) (.cons (put _ _ g3 (tol _ _ g3)) (.cons (put _ _ g4 (tol _ _ g4)) (.cons (put _ _ g5 (tol _ _ g5)) (.cons (put _ _ g6 (tol _ _ g6)) (.cons (put _ _ g7 (tol _ _ g7)) (.cons (put _ _ g8 (tol _ _ g8)) .nil))))))))
    have hol : upd H41 ol (.lst ([p0, p1, p2, p3, p4, p5, p6, p7].map V.ref ++ [V.ref p8])) ol = some (.lst ([p0, p1, p2, p3, p4, p5, p6, p7, p8].map V.ref)) := upd_same
    have hka42 := put _ _ (z31 _ _ hka31) kol
    have hR42 := put _ _ (z31 _ _ hR31) Rol
    have hp42 : Paired (fun x de => upd H41 ol (.lst ([p0, p1, p2, p3, p4, p5, p6, p7].map V.ref ++ [V.ref p8])) x = some (.tup (deedV de))) ds pr := paired_imp hp31 fun _ _ w => put _ _ (z31 _ _ w) (tol _ _ (z31 _ _ w))
    have D42 : Dice K H (upd H41 ol (.lst ([p0, p1, p2, p3, p4, p5, p6, p7].map V.ref ++ [V.ref p8]))) d := D41.put ((((((((D31.same z0).same z1).same z2).same z3).same z4).same z5).same z6).same z7 |>.new0 nol) old
    generalize upd H41 ol (.lst ([p0, p1, p2, p3, p4, p5, p6, p7].map V.ref ++ [V.ref p8])) = H42 at *
    generalize [p0, p1, p2, p3, p4, p5, p6, p7, p8] = ps at *
    clear z0 z1 z2 z3 z4 z5 z6 z7 z8 z9 z31 g0 g1 g2 g3 g4 g5 g6 g7 g8 n0 n1 n2 n3 n4 n5 n6 n7 n8 nol gol put tol Rol kol D41 D31 hka31 hR31 hp31
    have cR1 : cutV (ds.map V.ref) none (some (j2 : Int)) = (ds.take j2).map V.ref := cutTo'.trans (by simp)
    have cR2 : cutV (ds.map V.ref) (some (j2 : Int)) none = (ds.drop j2).map V.ref := cutFrom.trans (by simp)
    refine ⟨_, rfl, _, rfl, _, rfl, _, rfl, _, _, rfl, SqL.of hR42, fun l1 m1 => ?_⟩
    rw [cR1]
    have t1 := same_new (o := .lst ((ds.take j2).map V.ref)) m1
    have f1 : upd H42 l1 (.lst ((ds.take j2).map V.ref)) l1 = some (.lst ((ds.take j2).map V.ref)) := upd_same
    have l1d := D42.ne m1
    have D43 := D42.same t1
    have hka43 := t1 _ _ hka42
    have hR43 := t1 _ _ hR42
    have hol43 := t1 _ _ hol
    have hp43 : Paired (fun x de => upd H42 l1 (.lst ((ds.take j2).map V.ref)) x = some (.tup (deedV de))) ds pr := paired_imp hp42 fun _ _ w => t1 _ _ w
    have odds43 : Paired (fun x o => upd H42 l1 (.lst ((ds.take j2).map V.ref)) x = some (.tup (oddV o))) ps oddsL := paired_imp odds fun _ _ w => t1 _ _ w
    generalize upd H42 l1 (.lst ((ds.take j2).map V.ref)) = H43 at *
    clear t1 m1 D42 hka42 hR42 hol hp42 odds
    refine ⟨_, rfl, _, rfl, H, d, 9, rfl, D43, by decide, by decide, fun c o c0 c1 D44 => ?_⟩
    have S44 : Dst H43 (upd H43 d o) d := Dst.at
    have ntd : ∀ b xs, H43 b = some (.tup xs) → b ≠ d := fun b xs w z => by
      obtain ⟨ys, hys, _⟩ := D43.ref0
      rw [z, hys] at w; cases w
    have hka44 := S44.fr _ _ hka43 kad
    have hR44 := S44.fr _ _ hR43 Rd
    have hol44 := S44.fr _ _ hol43 old
    have f1 := S44.fr _ _ f1 l1d
    have hp44 : Paired (fun x de => upd H43 d o x = some (.tup (deedV de))) ds pr := paired_imp hp43 fun x de w => S44.fr _ _ w (ntd _ _ w)
    have odds44 : Paired (fun x od => upd H43 d o x = some (.tup (oddV od))) ps oddsL := paired_imp odds43 fun x de w => S44.fr _ _ w (ntd _ _ w)
    generalize upd H43 d o = H44 at *
    clear S44 ntd D43 hka43 hR43 hol43 hp43 odds43
    obtain ⟨od, hod, hodm⟩ : ∃ od, oddsL[c.toNat]? = some od ∧ od ∈ oddsL := by
      have l9 : oddsL.length = 9 := rfl
      exact ⟨_, List.getElem?_eq_getElem (by rw [l9]; omega), List.getElem_mem _⟩
    obtain ⟨b, hb, hbo⟩ := paired_get odds44 hod
    refine ⟨_, _, _, V.ref b, rfl, rfl, SqL.of hol44, at_of (j := c.toNat) (by omega) (ref_at hb), (show 0 ≤ sizeLine by decide), fun e0 m0 => ⟨(show 2 ≤ sizeLine by decide), fun l2 m2 => ?_⟩⟩
    have t0 := same_new (o := .tup []) m0
    have t2 := same_new (o := .lst [V.ref b, V.ref e0]) m2
    have f2 : upd (upd H44 e0 (.tup [])) l2 (.lst [V.ref b, V.ref e0]) l2 = some (.lst [V.ref b, V.ref e0]) := upd_same
    have t02 := t0.trans t2
    generalize upd (upd H44 e0 (.tup [])) l2 (.lst [V.ref b, V.ref e0]) = H45 at *
    refine ⟨_, _, _, _, rfl, rfl, t02 _ _ f1, f2, Nat.le_trans (m := 1000) (by rw [List.length_map, List.length_take]; simp; omega) (by decide), fun l3 m3 => ?_⟩
    have t3 := same_new (o := .lst ((ds.take j2).map V.ref ++ [V.ref b, V.ref e0])) m3
    have f3 : upd H45 l3 (.lst ((ds.take j2).map V.ref ++ [V.ref b, V.ref e0])) l3 = some (.lst ((ds.take j2).map V.ref ++ [V.ref b, V.ref e0])) := upd_same
    generalize upd H45 l3 (.lst ((ds.take j2).map V.ref ++ [V.ref b, V.ref e0])) = H46 at *
    have t03 := t02.trans t3
    refine ⟨_, rfl, _, rfl, _, rfl, _, _, rfl, SqL.of (t03 _ _ hR44), fun l4 m4 => ?_⟩
    rw [cR2]
    have t4 := same_new (o := .lst ((ds.drop j2).map V.ref)) m4
    have f4 : upd H46 l4 (.lst ((ds.drop j2).map V.ref)) l4 = some (.lst ((ds.drop j2).map V.ref)) := upd_same
    have f3 := t4 _ _ f3
    generalize upd H46 l4 (.lst ((ds.drop j2).map V.ref)) = H47 at *
    refine ⟨_, _, _, _, rfl, rfl, f3, f4, Nat.le_trans (m := 1000) (by rw [List.length_append, List.length_map, List.length_map, List.length_take, List.length_drop]; simp; omega) (by decide), fun l5 m5 => ?_⟩
    have e5 : (ds.take j2).map V.ref ++ [V.ref b, V.ref e0] ++ (ds.drop j2).map V.ref = (ds.take j2 ++ b :: (e0 :: ds.drop j2)).map V.ref := by simp
    rw [e5]
    have t5 := same_new (o := .lst ((ds.take j2 ++ b :: (e0 :: ds.drop j2)).map V.ref)) m5
    have f5 : upd H47 l5 (.lst ((ds.take j2 ++ b :: (e0 :: ds.drop j2)).map V.ref)) l5 = some (.lst ((ds.take j2 ++ b :: (e0 :: ds.drop j2)).map V.ref)) := upd_same
    generalize upd H47 l5 (.lst ((ds.take j2 ++ b :: (e0 :: ds.drop j2)).map V.ref)) = H48 at *
    have t05 := (t03.trans t4).trans t5
    have hp48 : Paired (fun x de => H48 x = some (.tup (deedV de))) ds pr := paired_imp hp44 fun _ _ w => t05 _ _ w
    have ltk2 : (pr.take j2).length = j2 := by rw [List.length_take]; omega
    refine ⟨ka, l5, rfl, .inr ⟨keys, sk, ds.take j2, e0 :: ds.drop j2, pr.take j2, b, od, SqL.of (t05 _ _ hka44), kok, skl, skm, SqL.of f5, paired_imp (paired_take hp48 j2) (fun _ _ w => SqT.of w), fun de hde => hok de (List.mem_of_mem_take hde), by rw [List.length_append, List.length_cons, List.length_cons, List.length_take, List.length_drop]; omega, SqT.of (t05 _ _ hbo), odds_k T od hodm, odds_len od hodm, odds_bad od hodm, fun H49 t s49 nt ht => ?_⟩⟩
    rw [ltk2] at ht
    refine ⟨_, rfl, (show 3 ≤ sizeLine by decide), fun l6 m6 => ?_⟩
    have t6 := same_new (o := .lst [V.str "deed", V.int 0, V.int (j2 : Nat)]) m6
    exact ⟨_, _, rfl, lk_told3 (by decide +kernel) rfl (t6 _ _ ht) upd_same, k _⟩

theorem lv_room : Room 10 callerA := ⟨rfl, by decide, by decide⟩
theorem facts {w : World} {mg : Str → Option Value} {fa' : Addr} {h : Heap} (Y : ∃ K : PySem.W.Frag, K.In h ∧ He.SaysX fa fn ts tf exB w h K) (G : h.Ns mainGlobals mg) (e : mg "law" = some (.ref fa')) :
    ∃ K : PySem.W.Frag, K.In h ∧ LamX.LawAtS PySem.Challenge.rw_handoverhand_k02_deeds_one_by_one w K CX0 10 63 "_law_script" mg fa' h := by
  obtain ⟨K, KX, c⟩ := Y
  refine ⟨K, KX, fdOf K d_law.at_, tf.map (He.cT K), sp_law K, fun p hp => ?_, fun p hp => ?_, fun p hp => ?_, fun s u => ?_, fun H a ns hl _ ht hS => ?_, fun base X' G' tb => ?_⟩
  · obtain ⟨q, hq, rfl⟩ := List.mem_map.mp hp
    exact c.empty q hq
  · obtain ⟨q, hq, rfl⟩ := List.mem_map.mp hp
    exact c.out q hq
  · obtain ⟨q, hq, rfl⟩ := List.mem_map.mp hp
    exact PySem.W.codeHd_of_K KX (c.hd q hq)
  · have F : FD K d_law := fd_of rfl rfl (c.t.d.def_ 16 (d := d_law) rfl)
    have b := FunD.bindsA (ps := ["_law_script"]) F fun _ _ _ _ _ _ us hl => match us, hl with | [_], _ => rfl
    exact b s [u] rfl
  · refine ⟨a, ns, rfl, hS, hl, fun p hp => ?_, fun _ => rfl⟩
    have hp' : p ∈ tf.map (fun q => ((He.cT K q).2, p.2)) := by
      simp only [tabsK, tf, List.map_cons, List.map_nil, List.mem_cons, List.not_mem_nil, or_false] at hp ⊢
      all_goals first | (rcases hp with e | e | e <;> subst e <;> simp) | (rcases hp with e | e <;> subst e <;> simp) | (subst hp; simp) | exact hp.elim
    obtain ⟨q, hq, e2⟩ := List.mem_map.mp hp'
    have := ht (He.cT K q) (List.mem_map_of_mem hq)
    rw [show (He.cT K q).2 = p.1 from congrArg Prod.fst e2] at this
    exact LamX.TabS.nil this
  · have T : Txt w K mg base := txt_of KX G c fun p hp => tb _ (List.mem_map_of_mem hp)
    have e3 := e.symm.trans (He.glo_ok KX G (c.t.d.fact 14 (f := .glo "law") rfl))
    cases e3
    exact ok_law T

end HH
open PySem PySem.W PySem.Calls PyProof.Rows in
theorem PySem.Challenge.cw_handoverhand_k02_deeds_one_by_one_holds : PySem.Challenge.rw_handoverhand_k02_deeds_one_by_one.Holds := by
  w_on; o_law
  refine HandSHeadRun.head_any (r := OpenLaw.row PySem.Challenge.rw_handoverhand_k02_deeds_one_by_one) (q := view (OpenLaw.row PySem.Challenge.rw_handoverhand_k02_deeds_one_by_one).prog [26]) (H := HH.hk) (ob := HH.ob) (M := 20000) (loose := HH.names) (d := HandSHeadRun.topDef (OpenLaw.row PySem.Challenge.rw_handoverhand_k02_deeds_one_by_one).prog 26) (kwd := []) HH.ob_eq
    (by kernel_rfl) (fun s => by kernel_rfl) HH.run (by kernel_rfl) (by kernel_rfl) (by kernel_rfl) (by rfl) (by first | assumption | decide +kernel) (by decide +kernel) ⟨rfl, rfl, rfl, rfl, rfl, by decide +kernel⟩ ?hw ?hc
  case hw => w_witness2
  case hc =>
    refine LamX.walk_ofTsE (l := PySem.Challenge.rw_handoverhand_k02_deeds_one_by_one) (n := 63) (k := 10) (x := "_law_script") (CX := fun _ => L2.CX0) rfl (by decide) (by kernel_rfl) HH.lv_room ?F (fun _ _ _ _ _ z => z)
    intro w mg f h Y G e
    refine HH.facts Y G ?_
    have en : (HandSHeadRun.topDef (OpenLaw.row PySem.Challenge.rw_handoverhand_k02_deeds_one_by_one).prog 26).name = ("law" : PySem.Str) := by kernel_rfl
    rw [← en]
    exact e

