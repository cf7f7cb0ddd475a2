import PyProof.Rows.All
import Wide.All
import OpenK.AllK
import Wide.FinOn
import KE.KStateDown
import Lean
import HandS.ForMost
import HandS.ForExc
import HandS.More
import HandS.Defaults
import HandS.Head0
import HandS.Head1
import HandS.Head2
import HandS.HeadEnd
import HandS.HeadHook1
import HandS.HeadHook2
import HandS.HeadNt
import HandS.HeadHook3
import HandS.HeadHook4
import HandS.EndTab
import HandS.Lambda
import KE.KeyNested
import HandS.TupLe
import HandS.TupAny
import HandS.IsInst
import HandS.Deep
import HandS.SortInts
import HandS.Wide
import HandS.Style
import HandS.TupLen
import HandS.SortOrd
import KE.KDictPairs
import KE.KDictCopyH
import KE.KDictSum
import KE.KDflt
import KE.KExcIs
import KE.DataFind
import HandS.ExcInit
import HandS.ExcField
import HandS.ExcIs
import HandS.TryMany
import HandS.SetFor
import HandS.Strs
import HandS.TupSets
import PySem.Challenge.RW_doneranges_k02_sets
set_option Elab.async false
set_option linter.all false
set_option maxRecDepth 100000
set_option maxHeartbeats 4000000
/-! ### the head with further checks -/
namespace He
open PySem PySem.Spec PyProof.Rows L2
abbrev Chk : Type := PySem.W.Frag → Bool
def obsQ (fa : List Fa) (fn : List DefD) (ex : List Chk) (K : PySem.W.Frag) : AlD := ((ex.all fun f => f K) && (obsD fa fn K).1, (obsD fa fn K).2)
def SaysQ (fa : List Fa) (fn : List DefD) (ex : List Chk) (K : PySem.W.Frag) : Prop := obsQ fa fn ex K = valD fn
def obsQG (n : Nat) (fa : List Fa) (fn : List DefD) (ex : List Chk) (g : Addr → Option Obj) : AlD := obsQ fa fn ex (frG g (asD g n))
def hookQ (n : Nat) (fa : List Fa) (fn : List DefD) (ex : List Chk) : PySem.W.Hook where
  α := AlD
  obs := fun s => obsQG n fa fn ex s.heap.get?
  val := fun _ => valD fn
  says := fun _ h => ∃ K : PySem.W.Frag, K.In h ∧ SaysQ fa fn ex K
  of := fun _ _ e => ⟨_, frG_in, e⟩
  keeps := fun _ _ _ ⟨K, hK, c⟩ k => ⟨K, PySem.W.Frag.In.keeps hK k, c⟩
theorem obsQG_eq {n : Nat} {fa : List Fa} {fn : List DefD} {ex : List Chk} {g : Addr → Option Obj} {s : Shared} (h : ∀ a, g a = s.heap.get? a) : obsQG n fa fn ex g = (hookQ n fa fn ex).obs s := by
  have e : g = s.heap.get? := funext h
  rw [e] <;> rfl
section
variable {fa : List Fa} {fn : List DefD} {ex : List Chk} {K : PySem.W.Frag}
theorem SaysQ.d (c : SaysQ fa fn ex K) : SaysD fa fn K := by
  have c1 := (ba (show ((ex.all fun f => f K) && (obsD fa fn K).1) = true from congrArg (fun z : AlD => z.1) c)).2
  have c2 : (obsQ fa fn ex K).2 = (valD fn).2 := congrArg (fun z : AlD => z.2) c
  exact Prod.ext c1 c2
theorem SaysQ.chk (c : SaysQ fa fn ex K) (i : Nat) {f : Chk} (h : ex[i]? = some f := by rfl) : f K = true := by
  have c1 := (ba (show ((ex.all fun f => f K) && (obsD fa fn K).1) = true from congrArg (fun z : AlD => z.1) c)).1
  exact List.all_eq_true.mp c1 f (List.mem_of_getElem? h)
end
end He

/-! ### checks of classes of exceptions, by the head's run -/
namespace He
open PySem PySem.Spec PyProof.Rows L2
def oexB0 (K : PySem.W.Frag) (C : Addr) : Bool := match K.lookup C with
  | some ⟨.type t, _, .cls cd, sl⟩ => decide (t = "type") && (match cd.mro, sl.toList with
    | .ref C' :: bm, [_, _, _, _, some (.builtin n), _] => (decide (C' = C) && decide (n = "ValueError.__new__")) && (!cd.hasDel && (cd.hasDict && HandSPX.refsVE bm))
    | _, _ => false)
  | _ => false
def oexB (K : PySem.W.Frag) (c : Str) : Bool := oexB0 K (ga K c) && (eqO (PySem.W.findIn K (.ref (ga K c)) "__setattr__") (some (some (.builtin "object.__setattr__"))) && (decide (PySem.W.subIn K (.ref (ga K c)) (.type "BaseException") = some true) && (decide (PySem.W.typeIn K (.ref (ga K c)) = some (.type "type")) && PySem.W.keepIn K (.ref (ga K c)))))
def initB (K : PySem.W.Frag) (c : Str) : Bool := eqO (PySem.W.findIn K (.ref (ga K c)) "__init__") (some (some (.ref (ma K (ga K c) "__init__")))) && decide (PySem.W.typeIn K (.ref (ma K (ga K c) "__init__")) = some (.type "function"))
def exbB (K : PySem.W.Frag) (c : Str) : Bool := PySem.W.readsIn K (ga K c) (.type "type") && (eqO (PySem.W.specialIn K (.ref (ga K c)) "__getattribute__") (some (some (.builtin "type.__getattribute__"))) && (match PySem.W.findCls K (.ref (ga K c)) (.type "type") "__init__" with
  | some (.val v) => decide (v = .builtin "ValueError.__init__")
  | _ => false))
def excB (K : PySem.W.Frag) (c : Str) : Bool := (eqO (PySem.W.findIn K (.ref (ga K c)) "__getattribute__") (some (some (.builtin "BaseException.__getattribute__"))) && (eqO (PySem.W.findIn K (.ref (ga K c)) "__getattr__") (some none) && (decide (PySem.W.subIn K (.ref (ga K c)) (.type "BaseException") = some true) && PySem.W.hasDictIn K (ga K c)))) &&
  (eqO (PySem.W.findIn K (.ref (ga K c)) "__class__") (some (some (.builtin "object.__class__"))) && (eqO (PySem.W.specialIn K (.builtin "object.__class__") "__get__") (some (some (.builtin "getset_descriptor.__get__"))) && (decide (PySem.W.takesIn K (.builtin "object.__class__") = some true) && decide (PySem.W.mroIn K (ga K c) (.type "object") = some true))))
def kitB (K : PySem.W.Frag) (c : Str) (cs : List Str) : Bool := decide (PySem.W.kitOne K (.ref (ga K c)) (.type "ValueError") = some true) && cs.all fun d => decide (PySem.W.kitOne K (.ref (ga K c)) (.ref (ga K d)) = some (decide (c = d)))
/-! ### the head with tables of code objects -/
def frK (g : Addr → Option Obj) : PySem.W.Frag := frT g (cStatics :: asD g 4)
def obsK (fa : List Fa) (fn : List DefD) (tf : List (Defn × Str)) (ts : List Tab) (ex : List Chk) (g : Addr → Option Obj) : AlX := (obsT fa fn ts (frK g), (ex.all fun f => f (frK g)) && tabsB g (tf.map Prod.fst) (frK g))
theorem saysK_of {fa : List Fa} {fn : List DefD} {tf : List (Defn × Str)} {ts : List Tab} {ex : List Chk} {w : World} {h : Heap} (e : obsK fa fn tf ts ex h.get? = valX fn ts w) : SaysX fa fn ts (tf.map Prod.fst) (fun K => ex.all fun f => f K) w h (frK h.get?) := by
  have e1 : obsT fa fn ts (frK h.get?) = valT fn ts w := congrArg (fun z : AlX => z.1) e
  obtain ⟨h1, h2⟩ := ba (show ((ex.all fun f => f (frK h.get?)) && tabsB h.get? (tf.map Prod.fst) (frK h.get?)) = true from congrArg (fun z : AlX => z.2) e)
  have h2 := List.all_eq_true.mp h2
  have key : ∀ p ∈ tf.map Prod.fst, PySem.W.codeHdIn (frK h.get?) (cT (frK h.get?) p).1 (cT (frK h.get?) p).2 = true ∧ ∃ o, h.get? (cT (frK h.get?) p).2 = some o ∧ emptyTab o = true := fun p hp => by
    obtain ⟨h3, h4⟩ := ba (h2 p hp)
    refine ⟨h3, ?_⟩
    cases q : h.get? (cT (frK h.get?) p).2 with
    | none => rw [q] at h4; cases h4
    | some o => rw [q] at h4; exact ⟨o, rfl, h4⟩
  refine ⟨e1, h1, fun p hp => (key p hp).1, fun p hp => ?_, fun p hp => ?_⟩
  · obtain ⟨_, o, q, z⟩ := key p hp
    exact frT_none q z
  · obtain ⟨_, o, q, z⟩ := key p hp
    rw [q, emptyTab_eq z]
def hookK (fa : List Fa) (fn : List DefD) (tf : List (Defn × Str)) (ts : List Tab) (ex : List Chk) : PySem.W.Hook where
  α := AlX
  obs := fun s => obsK fa fn tf ts ex s.heap.get?
  val := fun w => valX fn ts w
  says := fun w h => ∃ K : PySem.W.Frag, K.In h ∧ SaysX fa fn ts (tf.map Prod.fst) (fun K => ex.all fun f => f K) w h K
  of := fun _ _ e => ⟨_, frT_in, saysK_of e⟩
  keeps := fun _ _ _ ⟨K, hK, c⟩ k => ⟨K, PySem.W.Frag.In.keeps hK k, ⟨c.t, c.more, c.hd, c.out, fun p hp => k _ _ (c.empty p hp)⟩⟩
theorem obsK_eq {fa : List Fa} {fn : List DefD} {tf : List (Defn × Str)} {ts : List Tab} {ex : List Chk} {g : Addr → Option Obj} {s : Shared} (h : ∀ a, g a = s.heap.get? a) : obsK fa fn tf ts ex g = (hookK fa fn tf ts ex).obs s := by
  have e : g = s.heap.get? := funext h
  rw [e] <;> rfl
/-! ### the same, with the addresses told: no search for them -/
def obsA (as : List Addr) (fa : List Fa) (fn : List DefD) (tf : List (Defn × Str)) (ts : List Tab) (ex : List Chk) (g : Addr → Option Obj) : AlX := (obsT fa fn ts (frT g as), (ex.all fun f => f (frT g as)) && tabsB g (tf.map Prod.fst) (frT g as))
theorem saysA_of {as : List Addr} {fa : List Fa} {fn : List DefD} {tf : List (Defn × Str)} {ts : List Tab} {ex : List Chk} {w : World} {h : Heap} (e : obsA as fa fn tf ts ex h.get? = valX fn ts w) : SaysX fa fn ts (tf.map Prod.fst) (fun K => ex.all fun f => f K) w h (frT h.get? as) := by
  have e1 : obsT fa fn ts (frT h.get? as) = valT fn ts w := congrArg (fun z : AlX => z.1) e
  obtain ⟨h1, h2⟩ := ba (show ((ex.all fun f => f (frT h.get? as)) && tabsB h.get? (tf.map Prod.fst) (frT h.get? as)) = true from congrArg (fun z : AlX => z.2) e)
  have h2 := List.all_eq_true.mp h2
  have key : ∀ p ∈ tf.map Prod.fst, PySem.W.codeHdIn (frT h.get? as) (cT (frT h.get? as) p).1 (cT (frT h.get? as) p).2 = true ∧ ∃ o, h.get? (cT (frT h.get? as) p).2 = some o ∧ emptyTab o = true := fun p hp => by
    obtain ⟨h3, h4⟩ := ba (h2 p hp)
    refine ⟨h3, ?_⟩
    cases q : h.get? (cT (frT h.get? as) p).2 with
    | none => rw [q] at h4; cases h4
    | some o => rw [q] at h4; exact ⟨o, rfl, h4⟩
  refine ⟨e1, h1, fun p hp => (key p hp).1, fun p hp => ?_, fun p hp => ?_⟩
  · obtain ⟨_, o, q, z⟩ := key p hp
    exact frT_none q z
  · obtain ⟨_, o, q, z⟩ := key p hp
    rw [q, emptyTab_eq z]
def hookA (as : List Addr) (fa : List Fa) (fn : List DefD) (tf : List (Defn × Str)) (ts : List Tab) (ex : List Chk) : PySem.W.Hook where
  α := AlX
  obs := fun s => obsA as fa fn tf ts ex s.heap.get?
  val := fun w => valX fn ts w
  says := fun w h => ∃ K : PySem.W.Frag, K.In h ∧ SaysX fa fn ts (tf.map Prod.fst) (fun K => ex.all fun f => f K) w h K
  of := fun _ _ e => ⟨_, frT_in, saysA_of e⟩
  keeps := fun _ _ _ ⟨K, hK, c⟩ k => ⟨K, PySem.W.Frag.In.keeps hK k, ⟨c.t, c.more, c.hd, c.out, fun p hp => k _ _ (c.empty p hp)⟩⟩
theorem obsA_eq {as : List Addr} {fa : List Fa} {fn : List DefD} {tf : List (Defn × Str)} {ts : List Tab} {ex : List Chk} {g : Addr → Option Obj} {s : Shared} (h : ∀ a, g a = s.heap.get? a) : obsA as fa fn tf ts ex g = (hookA as fa fn tf ts ex).obs s := by
  have e : g = s.heap.get? := funext h
  rw [e] <;> rfl
def tabT (K : PySem.W.Frag) (tf : List (Defn × Str)) : List (Addr × Str) := tf.map fun p => ((cT K p.1).2, p.2)
def tabC (K : PySem.W.Frag) (tf : List (Defn × Str)) : List (Addr × Addr) := tf.map fun p => cT K p.1
def tabN (tf : List (Defn × Str)) : Chk := fun K => decide ((tf.map fun p => (cT K p.1).2).Nodup)
end He

namespace Law
open PySem PySem.Spec PyProof.Rows L2
def top (i : Nat) : Stmt := PySem.Challenge.pw_doneranges_k02_sets.main.body.getD i (.Pass ⟨0, 0, 0, 0⟩)
def clsS (st : Stmt) (j : Nat) : Stmt := match st with
  | .ClassDef _ _ _ b _ _ _ _ _ _ _ => b.getD j (.Pass ⟨0, 0, 0, 0⟩)
  | st => st
abbrev s_is_row : Stmt := top 8
abbrev s_need_rows : Stmt := top 9
abbrev s_need_house : Stmt := top 10
abbrev s_merged : Stmt := top 11
abbrev s_cut_out : Stmt := top 12
abbrev s_in_both : Stmt := top 13
abbrev s_held : Stmt := top 14
abbrev s_count_of : Stmt := top 15
abbrev s_plain : Stmt := top 16
abbrev s_joined : Stmt := top 17
abbrev s_common : Stmt := top 18
abbrev s_less : Stmt := top 19
abbrev s_within : Stmt := top 20
abbrev s_has : Stmt := top 21
abbrev s_amount : Stmt := top 22
abbrev s_reach : Stmt := top 23
abbrev s_whole_to : Stmt := top 24
abbrev s_gaps : Stmt := top 25
abbrev s__law_dice : Stmt := top 27
abbrev s__law_next : Stmt := top 28
abbrev s__law_like : Stmt := top 29
abbrev s__law_rows : Stmt := top 30
abbrev s__law_moved : Stmt := top 31
abbrev s__law_names : Stmt := top 32
abbrev s__law_told_rows : Stmt := top 33
abbrev s__law_gaps : Stmt := top 34
abbrev s__law_reach : Stmt := top 35
abbrev s__law_case : Stmt := top 36
abbrev s_law : Stmt := top 37
abbrev s_BadStretches___init__ : Stmt := clsS (top 2) 0
end Law

namespace Law
open PySem PySem.Spec PyProof.Rows L2
def dd_is_row : He.DefD := ⟨("is_row", none), "is_row", "is_row", defArgs s_is_row, defBody s_is_row, defScope s_is_row, [], []⟩
def dd_need_rows : He.DefD := ⟨("need_rows", none), "need_rows", "need_rows", defArgs s_need_rows, defBody s_need_rows, defScope s_need_rows, [], []⟩
def dd_need_house : He.DefD := ⟨("need_house", none), "need_house", "need_house", defArgs s_need_house, defBody s_need_house, defScope s_need_house, [], []⟩
def dd_merged : He.DefD := ⟨("merged", none), "merged", "merged", defArgs s_merged, defBody s_merged, defScope s_merged, [], []⟩
def dd_cut_out : He.DefD := ⟨("cut_out", none), "cut_out", "cut_out", defArgs s_cut_out, defBody s_cut_out, defScope s_cut_out, [], []⟩
def dd_in_both : He.DefD := ⟨("in_both", none), "in_both", "in_both", defArgs s_in_both, defBody s_in_both, defScope s_in_both, [], []⟩
def dd_held : He.DefD := ⟨("held", none), "held", "held", defArgs s_held, defBody s_held, defScope s_held, [], []⟩
def dd_count_of : He.DefD := ⟨("count_of", none), "count_of", "count_of", defArgs s_count_of, defBody s_count_of, defScope s_count_of, [], []⟩
def dd_plain : He.DefD := ⟨("plain", none), "plain", "plain", defArgs s_plain, defBody s_plain, defScope s_plain, [], []⟩
def dd_joined : He.DefD := ⟨("joined", none), "joined", "joined", defArgs s_joined, defBody s_joined, defScope s_joined, [], []⟩
def dd_common : He.DefD := ⟨("common", none), "common", "common", defArgs s_common, defBody s_common, defScope s_common, [], []⟩
def dd_less : He.DefD := ⟨("less", none), "less", "less", defArgs s_less, defBody s_less, defScope s_less, [], []⟩
def dd_within : He.DefD := ⟨("within", none), "within", "within", defArgs s_within, defBody s_within, defScope s_within, [], []⟩
def dd_has : He.DefD := ⟨("has", none), "has", "has", defArgs s_has, defBody s_has, defScope s_has, [], []⟩
def dd_amount : He.DefD := ⟨("amount", none), "amount", "amount", defArgs s_amount, defBody s_amount, defScope s_amount, [], []⟩
def dd_reach : He.DefD := ⟨("reach", none), "reach", "reach", defArgs s_reach, defBody s_reach, defScope s_reach, [], []⟩
def dd_whole_to : He.DefD := ⟨("whole_to", none), "whole_to", "whole_to", defArgs s_whole_to, defBody s_whole_to, defScope s_whole_to, [], []⟩
def dd_gaps : He.DefD := ⟨("gaps", none), "gaps", "gaps", defArgs s_gaps, defBody s_gaps, defScope s_gaps, [], []⟩
def dd__law_dice : He.DefD := ⟨("_law_dice", none), "_law_dice", "_law_dice", defArgs s__law_dice, defBody s__law_dice, defScope s__law_dice, [], []⟩
def dd__law_next : He.DefD := ⟨("_law_next", none), "_law_next", "_law_next", defArgs s__law_next, defBody s__law_next, defScope s__law_next, [], []⟩
def dd__law_like : He.DefD := ⟨("_law_like", none), "_law_like", "_law_like", defArgs s__law_like, defBody s__law_like, defScope s__law_like, [], []⟩
def dd__law_rows : He.DefD := ⟨("_law_rows", none), "_law_rows", "_law_rows", defArgs s__law_rows, defBody s__law_rows, defScope s__law_rows, [], []⟩
def dd__law_moved : He.DefD := ⟨("_law_moved", none), "_law_moved", "_law_moved", defArgs s__law_moved, defBody s__law_moved, defScope s__law_moved, [], []⟩
def dd__law_names : He.DefD := ⟨("_law_names", none), "_law_names", "_law_names", defArgs s__law_names, defBody s__law_names, defScope s__law_names, [], []⟩
def dd__law_told_rows : He.DefD := ⟨("_law_told_rows", none), "_law_told_rows", "_law_told_rows", defArgs s__law_told_rows, defBody s__law_told_rows, defScope s__law_told_rows, [], []⟩
def dd__law_gaps : He.DefD := ⟨("_law_gaps", none), "_law_gaps", "_law_gaps", defArgs s__law_gaps, defBody s__law_gaps, defScope s__law_gaps, [], []⟩
def dd__law_reach : He.DefD := ⟨("_law_reach", none), "_law_reach", "_law_reach", defArgs s__law_reach, defBody s__law_reach, defScope s__law_reach, [], []⟩
def dd__law_case : He.DefD := ⟨("_law_case", none), "_law_case", "_law_case", defArgs s__law_case, defBody s__law_case, defScope s__law_case, [], []⟩
def dd_law : He.DefD := ⟨("law", none), "law", "law", defArgs s_law, defBody s_law, defScope s_law, [], []⟩
def dd_BadStretches___init__ : He.DefD := ⟨("BadStretches", some "__init__"), "__init__", "BadStretches.__init__", defArgs s_BadStretches___init__, defBody s_BadStretches___init__, defScope s_BadStretches___init__, [], []⟩
def fn0 : List He.DefD := [dd_is_row, dd_need_rows, dd_need_house, dd_merged, dd_cut_out, dd_in_both, dd_held, dd_count_of, dd_plain, dd_joined, dd_common, dd_less, dd_within, dd_has, dd_amount, dd_reach, dd_whole_to, dd_gaps, dd__law_dice, dd__law_next, dd__law_like, dd__law_rows, dd__law_moved, dd__law_names, dd__law_told_rows]
def fn1 : List He.DefD := [dd__law_gaps, dd__law_reach, dd__law_case, dd_law, dd_BadStretches___init__]
def fn : List He.DefD := fn0 ++ fn1
def ts : List He.Tab := []
def tf : List (He.Defn × Str) := []
def ck_tabN : He.Chk := fun K => He.tabN tf K
def ck_oex_BadStretches : He.Chk := fun K => He.oexB K "BadStretches"
def ck_ini_BadStretches : He.Chk := fun K => He.initB K "BadStretches"
def ck_nf_BadStretches : He.Chk := fun K => decide (PySem.W.findIn K (.ref (He.ga K "BadStretches")) "at" = some none)
def ck_exb_DoneError : He.Chk := fun K => He.exbB K "DoneError"
def fa0 : List He.Fa := [.glo "is_row", .glo "need_rows", .glo "need_house", .glo "merged", .glo "cut_out", .glo "in_both", .glo "held", .glo "count_of", .glo "plain", .glo "joined", .glo "common", .glo "less", .glo "within", .glo "has", .glo "amount", .glo "reach", .glo "whole_to", .glo "gaps", .glo "_law_dice", .glo "_law_next", .glo "_law_like", .glo "_law_rows", .glo "_law_moved", .glo "_law_names", .glo "_law_told_rows"]
def fa1 : List He.Fa := [.glo "_law_gaps", .glo "_law_reach", .glo "_law_case", .glo "law", .free "bool", .free "dict", .free "enumerate", .free "int", .free "isinstance", .free "len", .free "list", .free "max", .free "min", .free "range", .free "set", .free "sorted", .free "str", .free "sum", .free "tuple", .int "MOST_HOUSES" 8, .int "MOST_NUMBER" 1000000000000, .int "MOST_ROWS" 200, .exc "NoHouse", .glo "BadStretches", .glo "DoneError"]
def fa2 : List He.Fa := [.glo "NoHouse"]
def fa : List He.Fa := fa0 ++ fa1 ++ fa2
def ex : List He.Chk := [ck_tabN, ck_oex_BadStretches, ck_ini_BadStretches, ck_nf_BadStretches, ck_exb_DoneError]
def loose0 : List Str := ["DoneError", "BadStretches", "NoHouse", "MOST_HOUSES", "MOST_NUMBER", "MOST_ROWS", "is_row", "need_rows", "need_house", "merged", "cut_out", "in_both", "held", "count_of", "plain", "joined", "common", "less", "within", "has", "amount", "reach", "whole_to", "gaps", "_law_dice", "_law_next", "_law_like", "_law_rows", "_law_moved", "_law_names"]
def loose1 : List Str := ["_law_told_rows", "_law_gaps", "_law_reach", "_law_case"]
def loose : List Str := loose0 ++ loose1
abbrev R : PySem.W.OpenRow := PySem.W.OpenLaw.row PySem.Challenge.rw_doneranges_k02_sets
def as : List Addr := 3 :: 2 :: 0 :: (List.range 1000).reverse
abbrev hk : PySem.W.Hook := He.hookA as fa fn tf ts ex
def ob (s : PySem.W.SharedT) : He.AlX := He.obsA as fa fn tf ts ex (HandSHeadRun.getT s)
theorem ob_eq (s : PySem.W.SharedT) : ob s = hk.obs s.abs := He.obsA_eq (HandSHeadRun.getT_eq s)
set_option maxHeartbeats 0 in
theorem run (w : World) : HandSHeadRun.RunEq R (PySem.W.view R.prog [37]) hk ob 30000 loose w := by
  intro os
  kernel_rfl
end Law


/-! DL: plain data over the hand layer: what a def computes as a function over data (D), with a small store for things that change. -/
namespace DL
open PySem PySem.Spec PyProof.Rows L2

/-- the tables of code objects that lambdas are made with -/
class Tbs where
  T : List (Addr × Str)
variable [Tbs]
/-- data: loc n is the n-th thing of the store; all others never change -/
inductive D where
  | non | bl (b : Bool) | int (i : Int) | str (s : Str)
  | tup (xs : List D) | lst (xs : List D)
  | dK (ks : List Key) (vs : List D) | dT (ks : List (List Key)) (vs : List D)
  | ins (c : Str) (ns : List Str) (vs : List D)
  | loc (n : Nat)
  /-- the script itself -/
  | scr (ns : List Int)
  /-- an exception that is handled: where it lies, its dict, its fields -/
  | exn (a : Addr) (d : Option Addr) (ns : List Str) (vs : List D)
/-- what a thing that changes holds -/
inductive Ob where
  | lst (xs : List D) | dK (kvs : List (Key × D)) | dT (kvs : List (List Key × D)) | ins (c : Str) (fs : List (Str × D))
  | lkK (kvs : List (Key × D)) | lkT (kvs : List (List Key × D)) | dead
  /-- a dict whose keys are tuples of tuples of whole numbers -/
  | dN (kvs : List (List (List Int) × D))
/-- a slot: nothing, data, a thing that this name alone holds -/
inductive Sl where | no | sh (d : D) | own (o : Ob)
/-- what an expression gives: data, a new thing, the thing of a slot -/
inductive Op where | sh (d : D) | own (o : Ob) | slot (i : Nat)
/-- what a def hands back -/
inductive Rv where | sh (d : D) | own (o : Ob)
/-- what an operation looks at -/
inductive Vw where | d (x : D) | ob (o : Ob)
abbrev Store := List Ob
abbrev Ev := List Sl
structure Xc where
  cls : Str
  ns : List Str
  vs : List D
inductive Res (α : Type) where | ok (a : α) (μ : Store) | exc (x : Xc) (μ : Store) | stk
def Res.bind {α β : Type} (r : Res α) (f : α → Store → Res β) : Res β := match r with
  | .ok a μ => f a μ
  | .exc x μ => .exc x μ
  | .stk => .stk
theorem Res.bind_ok {α β : Type} {a : α} {μ : Store} {f : α → Store → Res β} : (Res.ok a μ).bind f = f a μ := rfl
theorem Res.bind_exc {α β : Type} {x : Xc} {μ : Store} {f : α → Store → Res β} : (Res.exc x μ : Res α).bind f = .exc x μ := rfl
theorem Res.bind_stk {α β : Type} {f : α → Store → Res β} : (Res.stk : Res α).bind f = .stk := rfl
def Res.of {α : Type} (o : Option α) (μ : Store) : Res α := match o with
  | some a => .ok a μ
  | none => .stk
abbrev ME := Ev → Store → Res Op
abbrev MT := Ev → Store → Res Bool
abbrev MA := Ev → Store → Res (List D)

/-! ### what data stands for -/
mutual
def VR (K : PySem.W.Frag) (cad : Str → Addr) (ι : List Addr) (F : Hp) : D → V → Prop
  | .non, v => v = .non
  | .bl b, v => v = .bl b
  | .int i, v => v = .int i
  | .str s, v => v = .str s
  | .tup ds, v => ∃ a vs, v = .ref a ∧ F a = some (.tup vs) ∧ VRs K cad ι F ds vs
  | .lst ds, v => ∃ a vs, v = .ref a ∧ F a = some (.lst vs) ∧ VRs K cad ι F ds vs
  | .dK ks ds, v => ∃ a o vs, v = .ref a ∧ F a = some (.frz o (.dK (ks.zip vs))) ∧ ks.length = vs.length ∧ VRs K cad ι F ds vs
  | .dT ks ds, v => ∃ a o vs, v = .ref a ∧ F a = some (.frz o (.dT (ks.zip vs))) ∧ ks.length = vs.length ∧ VRs K cad ι F ds vs
  | .ins c ns ds, v => ∃ a dx vs, v = .ref a ∧ F a = some (.ins (cad c) dx (ns.zip vs)) ∧ ns.length = vs.length ∧ VRs K cad ι F ds vs
  | .loc n, v => ∃ a, v = .ref a ∧ ι[n]? = some a
  | .scr ns, v => ∃ a, v = .ref a ∧ SqL K F a (ns.map V.int)
  | .exn a d ns ds, v => v = .ref a ∧ ∀ dd, d = some dd → ∃ vs, F dd = some (.xd (ns.zip vs)) ∧ ns.length = vs.length ∧ VRs K cad ι F ds vs
def VRs (K : PySem.W.Frag) (cad : Str → Addr) (ι : List Addr) (F : Hp) : List D → List V → Prop
  | [], vs => vs = []
  | d :: ds, vs => ∃ v vs', vs = v :: vs' ∧ VR K cad ι F d v ∧ VRs K cad ι F ds vs'
end
theorem pre_get {α : Type} {l l' : List α} (h : l <+: l') {n : Nat} {a : α} (e : l[n]? = some a) : l'[n]? = some a := by
  obtain ⟨t, rfl⟩ := h
  have hn : n < l.length := (List.getElem?_eq_some_iff.mp e).1
  rw [List.getElem?_append_left hn]
  exact e
section
variable {K : PySem.W.Frag} {cad : Str → Addr} {ι ι' : List Addr} {F F' H H' : Hp}
mutual
theorem VR.mono (hf : Same F F') (hi : ι <+: ι') : ∀ (d : D) (v : V), VR K cad ι F d v → VR K cad ι' F' d v
  | .non, _, h => h
  | .bl _, _, h => h
  | .int _, _, h => h
  | .str _, _, h => h
  | .tup ds, _, h => by
    unfold VR at h ⊢
    obtain ⟨a, vs, e, f, r⟩ := h
    exact ⟨a, vs, e, hf _ _ f, VRs.mono hf hi ds vs r⟩
  | .lst ds, _, h => by
    unfold VR at h ⊢
    obtain ⟨a, vs, e, f, r⟩ := h
    exact ⟨a, vs, e, hf _ _ f, VRs.mono hf hi ds vs r⟩
  | .dK ks ds, _, h => by
    unfold VR at h ⊢
    obtain ⟨a, o, vs, e, f, l, r⟩ := h
    exact ⟨a, o, vs, e, hf _ _ f, l, VRs.mono hf hi ds vs r⟩
  | .dT ks ds, _, h => by
    unfold VR at h ⊢
    obtain ⟨a, o, vs, e, f, l, r⟩ := h
    exact ⟨a, o, vs, e, hf _ _ f, l, VRs.mono hf hi ds vs r⟩
  | .ins c ns ds, _, h => by
    unfold VR at h ⊢
    obtain ⟨a, o, vs, e, f, l, r⟩ := h
    exact ⟨a, o, vs, e, hf _ _ f, l, VRs.mono hf hi ds vs r⟩
  | .loc n, _, h => by
    unfold VR at h ⊢
    obtain ⟨a, e, f⟩ := h
    exact ⟨a, e, pre_get hi f⟩
  | .scr ns, _, h => by
    unfold VR at h ⊢
    obtain ⟨a, e, f⟩ := h
    exact ⟨a, e, hf.seq f⟩
  | .exn a d ns ds, _, h => by
    unfold VR at h ⊢
    obtain ⟨e, f⟩ := h
    refine ⟨e, fun dd ed => ?_⟩
    obtain ⟨vs, f1, f2, f3⟩ := f dd ed
    exact ⟨vs, hf _ _ f1, f2, VRs.mono hf hi ds vs f3⟩
theorem VRs.mono (hf : Same F F') (hi : ι <+: ι') : ∀ (ds : List D) (vs : List V), VRs K cad ι F ds vs → VRs K cad ι' F' ds vs
  | [], _, h => h
  | d :: ds, _, h => by
    unfold VRs at h ⊢
    obtain ⟨v, vs, e, r, rs⟩ := h
    exact ⟨v, vs, e, VR.mono hf hi d v r, VRs.mono hf hi ds vs rs⟩
end
theorem VRs.nil : VRs K cad ι F [] [] := rfl
theorem VRs.cons {d : D} {v : V} {ds : List D} {vs : List V} (h : VR K cad ι F d v) (t : VRs K cad ι F ds vs) : VRs K cad ι F (d :: ds) (v :: vs) := ⟨v, vs, rfl, h, t⟩
theorem VRs.of_nil {vs : List V} (h : VRs K cad ι F [] vs) : vs = [] := h
theorem VRs.of_cons {d : D} {ds : List D} {v : V} {vs : List V} (h : VRs K cad ι F (d :: ds) (v :: vs)) : VR K cad ι F d v ∧ VRs K cad ι F ds vs := by
  obtain ⟨v', vs', e, r, t⟩ := h
  cases e
  exact ⟨r, t⟩
theorem VRs.len : ∀ {ds : List D} {vs : List V}, VRs K cad ι F ds vs → ds.length = vs.length
  | [], _, h => by cases h; rfl
  | d :: ds, _, h => by
    obtain ⟨v, vs, rfl, _, t⟩ := h
    simp only [List.length_cons, VRs.len t]
theorem VRs.get : ∀ {ds : List D} {vs : List V} {i : Nat} {d : D}, VRs K cad ι F ds vs → ds[i]? = some d → ∃ v, vs[i]? = some v ∧ VR K cad ι F d v
  | [], _, _, _, _, e => by simp at e
  | x :: ds, _, 0, d, h, e => by
    obtain ⟨v, vs, rfl, r, _⟩ := h
    simp at e
    subst e
    exact ⟨v, rfl, r⟩
  | x :: ds, _, i + 1, d, h, e => by
    obtain ⟨v, vs, rfl, _, t⟩ := h
    simp only [List.getElem?_cons_succ] at e ⊢
    exact VRs.get t e
theorem VRs.got : ∀ {ds : List D} {vs : List V} {i : Nat} {v : V}, VRs K cad ι F ds vs → vs[i]? = some v → ∃ d, ds[i]? = some d ∧ VR K cad ι F d v
  | [], _, i, v, h, e => by cases h; simp at e
  | x :: ds, _, 0, v, h, e => by
    obtain ⟨v', vs, rfl, r, _⟩ := h
    simp at e
    subst e
    exact ⟨x, rfl, r⟩
  | x :: ds, _, i + 1, v, h, e => by
    obtain ⟨v', vs, rfl, _, t⟩ := h
    simp only [List.getElem?_cons_succ] at e ⊢
    exact VRs.got t e
theorem VRs.app : ∀ {ds es : List D} {vs us : List V}, VRs K cad ι F ds vs → VRs K cad ι F es us → VRs K cad ι F (ds ++ es) (vs ++ us)
  | [], _, _, _, h, t => by cases h; exact t
  | d :: ds, _, _, _, h, t => by
    obtain ⟨v, vs, rfl, r, h⟩ := h
    exact ⟨v, _, rfl, r, VRs.app h t⟩
theorem VRs.take : ∀ {ds : List D} {vs : List V} (n : Nat), VRs K cad ι F ds vs → VRs K cad ι F (ds.take n) (vs.take n)
  | _, _, 0, _ => rfl
  | [], _, _ + 1, h => by cases h; rfl
  | d :: ds, _, n + 1, h => by
    obtain ⟨v, vs, rfl, r, h⟩ := h
    exact ⟨v, _, rfl, r, VRs.take n h⟩
theorem VRs.drop : ∀ {ds : List D} {vs : List V} (n : Nat), VRs K cad ι F ds vs → VRs K cad ι F (ds.drop n) (vs.drop n)
  | _, _, 0, h => h
  | [], _, _ + 1, h => by cases h; rfl
  | d :: ds, _, n + 1, h => by
    obtain ⟨v, vs, rfl, r, h⟩ := h
    exact VRs.drop n h
theorem VRs.set : ∀ {ds : List D} {vs : List V} (i : Nat) {d : D} {v : V}, VRs K cad ι F ds vs → VR K cad ι F d v → VRs K cad ι F (ds.set i d) (vs.set i v)
  | [], _, _, _, _, h, _ => by cases h; rfl
  | x :: ds, _, 0, d, v, h, r => by
    obtain ⟨v', vs, rfl, _, h⟩ := h
    exact ⟨v, vs, rfl, r, h⟩
  | x :: ds, _, i + 1, d, v, h, r => by
    obtain ⟨v', vs, rfl, r', h⟩ := h
    exact ⟨v', _, rfl, r', VRs.set i h r⟩
theorem VRs.rev {ds : List D} {vs : List V} (h : VRs K cad ι F ds vs) : VRs K cad ι F ds.reverse vs.reverse := by
  induction ds generalizing vs with
  | nil => cases h; rfl
  | cons d ds ih =>
    obtain ⟨v, vs, rfl, r, h⟩ := h
    rw [List.reverse_cons, List.reverse_cons]
    exact (ih h).app ⟨v, [], rfl, r, rfl⟩
theorem VRs.split {es : List D} : ∀ {ds : List D} {vs : List V}, VRs K cad ι F (ds ++ es) vs → ∃ us ws, vs = us ++ ws ∧ VRs K cad ι F ds us ∧ VRs K cad ι F es ws
  | [], vs, h => ⟨[], vs, rfl, rfl, h⟩
  | d :: ds, vs, h => by
    obtain ⟨v, vs, rfl, r, h⟩ := h
    obtain ⟨us, ws, rfl, h1, h2⟩ := VRs.split (ds := ds) h
    exact ⟨v :: us, ws, rfl, ⟨v, us, rfl, r, h1⟩, h2⟩
end

/-! ### keys: tuples of tuples of whole numbers -/
abbrev NK := List (List Int)
def nkD (k : NK) : D := .tup (k.map fun r => .tup (r.map .int))
def nkK (k : NK) : NestedKey := .tup (k.map fun r => .tup (r.map .num))
/-- hash of such a key -/
def nkH (k : NK) : Int := reduceHash (Builtin.Tuple.tupleHashOf (k.map fun r => reduceHash (Builtin.Tuple.tupleHashOf (r.map hashInt))))
theorem nkH_eq (w : World) (k : NK) : (nkK k).hash w = nkH k := by
  have h1 : ∀ r : List Int, NestedKey.hashes w (r.map .num) = r.map hashInt := fun r => by
    induction r with
    | nil => rfl
    | cons i r ih =>
      rw [List.map_cons, List.map_cons, ← ih]
      rfl
  have h2 : ∀ k : NK, NestedKey.hashes w (k.map fun r => NestedKey.tup (r.map .num)) = k.map fun r => reduceHash (Builtin.Tuple.tupleHashOf (r.map hashInt)) := fun k => by
    induction k with
    | nil => rfl
    | cons r k ih =>
      rw [List.map_cons, List.map_cons, ← ih, ← h1 r]
      rfl
  show reduceHash (Builtin.Tuple.tupleHashOf (NestedKey.hashes w (k.map fun r => NestedKey.tup (r.map .num)))) = _
  rw [h2]
  rfl
def ndE (x : NK × Addr × Addr) : DictEntry := ⟨nkH x.1, .ref x.2.1, .ref x.2.2⟩
def NDict (a : Addr) (xs : List (NK × Addr × Addr)) : Heap → Prop := fun h => ∃ (o : Obj) (es : Array DictEntry) (ep : Nat), h.get? a = some o ∧ o.ExactDict ∧ o.data = .dict es ep ∧ es.toList = xs.map ndE
theorem nd_ne (a : Addr) (xs : List (NK × Addr × Addr)) (c : Addr) (q : Str) : HO.ext (NDict a xs) ≠ LamX.CodeO c q := fun z => by
  have z : HO.ext (NDict a xs) = HO.ext fun h => ∃ (oc : Obj) (vs : Array Value) (t : Tok), h.get? c = some oc ∧ oc.data = .fields vs ∧ vs[1]? = some (.str q t) := z
  injection z with z
  have gt : ∀ b, b < a + c + 1 → (Heap.get? { objs := Array.replicate (a + c + 1) ({ cls := .type "dict", data := .dict (xs.map ndE).toArray 0 } : Obj) } b) = some { cls := .type "dict", data := .dict (xs.map ndE).toArray 0 } := fun b hb => by
    unfold Heap.get?
    simp [hb]
  have e := congrFun z { objs := Array.replicate (a + c + 1) ({ cls := .type "dict", data := .dict (xs.map ndE).toArray 0 } : Obj) }
  have h1 : NDict a xs { objs := Array.replicate (a + c + 1) ({ cls := .type "dict", data := .dict (xs.map ndE).toArray 0 } : Obj) } := ⟨_, _, 0, gt a (Nat.lt_succ_of_le (Nat.le_add_right a c)), ⟨rfl, rfl, rfl⟩, rfl, by simp⟩
  rw [e] at h1
  obtain ⟨oc, vs, t, h2, h3, _⟩ := h1
  rw [gt c (Nat.lt_succ_of_le (Nat.le_add_left c a))] at h2
  cases h2
  cases h3
/-! ### the store -/
def OR (K : PySem.W.Frag) (cad : Str → Addr) (ι : List Addr) (F : Hp) (a : Addr) : Ob → HO → Prop
  | .lst ds, ho => ∃ vs, ho = .lst vs ∧ VRs K cad ι F ds vs
  | .dK kvs, ho => ∃ vs, ho = .dK ((kvs.map (·.1)).zip vs) ∧ VRs K cad ι F (kvs.map (·.2)) vs
  | .dT kvs, ho => ∃ vs, ho = .dT ((kvs.map (·.1)).zip vs) ∧ VRs K cad ι F (kvs.map (·.2)) vs
  | .ins c fs, ho => ∃ dx vs, ho = .ins (cad c) dx ((fs.map (·.1)).zip vs) ∧ VRs K cad ι F (fs.map (·.2)) vs
  | .lkK kvs, ho => ∃ o vs, ho = .frz o (.dK ((kvs.map (·.1)).zip vs)) ∧ VRs K cad ι F (kvs.map (·.2)) vs
  | .lkT kvs, ho => ∃ o vs, ho = .frz o (.dT ((kvs.map (·.1)).zip vs)) ∧ VRs K cad ι F (kvs.map (·.2)) vs
  | .dead, _ => False
  | .dN kvs, ho => ∃ xs : List (NK × Addr × Addr), kvs.map (·.1) = xs.map (·.1) ∧ ho = .ext (NDict a xs) ∧ (xs.map (·.1)).Nodup ∧ (∀ x ∈ xs, VR K cad ι F (nkD x.1) (.ref x.2.1)) ∧ VRs K cad ι F (kvs.map (·.2)) (xs.map fun x => V.ref x.2.2) ∧ kvs.length ≤ 16777216 ∧ (a == sysModules) = false
section
variable {K : PySem.W.Frag} {cad : Str → Addr} {ι ι' : List Addr} {F F' H H' : Hp}
theorem OR.mono {a : Addr} (hf : Same F F') (hi : ι <+: ι') : ∀ {o : Ob} {ho : HO}, OR K cad ι F a o ho → OR K cad ι' F' a o ho
  | .lst _, _, ⟨vs, e, r⟩ => ⟨vs, e, VRs.mono hf hi _ _ r⟩
  | .dK _, _, ⟨vs, e, r⟩ => ⟨vs, e, VRs.mono hf hi _ _ r⟩
  | .dT _, _, ⟨vs, e, r⟩ => ⟨vs, e, VRs.mono hf hi _ _ r⟩
  | .ins _ _, _, ⟨dx, vs, e, r⟩ => ⟨dx, vs, e, VRs.mono hf hi _ _ r⟩
  | .lkK _, _, ⟨o, vs, e, r⟩ => ⟨o, vs, e, VRs.mono hf hi _ _ r⟩
  | .lkT _, _, ⟨o, vs, e, r⟩ => ⟨o, vs, e, VRs.mono hf hi _ _ r⟩
  | .dead, _, h => h.elim
  | .dN _, _, ⟨xs, e0, e, n, k, r, z⟩ => ⟨xs, e0, e, n, fun x hx => VR.mono hf hi _ _ (k x hx), VRs.mono hf hi _ _ r, z⟩
theorem OR.notbl {a : Addr} {o : Ob} {ho : HO} (h : OR K cad ι F a o ho) : (∀ ps, ho ≠ .tbl ps) ∧ ∀ c q, ho ≠ LamX.CodeO c q := by
  refine ⟨fun ps z => ?_, fun c q z => ?_⟩
  · subst z
    cases o with
    | lst _ => obtain ⟨_, e, _⟩ := h; cases e
    | dK _ => obtain ⟨_, e, _⟩ := h; cases e
    | dT _ => obtain ⟨_, e, _⟩ := h; cases e
    | ins _ _ => obtain ⟨_, _, e, _⟩ := h; cases e
    | lkK _ => obtain ⟨_, _, e, _⟩ := h; cases e
    | lkT _ => obtain ⟨_, _, e, _⟩ := h; cases e
    | dead => exact h
    | dN _ => obtain ⟨_, _, e, _⟩ := h; cases e
  · subst z
    cases o with
    | lst _ => obtain ⟨_, e, _⟩ := h; cases e
    | dK _ => obtain ⟨_, e, _⟩ := h; cases e
    | dT _ => obtain ⟨_, e, _⟩ := h; cases e
    | ins _ _ => obtain ⟨_, _, e, _⟩ := h; cases e
    | lkK _ => obtain ⟨_, _, e, _⟩ := h; cases e
    | lkT _ => obtain ⟨_, _, e, _⟩ := h; cases e
    | dead => exact h
    | dN _ => obtain ⟨xs, _, e, _⟩ := h; exact nd_ne a xs c q e.symm
theorem OR.notup {a : Addr} {o : Ob} {xs : List V} (h : OR K cad ι F a o (.tup xs)) : False := by
  cases o with
  | lst _ => obtain ⟨_, e, _⟩ := h; cases e
  | dK _ => obtain ⟨_, e, _⟩ := h; cases e
  | dT _ => obtain ⟨_, e, _⟩ := h; cases e
  | ins _ _ => obtain ⟨_, _, e, _⟩ := h; cases e
  | lkK _ => obtain ⟨_, _, e, _⟩ := h; cases e
  | lkT _ => obtain ⟨_, _, e, _⟩ := h; cases e
  | dead => exact h
  | dN _ => obtain ⟨_, _, e, _⟩ := h; cases e
end
/-- the tables are known -/
def Tb (H : Hp) : Prop := LamX.Tabs Tbs.T H
theorem Tb.new {H : Hp} {p : Addr} {o : HO} (t : Tb H) (h : H p = none) : Tb (upd H p o) := LamX.Tabs.ext t fun b x e => by rw [upd_ne (ne_of_none e h)]; exact e
theorem Tb.put {H : Hp} {p : Addr} {o ho : HO} (t : Tb H) (h : H p = some ho) (n1 : ∀ ps, ho ≠ .tbl ps) (n2 : ∀ c q, ho ≠ LamX.CodeO c q) : Tb (upd H p o) := fun q hq => by
  obtain ⟨ps, h1, h2, h3⟩ := t q hq
  refine ⟨ps, ?_, h2, fun pos cv hc => ?_⟩
  · rw [upd_ne (fun z => by rw [z, h] at h1; exact n1 ps (Option.some.inj h1))]
    exact h1
  · obtain ⟨c, e1, e2⟩ := h3 pos cv hc
    refine ⟨c, e1, ?_⟩
    rw [upd_ne (fun z => by rw [z, h] at e2; exact n2 _ _ (Option.some.inj e2))]
    exact e2
/-- the store at the addresses ι; F: what never changes -/
structure RS (K : PySem.W.Frag) (cad : Str → Addr) (F : Hp) (ι : List Addr) (μ : Store) (H : Hp) : Prop where
  sub : Same F H
  len : ι.length = μ.length
  nd : ι.Nodup
  sep : ∀ a ∈ ι, F a = none
  obj : ∀ (n : Nat) (o : Ob) (a : Addr), μ[n]? = some o → ι[n]? = some a → ∃ ho, H a = some ho ∧ OR K cad ι F a o ho
  tb : Tb H
  ft : ∀ a ps, F a ≠ some (.tbl ps)
/-- what an expression may do: things of the store change, new things come -/
structure Ext (F : Hp) (ι : List Addr) (H : Hp) (F' : Hp) (ι' : List Addr) (H' : Hp) : Prop where
  f : Same F F'
  i : ι <+: ι'
  kept : ∀ a o, a ∉ ι → H a = some o → (∀ ps, o ≠ .tbl ps) → H' a = some o
  dom : ∀ a, H' a = none → H a = none
  nf : ∀ a, F a = none → F' a ≠ none → a ∉ ι ∧ (H a = none ∨ (∃ xs, H a = some (.tup xs)) ∨ ∃ ps, H a = some (.tbl ps))
  ni : ∀ a, a ∈ ι' → a ∉ ι → H a = none
  lk : ∀ a o u, H a = some (.frz o u) → H' a = some (.frz o u)
section
variable {F F' F'' H H' H'' : Hp} {ι ι' ι'' : List Addr}
theorem Ext.refl (F : Hp) (ι : List Addr) (H : Hp) : Ext F ι H F ι H :=
  ⟨Same.refl _, List.prefix_rfl, fun _ _ _ h _ => h, fun _ h => h, fun a h1 h2 => absurd h1 h2, fun a h1 h2 => absurd h1 h2, fun _ _ _ h => h⟩
theorem Ext.trans (x : Ext F ι H F' ι' H') (y : Ext F' ι' H' F'' ι'' H'') : Ext F ι H F'' ι'' H'' := by
  refine ⟨x.f.trans y.f, x.i.trans y.i, fun a o h e nt => ?_, fun a h => x.dom a (y.dom a h), fun a h1 h2 => ?_, fun a h1 h2 => ?_, fun a o u h => y.lk a o u (x.lk a o u h)⟩
  · refine y.kept a o (fun z => ?_) (x.kept a o h e nt) nt
    have q := x.ni a z h
    rw [e] at q
    cases q
  · by_cases q : F' a = none
    · obtain ⟨n1, n2⟩ := y.nf a q h2
      have n3 : a ∉ ι := fun z => n1 (x.i.subset z)
      refine ⟨n3, ?_⟩
      rcases n2 with n2 | n2
      · exact .inl (x.dom a n2)
      · cases c : H a with
        | none => exact .inl rfl
        | some o =>
          by_cases nt : ∃ ps, o = .tbl ps
          · obtain ⟨ps, rfl⟩ := nt
            exact .inr (.inr ⟨ps, rfl⟩)
          · rw [x.kept a o n3 c fun ps z => nt ⟨ps, z⟩] at n2
            exact .inr n2
    · exact x.nf a h1 q
  · by_cases q : a ∈ ι'
    · exact x.ni a q h2
    · exact x.dom a (y.ni a h1 q)
theorem same_new {F : Hp} {p : Addr} {o : HO} (h : F p = none) : Same F (upd F p o) := fun b x e => by
  rw [upd_ne (ne_of_none e h)]
  exact e
theorem Ext.newH {p : Addr} {o : HO} (h : H p = none) : Ext F ι H F ι (upd H p o) := by
  refine ⟨Same.refl _, List.prefix_rfl, fun a o' _ e _ => ?_, fun a e => ?_, fun a h1 h2 => absurd h1 h2, fun a h1 h2 => absurd h1 h2, fun a o' u e => by rw [upd_ne (ne_of_none e h)]; exact e⟩
  · rw [upd_ne (ne_of_none e h)]
    exact e
  · by_cases q : a = p
    · rw [q] at e ⊢
      exact h
    · rw [upd_ne q] at e
      exact e
end
section
variable {K : PySem.W.Frag} {cad : Str → Addr} {F F' H H' : Hp} {ι ι' : List Addr} {μ μ' : Store}
theorem RS.addr (r : RS K cad F ι μ H) {n : Nat} {o : Ob} (e : μ[n]? = some o) : ∃ a, ι[n]? = some a ∧ a ∈ ι ∧ F a = none := by
  have hn : n < μ.length := (List.getElem?_eq_some_iff.mp e).1
  have hi : n < ι.length := by rw [r.len]; exact hn
  refine ⟨ι[n], List.getElem?_eq_getElem hi, List.getElem_mem hi, r.sep _ (List.getElem_mem hi)⟩
theorem RS.inj (r : RS K cad F ι μ H) {n m : Nat} {a : Addr} (e : ι[n]? = some a) (e' : ι[m]? = some a) : n = m := by
  exact (List.getElem?_inj (List.getElem?_eq_some_iff.mp e).1 r.nd).mp (e.trans e'.symm)
/-- what is fresh to H is fresh to F and none of ι -/
theorem RS.fresh (r : RS K cad F ι μ H) {p : Addr} (h : H p = none) : F p = none ∧ p ∉ ι := by
  refine ⟨r.sub.free h, fun hp => ?_⟩
  obtain ⟨n, hn, e⟩ := List.getElem_of_mem hp
  have hm : n < μ.length := by rw [← r.len]; exact hn
  obtain ⟨ho, e1, _⟩ := r.obj n μ[n] p (List.getElem?_eq_getElem hm) (by rw [List.getElem?_eq_getElem hn, e])
  rw [h] at e1
  cases e1
/-- the same store over more -/
theorem RS.grow (r : RS K cad F ι μ H) (hf : Same F F') (hs : Same F' H') (hk : ∀ a ∈ ι, ∀ o, H a = some o → H' a = some o) (hn : ∀ a ∈ ι, F' a = none) (tb : Tb H') (ft : ∀ a ps, F' a ≠ some (.tbl ps)) : RS K cad F' ι μ H' := by
  refine ⟨hs, r.len, r.nd, hn, fun n o a e1 e2 => ?_, tb, ft⟩
  obtain ⟨ho, e, q⟩ := r.obj n o a e1 e2
  exact ⟨ho, hk a (List.mem_of_getElem? e2) ho e, q.mono hf List.prefix_rfl⟩
theorem same_upd {F H : Hp} {p : Addr} {o : HO} (s : Same F H) (h : H p = none) : Same F (upd H p o) := fun b x e => by
  rw [upd_ne (ne_of_none (s b x e) h)]
  exact s b x e
theorem same_upd2 {F H : Hp} {p : Addr} {o : HO} (s : Same F H) : Same (upd F p o) (upd H p o) := fun b x e => by
  by_cases q : b = p
  · rw [q, upd_same] at e ⊢
    exact e
  · rw [upd_ne q] at e ⊢
    exact s b x e
/-- a new thing, not in F -/
theorem RS.newH (r : RS K cad F ι μ H) {p : Addr} {o : HO} (h : H p = none) : RS K cad F ι μ (upd H p o) :=
  r.grow (Same.refl _) (same_upd r.sub h) (fun a ha x e => by rw [upd_ne (ne_of_none e h)]; exact e) r.sep (r.tb.new h) r.ft
/-- a new thing that never changes -/
theorem ft_upd {F : Hp} {p : Addr} {o : HO} (h : ∀ a ps, F a ≠ some (.tbl ps)) (n : ∀ ps, o ≠ .tbl ps) : ∀ a ps, upd F p o a ≠ some (.tbl ps) := fun a ps z => by
  by_cases q : a = p
  · rw [q, upd_same] at z
    exact n ps (Option.some.inj z)
  · rw [upd_ne q] at z
    exact h a ps z
theorem RS.newF (r : RS K cad F ι μ H) {p : Addr} {o : HO} (h : H p = none) (nt : ∀ ps, o ≠ .tbl ps := by intro _ z; cases z) : RS K cad (upd F p o) ι μ (upd H p o) :=
  r.grow (same_new (r.fresh h).1) (same_upd2 r.sub) (fun a ha x e => by rw [upd_ne (ne_of_none e h)]; exact e) (fun a ha => by
    rw [upd_ne (show a ≠ p from fun z => (r.fresh h).2 (z ▸ ha))]
    exact r.sep a ha) (r.tb.new h) (ft_upd r.ft nt)
theorem Ext.newF (r : RS K cad F ι μ H) {p : Addr} {o : HO} (h : H p = none) : Ext F ι H (upd F p o) ι (upd H p o) := by
  refine ⟨same_new (r.fresh h).1, List.prefix_rfl, fun a o' _ e _ => ?_, fun a e => ?_, fun a h1 h2 => ?_, fun a h1 h2 => absurd h1 h2, fun a o' u e => by rw [upd_ne (ne_of_none e h)]; exact e⟩
  · rw [upd_ne (ne_of_none e h)]
    exact e
  · by_cases q : a = p
    · rw [q] at e ⊢
      exact h
    · rw [upd_ne q] at e
      exact e
  · by_cases q : a = p
    · rw [q]
      exact ⟨(r.fresh h).2, .inl h⟩
    · rw [upd_ne q] at h2
      exact absurd h1 h2
/-- a thing of its own from now on never changes -/
theorem RS.freeze (r : RS K cad F ι μ H) {p : Addr} {o : HO} (h : H p = some o) (hi : p ∉ ι) (hF : F p = none) (nt : ∀ ps, o ≠ .tbl ps := by intro _ z; cases z) : RS K cad (upd F p o) ι μ H :=
  r.grow (same_new hF) (fun b x e => by
    by_cases q : b = p
    · rw [q, upd_same] at e
      rw [q, h]
      exact e
    · rw [upd_ne q] at e
      exact r.sub b x e) (fun _ _ _ e => e) (fun a ha => by
    rw [upd_ne (show a ≠ p from fun z => hi (z ▸ ha))]
    exact r.sep a ha) r.tb (ft_upd r.ft nt)
/-- a thing of the store changes -/
theorem RS.put (r : RS K cad F ι μ H) {n : Nat} {a : Addr} {o : Ob} {ho : HO} (e : ι[n]? = some a) (q : OR K cad ι F a o ho) : RS K cad F ι (μ.set n o) (upd H a ho) := by
  have ha : a ∈ ι := List.mem_of_getElem? e
  have tb : Tb (upd H a ho) := by
    have hn : n < μ.length := by rw [← r.len]; exact (List.getElem?_eq_some_iff.mp e).1
    obtain ⟨ho', e1, q'⟩ := r.obj n μ[n] a (List.getElem?_eq_getElem hn) e
    exact r.tb.put e1 q'.notbl.1 q'.notbl.2
  refine ⟨fun b x s => ?_, by rw [r.len, List.length_set], r.nd, r.sep, fun m o' b e1 e2 => ?_, tb, r.ft⟩
  · rw [upd_ne (fun z => by rw [z, r.sep a ha] at s; cases s)]
    exact r.sub b x s
  · by_cases hb : b = a
    · subst hb
      have hm : m = n := r.inj e2 e
      subst hm
      rw [List.getElem?_set_self (by have := (List.getElem?_eq_some_iff.mp e).1; rw [r.len] at this; exact this)] at e1
      cases e1
      exact ⟨ho, upd_same, q⟩
    · have hm : n ≠ m := fun z => hb (by subst z; rw [e] at e2; exact (Option.some.inj e2).symm)
      rw [List.getElem?_set_ne hm] at e1
      obtain ⟨h1, e3, q3⟩ := r.obj m o' b e1 e2
      exact ⟨h1, by rw [upd_ne hb]; exact e3, q3⟩
theorem Ext.put {n : Nat} {a : Addr} {ho : HO} (e : ι[n]? = some a) (nf : ∀ o u, H a ≠ some (.frz o u)) : Ext F ι H F ι (upd H a ho) := by
  have ha : a ∈ ι := List.mem_of_getElem? e
  refine ⟨Same.refl _, List.prefix_rfl, fun b o hb s _ => ?_, fun b s => ?_, fun a h1 h2 => absurd h1 h2, fun a h1 h2 => absurd h1 h2, fun b o u s => by rw [upd_ne (show b ≠ a from fun z => nf o u (by rw [← z]; exact s))]; exact s⟩
  · rw [upd_ne (show b ≠ a from fun z => hb (z ▸ ha))]
    exact s
  · by_cases q : b = a
    · rw [q, upd_same] at s
      cases s
    · rw [upd_ne q] at s
      exact s
theorem pre_snoc {α : Type} (l : List α) (a : α) : l <+: l ++ [a] := ⟨[a], rfl⟩
/-- a thing of its own comes into the store -/
theorem RS.push (r : RS K cad F ι μ H) {p : Addr} {o : Ob} {ho : HO} (h : H p = some ho) (hi : p ∉ ι) (hF : F p = none) (q : OR K cad ι F p o ho) : RS K cad F (ι ++ [p]) (μ ++ [o]) H := by
  refine ⟨r.sub, by rw [List.length_append, List.length_append, r.len]; rfl, ?_, fun a ha => ?_, fun n o' a e1 e2 => ?_, r.tb, r.ft⟩
  · refine List.nodup_append.mpr ⟨r.nd, by simp, fun a ha b hb => ?_⟩
    have : b = p := by simpa using hb
    subst this
    exact fun z => hi (z ▸ ha)
  · rcases List.mem_append.mp ha with z | z
    · exact r.sep a z
    · have : a = p := by simpa using z
      rw [this]
      exact hF
  · by_cases hn : n < μ.length
    · rw [List.getElem?_append_left hn] at e1
      rw [List.getElem?_append_left (by rw [r.len]; exact hn)] at e2
      obtain ⟨h1, e3, q3⟩ := r.obj n o' a e1 e2
      exact ⟨h1, e3, q3.mono (Same.refl _) (pre_snoc _ _)⟩
    · have hn' : μ.length ≤ n := Nat.le_of_not_lt hn
      rw [List.getElem?_append_right hn'] at e1
      rw [List.getElem?_append_right (by rw [r.len]; exact hn')] at e2
      have z : n - μ.length = 0 := by
        cases c : n - μ.length with
        | zero => rfl
        | succ k =>
          rw [c] at e1
          simp at e1
      rw [z] at e1
      rw [r.len, z] at e2
      simp at e1 e2
      subst e1
      subst e2
      exact ⟨ho, h, q.mono (Same.refl _) (pre_snoc _ _)⟩
end

/-- what is of its own is not taken into F' -/
theorem Ext.apart {K : PySem.W.Frag} {cad : Str → Addr} {F F' H H' : Hp} {ι ι' : List Addr} {a : Addr} {o : Ob} {ho : HO} (x : Ext F ι H F' ι' H') (h1 : F a = none) (h2 : H a = some ho) (q : OR K cad ι F a o ho) : F' a = none := by
  cases c : F' a with
  | none => rfl
  | some o' =>
    obtain ⟨_, z⟩ := x.nf a h1 (by rw [c]; intro z; cases z)
    rcases z with z | ⟨xs, z⟩ | ⟨ps, z⟩
    · rw [h2] at z; cases z
    · rw [h2] at z; cases z; exact q.notup.elim
    · rw [h2] at z; cases z; exact (q.notbl.1 _ rfl).elim
/-! ### slots -/
structure R (K : PySem.W.Frag) (cad : Str → Addr) (F : Hp) (ι : List Addr) (μ : Store) (ρ : Ev) (σ : L2.St) (H : Hp) : Prop where
  rs : RS K cad F ι μ H
  len : σ.length = ρ.length
  sh : ∀ (i : Nat) (d : D), ρ[i]? = some (.sh d) → ∃ v, σ[i]? = some (some v) ∧ VR K cad ι F d v
  own : ∀ (i : Nat) (o : Ob), ρ[i]? = some (.own o) → ∃ a ho, σ[i]? = some (some (.ref a)) ∧ F a = none ∧ a ∉ ι ∧ H a = some ho ∧ OR K cad ι F a o ho
  dis : ∀ (i j : Nat) (o o' : Ob) (a : Addr), ρ[i]? = some (.own o) → ρ[j]? = some (.own o') → σ[i]? = some (some (.ref a)) → σ[j]? = some (some (.ref a)) → i = j
section
variable {K : PySem.W.Frag} {cad : Str → Addr} {F F' H H' : Hp} {ι ι' : List Addr} {μ μ' : Store} {ρ : Ev} {σ : L2.St}
theorem R.ext (r : R K cad F ι μ ρ σ H) (x : Ext F ι H F' ι' H') (s : RS K cad F' ι' μ' H') : R K cad F' ι' μ' ρ σ H' := by
  refine ⟨s, r.len, fun i d e => ?_, fun i o e => ?_, r.dis⟩
  · obtain ⟨v, e1, q⟩ := r.sh i d e
    exact ⟨v, e1, VR.mono x.f x.i _ _ q⟩
  · obtain ⟨a, ho, e1, e2, e3, e4, q⟩ := r.own i o e
    have nn : H a ≠ none := by rw [e4]; intro z; cases z
    exact ⟨a, ho, e1, x.apart e2 e4 q, fun z => nn (x.ni a z e3), x.kept a ho e3 e4 q.notbl.1, q.mono x.f x.i⟩
end
end DL

namespace DL
open PySem PySem.Spec PyProof.Rows L2
variable [Tbs]

/-! ### what an operation looks at -/
def Ob.rd : Ob → Option Ob
  | .lkK kvs => some (.dK kvs)
  | .lkT kvs => some (.dT kvs)
  | .dead => none
  | o => some o
def D.vw (μ : Store) : D → Option Vw
  | .lst xs => some (.ob (.lst xs))
  | .dK ks vs => some (.ob (.dK (ks.zip vs)))
  | .dT ks vs => some (.ob (.dT (ks.zip vs)))
  | .ins c ns vs => some (.ob (.ins c (ns.zip vs)))
  | .loc n => (μ[n]?).bind fun o => o.rd.map .ob
  | d => some (.d d)
def deref (ρ : Ev) (μ : Store) : Op → Option Vw
  | .sh d => d.vw μ
  | .own o => o.rd.map .ob
  | .slot i => match ρ[i]? with
    | some (.own o) => o.rd.map .ob
    | _ => none
def ObR (K : PySem.W.Frag) (cad : Str → Addr) (ι : List Addr) (F H : Hp) (a : Addr) : Ob → Prop
  | .lst ds => ∃ vs, H a = some (.lst vs) ∧ VRs K cad ι F ds vs
  | .dK kvs => ∃ vs, Rd H a (.dK ((kvs.map (·.1)).zip vs)) ∧ VRs K cad ι F (kvs.map (·.2)) vs
  | .dT kvs => ∃ vs, Rd H a (.dT ((kvs.map (·.1)).zip vs)) ∧ VRs K cad ι F (kvs.map (·.2)) vs
  | .ins c fs => ∃ dx vs, H a = some (.ins (cad c) dx ((fs.map (·.1)).zip vs)) ∧ VRs K cad ι F (fs.map (·.2)) vs
  | .dN kvs => ∃ ho, H a = some ho ∧ OR K cad ι F a (.dN kvs) ho
  | _ => False
def VwR (K : PySem.W.Frag) (cad : Str → Addr) (F : Hp) (ι : List Addr) (H : Hp) : Vw → V → Prop
  | .d d, v => VR K cad ι F d v
  | .ob o, v => ∃ a, v = .ref a ∧ ObR K cad ι F H a o
/-- what an expression gave; H0 the heap ahead of it -/
def OpV (K : PySem.W.Frag) (cad : Str → Addr) (ρ : Ev) (σ : L2.St) (H0 F : Hp) (ι : List Addr) (H : Hp) : Op → V → Prop
  | .sh d, v => VR K cad ι F d v
  | .own o, v => ∃ a ho, v = .ref a ∧ F a = none ∧ a ∉ ι ∧ H0 a = none ∧ H a = some ho ∧ OR K cad ι F a o ho
  | .slot i, v => σ[i]? = some (some v) ∧ ∃ o, ρ[i]? = some (.own o)
def Rv.op : Rv → Op
  | .sh d => .sh d
  | .own o => .own o
def RvR (K : PySem.W.Frag) (cad : Str → Addr) (H0 F : Hp) (ι : List Addr) (H : Hp) (r : Rv) (v : V) : Prop := OpV K cad [] [] H0 F ι H r.op v
section
variable {K : PySem.W.Frag} {cad : Str → Addr} {F F' H H' H0 : Hp} {ι ι' : List Addr} {μ μ' : Store} {ρ : Ev} {σ : L2.St}
theorem OR.view {o o' : Ob} {ho : HO} {a : Addr} (e : H a = some ho) (q : OR K cad ι F a o ho) (hr : o.rd = some o') : ObR K cad ι F H a o' := by
  cases o with
  | lst ds => cases hr; obtain ⟨vs, rfl, r⟩ := q; exact ⟨vs, e, r⟩
  | dK kvs => cases hr; obtain ⟨vs, rfl, r⟩ := q; exact ⟨vs, .inl e, r⟩
  | dT kvs => cases hr; obtain ⟨vs, rfl, r⟩ := q; exact ⟨vs, .inl e, r⟩
  | ins c fs => cases hr; obtain ⟨dx, vs, rfl, r⟩ := q; exact ⟨dx, vs, e, r⟩
  | lkK kvs => cases hr; obtain ⟨o, vs, rfl, r⟩ := q; exact ⟨vs, .inr ⟨o, e⟩, r⟩
  | lkT kvs => cases hr; obtain ⟨o, vs, rfl, r⟩ := q; exact ⟨vs, .inr ⟨o, e⟩, r⟩
  | dead => cases hr
  | dN kvs => cases hr; exact ⟨_, e, q⟩
theorem map_zip1 {α β : Type} : ∀ {l : List α} {m : List β}, l.length = m.length → (l.zip m).map (·.1) = l
  | [], _, _ => rfl
  | a :: l, [], h => by cases h
  | a :: l, b :: m, h => by
    simp only [List.zip_cons_cons, List.map_cons, List.cons.injEq, true_and]
    exact map_zip1 (by simpa using h)
theorem map_zip2 {α β : Type} : ∀ {l : List α} {m : List β}, l.length = m.length → (l.zip m).map (·.2) = m
  | [], [], _ => rfl
  | [], b :: m, h => by cases h
  | a :: l, [], h => by cases h
  | a :: l, b :: m, h => by
    simp only [List.zip_cons_cons, List.map_cons, List.cons.injEq, true_and]
    exact map_zip2 (by simpa using h)
theorem VR.view (rs : RS K cad F ι μ H) {d : D} {v : V} {w : Vw} (h : VR K cad ι F d v) (e : d.vw μ = some w) : VwR K cad F ι H w v := by
  cases d with
  | non => cases e; exact h
  | bl b => cases e; exact h
  | int i => cases e; exact h
  | str s => cases e; exact h
  | tup xs => cases e; exact h
  | scr ns => cases e; exact h
  | exn a d ns ds => cases e; exact h
  | lst xs =>
    cases e
    unfold VR at h
    obtain ⟨a, vs, e1, s, r⟩ := h
    exact ⟨a, e1, vs, rs.sub _ _ s, r⟩
  | dK ks ds =>
    cases e
    unfold VR at h
    obtain ⟨a, o, vs, e1, s, l, r⟩ := h
    have l2 : ks.length = ds.length := l.trans r.len.symm
    refine ⟨a, e1, vs, ?_, ?_⟩
    · rw [map_zip1 l2]
      exact .inr ⟨o, rs.sub _ _ s⟩
    · rw [map_zip2 l2]
      exact r
  | dT ks ds =>
    cases e
    unfold VR at h
    obtain ⟨a, o, vs, e1, s, l, r⟩ := h
    have l2 : ks.length = ds.length := l.trans r.len.symm
    refine ⟨a, e1, vs, ?_, ?_⟩
    · rw [map_zip1 l2]
      exact .inr ⟨o, rs.sub _ _ s⟩
    · rw [map_zip2 l2]
      exact r
  | ins c ns ds =>
    cases e
    unfold VR at h
    obtain ⟨a, o, vs, e1, s, l, r⟩ := h
    have l2 : ns.length = ds.length := l.trans r.len.symm
    refine ⟨a, e1, o, vs, ?_, ?_⟩
    · rw [map_zip1 l2]
      exact rs.sub _ _ s
    · rw [map_zip2 l2]
      exact r
  | loc n =>
    unfold VR at h
    obtain ⟨a, e1, e2⟩ := h
    have e : (μ[n]?).bind (fun o => o.rd.map Vw.ob) = some w := e
    cases c : μ[n]? with
    | none => rw [c] at e; cases e
    | some o =>
      rw [c] at e
      cases c2 : o.rd with
      | none => simp [c2] at e
      | some o' =>
        simp [c2] at e
        subst e
        obtain ⟨ho, e3, q⟩ := rs.obj n o a c e2
        exact ⟨a, e1, q.view e3 c2⟩
theorem OpV.view (r : R K cad F ι μ ρ σ H) {o : Op} {v : V} {w : Vw} (h : OpV K cad ρ σ H0 F ι H o v) (e : deref ρ μ o = some w) : VwR K cad F ι H w v := by
  cases o with
  | sh d => exact VR.view r.rs h e
  | own o =>
    obtain ⟨a, ho, e1, _, _, _, e2, q⟩ := h
    have e : o.rd.map Vw.ob = some w := e
    cases c2 : o.rd with
    | none => simp [c2] at e
    | some o' =>
      simp [c2] at e
      subst e
      exact ⟨a, e1, q.view e2 c2⟩
  | slot i =>
    obtain ⟨e1, o, e2⟩ := h
    have e : (match ρ[i]? with | some (.own o) => o.rd.map Vw.ob | _ => none) = some w := e
    rw [e2] at e
    cases c2 : o.rd with
    | none => simp [c2] at e
    | some o' =>
      simp [c2] at e
      subst e
      obtain ⟨a, ho, e3, _, _, e4, q⟩ := r.own i o e2
      rw [e1] at e3
      cases e3
      exact ⟨a, rfl, q.view e4 c2⟩
theorem OpV.mono {H1 : Hp} (x : Ext F ι H F' ι' H') {o : Op} {v : V} (h : OpV K cad ρ σ H0 F ι H o v) : OpV K cad ρ σ H0 F' ι' H' o v := by
  cases o with
  | sh d => exact VR.mono x.f x.i _ _ h
  | own o =>
    obtain ⟨a, ho, e1, e2, e3, e4, e5, q⟩ := h
    have nn : H a ≠ none := by rw [e5]; intro z; cases z
    exact ⟨a, ho, e1, x.apart e2 e5 q, fun z => nn (x.ni a z e3), e4, x.kept a ho e3 e5 q.notbl.1, q.mono x.f x.i⟩
  | slot i => exact h
theorem RvR.op {r : Rv} {v : V} (h : RvR K cad H0 F ι H r v) : OpV K cad ρ σ H0 F ι H r.op v := by
  cases r with
  | sh d => exact h
  | own o => exact h
theorem VwR.mono {w : Vw} {v : V} (hf : Same F F') (hi : ι <+: ι') (hs : ∀ a o, H a = some o → H' a = some o) (h : VwR K cad F ι H w v) : VwR K cad F' ι' H' w v := by
  cases w with
  | d d => exact VR.mono hf hi _ _ h
  | ob o =>
    obtain ⟨a, e, q⟩ := h
    refine ⟨a, e, ?_⟩
    have hr : ∀ u, Rd H a u → Rd H' a u := fun u z => z.elim (fun z => .inl (hs _ _ z)) fun ⟨o, z⟩ => .inr ⟨o, hs _ _ z⟩
    cases o with
    | lst ds => obtain ⟨vs, s, r⟩ := q; exact ⟨vs, hs _ _ s, VRs.mono hf hi _ _ r⟩
    | dK kvs => obtain ⟨vs, s, r⟩ := q; exact ⟨vs, hr _ s, VRs.mono hf hi _ _ r⟩
    | dT kvs => obtain ⟨vs, s, r⟩ := q; exact ⟨vs, hr _ s, VRs.mono hf hi _ _ r⟩
    | ins c fs => obtain ⟨dx, vs, s, r⟩ := q; exact ⟨dx, vs, hs _ _ s, VRs.mono hf hi _ _ r⟩
    | lkK _ => exact q
    | lkT _ => exact q
    | dead => exact q
    | dN _ => obtain ⟨ho, s, r⟩ := q; exact ⟨ho, hs _ _ s, r.mono hf hi⟩
end

/-! ### what is to be shown behind a piece -/
/-- a relation between what the data side gives and what the machine gives, by the heap ahead -/
structure Rl (α β : Type) where
  r : Hp → Hp → List Addr → Hp → α → β → Prop
  mono : ∀ {H H1 F : Hp} {ι : List Addr} {H' : Hp} {a : α} {b : β}, (∀ p, H1 p = none → H p = none) → r H1 F ι H' a b → r H F ι H' a b
def rlE (K : PySem.W.Frag) (cad : Str → Addr) (ρ : Ev) (σ : L2.St) : Rl Op V := ⟨OpV K cad ρ σ, fun {H H1 F ι H' a b} h q => by
  cases a with
  | sh d => exact q
  | own o => obtain ⟨a, ho, e1, e2, e3, e4, e5, z⟩ := q; exact ⟨a, ho, e1, e2, e3, h a e4, e5, z⟩
  | slot i => exact q⟩
def rlT : Rl Bool Bool := ⟨fun _ _ _ _ a b => a = b, fun _ q => q⟩
def rlD (K : PySem.W.Frag) (cad : Str → Addr) : Rl D V := ⟨fun _ F ι _ d v => VR K cad ι F d v, fun _ q => q⟩
def rlDs (K : PySem.W.Frag) (cad : Str → Addr) : Rl (List D) (List V) := ⟨fun _ F ι _ d v => VRs K cad ι F d v, fun _ q => q⟩
def OpVs (K : PySem.W.Frag) (cad : Str → Addr) (ρ : Ev) (σ : L2.St) (H0 F : Hp) (ι : List Addr) (H : Hp) (os : List Op) (vs : List V) : Prop := Paired (OpV K cad ρ σ H0 F ι H) os vs
def rlA (K : PySem.W.Frag) (cad : Str → Addr) (ρ : Ev) (σ : L2.St) : Rl (List Op) (List V) := ⟨OpVs K cad ρ σ, fun {H H1 F ι H' a b} h q => Paired.mapP q fun x y z => (rlE K cad ρ σ).mono h z⟩
/-- an exception: its class, its fields -/
def XR (K : PySem.W.Frag) (cad : Str → Addr) (F : Hp) (ι : List Addr) (x : Xc) (d : Option Addr) : Prop := (x.ns = [] ∧ d = none) ∨ (x.ns ≠ [] ∧ ∃ a vs, d = some a ∧ F a = some (.xd (x.ns.zip vs)) ∧ x.ns.length = vs.length ∧ VRs K cad ι F x.vs vs)
def Post {α β : Type} (K : PySem.W.Frag) (cad : Str → Addr) (W : WX) (rl : Rl α β) (F : Hp) (ι : List Addr) (H : Hp) (σ : L2.St) (r : Res α) (Q : β → Hp → Prop) : Prop := match r with
  | .ok a μ' => ∀ F' ι' H' b, Ext F ι H F' ι' H' → RS K cad F' ι' μ' H' → rl.r H F' ι' H' a b → Q b H'
  | .exc x μ' => ∀ F' ι' H' d, Ext F ι H F' ι' H' → RS K cad F' ι' μ' H' → XR K cad F' ι' x d → W (.ref (cad x.cls)) d σ H'
  | .stk => False
section
variable {α β α' β' : Type} {K : PySem.W.Frag} {cad : Str → Addr} {W : WX} {rl : Rl α β} {rl' : Rl α' β'} {F F' H H' H0 : Hp} {ι ι' : List Addr} {μ μ' : Store} {ρ : Ev} {σ : L2.St}
theorem Post.ext {r : Res α} {Q : β → Hp → Prop} (x : Ext F ι H F' ι' H') (h : Post K cad W rl F ι H σ r Q) : Post K cad W rl F' ι' H' σ r Q := by
  cases r with
  | ok a μ => exact fun F2 ι2 H2 b y s q => h F2 ι2 H2 b (x.trans y) s (rl.mono x.dom q)
  | exc e μ => exact fun F2 ι2 H2 d y s q => h F2 ι2 H2 d (x.trans y) s q
  | stk => exact h
theorem Post.bind {r : Res α} {f : α → Store → Res α'} {Q : β → Hp → Prop} {Q' : β' → Hp → Prop} (h : Post K cad W rl' F ι H σ (r.bind f) Q')
    (k : ∀ a μ1 F1 ι1 H1 b, Ext F ι H F1 ι1 H1 → RS K cad F1 ι1 μ1 H1 → rl.r H F1 ι1 H1 a b → Post K cad W rl' F1 ι1 H1 σ (f a μ1) Q' → Q b H1) : Post K cad W rl F ι H σ r Q := by
  cases r with
  | ok a μ => exact fun F2 ι2 H2 b y s q => k a μ F2 ι2 H2 b y s q (Post.ext y h)
  | exc e μ => exact h
  | stk => exact h
/-- the same, by the first heap -/
theorem Post.bindX {F1 H1 : Hp} {ι1 : List Addr} {r : Res α} {f : α → Store → Res α'} {Q : β → Hp → Prop} {Q' : β' → Hp → Prop} (x0 : Ext F ι H F1 ι1 H1) (h : Post K cad W rl' F ι H σ (r.bind f) Q')
    (k : ∀ a μ2 F2 ι2 H2 b, Ext F1 ι1 H1 F2 ι2 H2 → RS K cad F2 ι2 μ2 H2 → rl.r H1 F2 ι2 H2 a b → Post K cad W rl' F ι H σ (f a μ2) Q' → Q b H2) : Post K cad W rl F1 ι1 H1 σ r Q := by
  cases r with
  | ok a μ => exact fun F2 ι2 H2 b y s q => k a μ F2 ι2 H2 b y s q h
  | exc e μ => exact fun F2 ι2 H2 d y s q => h F2 ι2 H2 d (x0.trans y) s q
  | stk => exact h
/-- the same piece, one change of what is given -/
theorem Post.imp {r : Res α} {Q Q' : β → Hp → Prop} (h : Post K cad W rl F ι H σ r Q) (k : ∀ a F1 ι1 H1 b, Ext F ι H F1 ι1 H1 → rl.r H F1 ι1 H1 a b → Q b H1 → Q' b H1) : Post K cad W rl F ι H σ r Q' := by
  cases r with
  | ok a μ => exact fun F2 ι2 H2 b y s q => k a F2 ι2 H2 b y q (h F2 ι2 H2 b y s q)
  | exc e μ => exact h
  | stk => exact h
theorem Post.of {o : Option α} {Q : β → Hp → Prop} (h : Post K cad W rl F ι H σ (Res.of o μ) Q) : ∃ a, o = some a ∧ ∀ F' ι' H' b, Ext F ι H F' ι' H' → RS K cad F' ι' μ H' → rl.r H F' ι' H' a b → Q b H' := by
  cases o with
  | none => exact h.elim
  | some a => exact ⟨a, rfl, h⟩
end

/-! ### readings -/
def tE (K : PySem.W.Frag) (cad : Str → Addr) (W : WX) (m : ME) : TE := fun σ H Q => ∃ F ι μ ρ, R K cad F ι μ ρ σ H ∧ Post K cad W (rlE K cad ρ σ) F ι H σ (m ρ μ) Q
def tT (K : PySem.W.Frag) (cad : Str → Addr) (W : WX) (m : MT) : TT := fun σ H Q => ∃ F ι μ ρ, R K cad F ι μ ρ σ H ∧ Post K cad W rlT F ι H σ (m ρ μ) Q
def tD (K : PySem.W.Frag) (cad : Str → Addr) (W : WX) (m : Ev → Store → Res D) : TE := fun σ H Q => ∃ F ι μ ρ, R K cad F ι μ ρ σ H ∧ Post K cad W (rlD K cad) F ι H σ (m ρ μ) Q
def tDs (K : PySem.W.Frag) (cad : Str → Addr) (W : WX) (m : MA) : TA := fun σ H Q => ∃ F ι μ ρ, R K cad F ι μ ρ σ H ∧ Post K cad W (rlDs K cad) F ι H σ (m ρ μ) Q
def tOs (K : PySem.W.Frag) (cad : Str → Addr) (W : WX) (m : Ev → Store → Res (List Op)) : TA := fun σ H Q => ∃ F ι μ ρ, R K cad F ι μ ρ σ H ∧ Post K cad W (rlA K cad ρ σ) F ι H σ (m ρ μ) Q
section
variable {X : Cx} {e : Expr} {es : List Expr}
theorem pe_imp {t t' : TE} (h : PE X e t) (k : ∀ σ H Q, t' σ H Q → t σ H Q) : PE X e t' := ⟨fun pins s σ H Q I q => h.run pins s σ H Q I (k σ H Q q)⟩
theorem pt_imp {t t' : TT} (h : PT X e t) (k : ∀ σ H Q, t' σ H Q → t σ H Q) : PT X e t' := ⟨fun pins s σ H Q I q => h.run pins s σ H Q I (k σ H Q q)⟩
theorem pw_imp {t t' : TT} (h : PW X e t) (k : ∀ σ H Q, t' σ H Q → t σ H Q) : PW X e t' := ⟨fun whole pins s σ H Q I q => h.run whole pins s σ H Q I (k σ H Q q)⟩
theorem pa_imp {t t' : TA} (h : PA X es t) (k : ∀ σ H Q, t' σ H Q → t σ H Q) : PA X es t' := ⟨fun pos pins s σ H Q I q => h.run pos pins s σ H Q I (k σ H Q q)⟩
theorem ps_imp {st : Stmt} {t t' : TS} (h : PS X st t) (k : ∀ D σ H, t' D σ H → t D σ H) : PS X st t' := ⟨fun pins s σ H D I q => h.run pins s σ H D I (k D σ H q)⟩
theorem pss_imp {st : List Stmt} {t t' : TS} (h : PSs X st t) (k : ∀ D σ H, t' D σ H → t D σ H) : PSs X st t' := ⟨fun pins s σ H D I q => h.run pins s σ H D I (k D σ H q)⟩
end
/-! ### names, constants -/
def eVar (i : Nat) : ME := fun ρ μ => match ρ[i]? with
  | some (.sh d) => .ok (.sh d) μ
  | some (.own o) => .ok (.slot i) μ
  | _ => .stk
def eC (d : D) : ME := fun _ μ => .ok (.sh d) μ
section
variable {X : Cx} {cad : Str → Addr} {W : WX} {pos : Pos}
theorem de_var (i : Nat) {x : Str} (hN : X.N[i]? = some x := by rfl) (hv : Vis X.env.scope x := by first | exact Or.inl rfl | exact Or.inr (Or.inl rfl) | exact Or.inr (Or.inr rfl)) (hd : (x == ("__debug__" : Str)) = false := by decide)
    (hcd : (x == ("__classdict__" : Str)) = false := by decide) : PE X (.Name x pos) (tE X.K cad W (eVar i)) := by
  refine pe_imp (pe_var hN hv hd hcd) fun σ H Q ⟨F, ι, μ, ρ, r, h⟩ => ?_
  unfold eVar at h
  split at h
  · next d e =>
    obtain ⟨v, e1, q⟩ := r.sh i d e
    exact ⟨v, e1, h F ι H v (Ext.refl _ _ _) r.rs q⟩
  · next o e =>
    obtain ⟨a, ho, e1, _⟩ := r.own i o e
    exact ⟨_, e1, h F ι H _ (Ext.refl _ _ _) r.rs ⟨e1, o, e⟩⟩
  · exact h.elim
theorem tC_of {K : PySem.W.Frag} {d : D} {v : V} (hv : ∀ ι F, VR K cad ι F d v) {σ : L2.St} {H : Hp} {Q : VK} (h : tE K cad W (eC d) σ H Q) : tC v σ H Q := by
  obtain ⟨F, ι, μ, ρ, r, h⟩ := h
  exact h F ι H v (Ext.refl _ _ _) r.rs (hv ι F)
theorem de_int {i : Int} {j} : PE X (.Constant (.int i) j pos) (tE X.K cad W (eC (.int i))) := pe_imp pe_int fun σ H Q h => tC_of (d := .int i) (fun _ _ => by unfold VR; rfl) h
theorem de_bl {b : Bool} {j} : PE X (.Constant (.bool b) j pos) (tE X.K cad W (eC (.bl b))) := pe_imp pe_bl fun σ H Q h => tC_of (d := .bl b) (fun _ _ => by unfold VR; rfl) h
theorem de_non {j} : PE X (.Constant .none j pos) (tE X.K cad W (eC .non)) := pe_imp pe_non fun σ H Q h => tC_of (d := .non) (fun _ _ => by unfold VR; rfl) h
theorem de_str {x : Str} {j} : PE X (.Constant (.str x) j pos) (tE X.K cad W (eC (.str x))) := pe_imp pe_str fun σ H Q h => tC_of (d := .str x) (fun _ _ => by unfold VR; rfl) h
/-- a module's constant: an int, a text -/
theorem de_gint {x : Str} {i : Int} (hg : Gl X x) (hm : ∃ t, X.mg x = some (.int i t)) (hd : (x == ("__debug__" : Str)) = false := by decide) : PE X (.Name x pos) (tE X.K cad W (eC (.int i))) := by
  obtain ⟨t, hm⟩ := hm
  exact pe_imp (pe_glob (v := .int i) hg hm ⟨t, rfl⟩ hd) fun σ H Q h => tC_of (d := .int i) (fun _ _ => by unfold VR; rfl) h
theorem de_gstr {x s : Str} (hg : Gl X x) (hm : ∃ t, X.mg x = some (.str s t)) (hd : (x == ("__debug__" : Str)) = false := by decide) : PE X (.Name x pos) (tE X.K cad W (eC (.str s))) := by
  obtain ⟨t, hm⟩ := hm
  exact pe_imp (pe_glob (v := .str s) hg hm ⟨t, rfl⟩ hd) fun σ H Q h => tC_of (d := .str s) (fun _ _ => by unfold VR; rfl) h
end
/-! ### data out of what an expression gave -/
def Op.toD : Op → Option D
  | .sh d => some d
  | .own (.lst xs) => some (.lst xs)
  | .own (.ins c fs) => some (.ins c (fs.map (·.1)) (fs.map (·.2)))
  | _ => none
def toD (m : ME) : Ev → Store → Res D := fun ρ μ => (m ρ μ).bind fun o μ' => Res.of o.toD μ'
section
variable {K : PySem.W.Frag} {cad : Str → Addr} {W : WX} {F F' H H' H0 : Hp} {ι ι' : List Addr} {μ μ' : Store} {ρ : Ev} {σ : L2.St}
theorem Ext.frz {p : Addr} {ho : HO} (x : Ext F ι H F' ι' H') (h1 : F' p = none) (h0 : H p = none) (hi : p ∉ ι') : Ext F ι H (upd F' p ho) ι' H' := by
  refine ⟨x.f.trans (same_new h1), x.i, x.kept, x.dom, fun a e1 e2 => ?_, x.ni, x.lk⟩
  by_cases q : a = p
  · rw [q]
    exact ⟨fun z => hi (x.i.subset z), .inl h0⟩
  · rw [upd_ne q] at e2
    exact x.nf a e1 e2
theorem Post.toD {r : Res Op} {Q : VK} (h : Post K cad W (rlD K cad) F ι H σ (r.bind fun o μ' => Res.of o.toD μ') Q) : Post K cad W (rlE K cad ρ σ) F ι H σ r Q := by
  cases r with
  | exc x μ => exact h
  | stk => exact h
  | ok o μ1 =>
    obtain ⟨d, e, h⟩ := Post.of h
    intro F1 ι1 H1 v x s q
    cases o with
    | sh d' => cases e; exact h F1 ι1 H1 v x s q
    | slot i => cases e
    | own o =>
      obtain ⟨a, ho, rfl, e2, e3, e4, e5, z⟩ := q
      have x2 := x.frz (ho := ho) e2 e4 e3
      have s2 := s.freeze e5 e3 e2 z.notbl.1
      have sm : Same F1 (upd F1 a ho) := same_new e2
      cases o with
      | lst xs =>
        cases e
        obtain ⟨vs, rfl, rv⟩ := z
        refine h _ _ _ _ x2 s2 ?_
        show VR K cad ι1 _ (.lst xs) _
        unfold VR
        exact ⟨a, vs, rfl, upd_same, VRs.mono sm List.prefix_rfl _ _ rv⟩
      | ins c fs =>
        cases e
        obtain ⟨dx, vs, rfl, rv⟩ := z
        refine h _ _ _ _ x2 s2 ?_
        show VR K cad ι1 _ (.ins c _ _) _
        unfold VR
        refine ⟨a, dx, vs, rfl, upd_same, ?_, VRs.mono sm List.prefix_rfl _ _ rv⟩
        have := rv.len
        rw [List.length_map] at this ⊢
        exact this
      | dK kvs => cases e
      | dT kvs => cases e
      | lkK kvs => cases e
      | lkT kvs => cases e
      | dead => cases e
      | dN kvs => cases e
end
section
variable {X : Cx} {cad : Str → Addr} {W : WX} {pos : Pos} {e : Expr} {es : List Expr}
theorem de_toD {m : ME} (h : PE X e (tE X.K cad W m)) : PE X e (tD X.K cad W (toD m)) := pe_imp h fun σ H Q ⟨F, ι, μ, ρ, r, q⟩ => ⟨F, ι, μ, ρ, r, q.toD⟩
/-! ### arguments -/
def aNil : MA := fun _ μ => .ok [] μ
def aCons (m : ME) (r : MA) : MA := fun ρ μ => (toD m ρ μ).bind fun d μ1 => (r ρ μ1).bind fun ds μ2 => .ok (d :: ds) μ2
theorem da_nil : PA X [] (tDs X.K cad W aNil) := pa_imp pa_nil fun σ H Q ⟨F, ι, μ, ρ, r, q⟩ => q F ι H [] (Ext.refl _ _ _) r.rs rfl
theorem da_cons {m : ME} {ms : MA} (h : PE X e (tE X.K cad W m)) (t : PA X es (tDs X.K cad W ms)) (hs : starEach (e :: es) X.env = (false, eval e X.env) :: starEach es X.env := by rfl) : PA X (e :: es) (tDs X.K cad W (aCons m ms)) := by
  refine pa_imp (pa_cons (de_toD h) t hs) fun σ H Q ⟨F, ι, μ, ρ, r, q⟩ => ?_
  refine ⟨F, ι, μ, ρ, r, q.bind fun d μ1 F1 ι1 H1 v x1 s1 q1 h1 => ?_⟩
  refine ⟨F1, ι1, μ1, ρ, r.ext x1 s1, h1.bind fun ds μ2 F2 ι2 H2 vs x2 s2 q2 h2 => ?_⟩
  exact h2 F2 ι2 H2 (v :: vs) (Ext.refl _ _ _) s2 ⟨v, vs, rfl, VR.mono x2.f x2.i _ _ q1, q2⟩
/-- arguments that are looked at -/
def oNil : Ev → Store → Res (List Op) := fun _ μ => .ok [] μ
def oCons (m : ME) (r : Ev → Store → Res (List Op)) : Ev → Store → Res (List Op) := fun ρ μ => (m ρ μ).bind fun d μ1 => (r ρ μ1).bind fun ds μ2 => .ok (d :: ds) μ2
theorem do_nil : PA X [] (tOs X.K cad W oNil) := pa_imp pa_nil fun σ H Q ⟨F, ι, μ, ρ, r, q⟩ => q F ι H [] (Ext.refl _ _ _) r.rs .nil
theorem do_cons {m : ME} {ms : Ev → Store → Res (List Op)} (h : PE X e (tE X.K cad W m)) (t : PA X es (tOs X.K cad W ms)) (hs : starEach (e :: es) X.env = (false, eval e X.env) :: starEach es X.env := by rfl) : PA X (e :: es) (tOs X.K cad W (oCons m ms)) := by
  refine pa_imp (pa_cons h t hs) fun σ H Q ⟨F, ι, μ, ρ, r, q⟩ => ?_
  refine ⟨F, ι, μ, ρ, r, q.bindX (Ext.refl _ _ _) fun d μ1 F1 ι1 H1 v x1 s1 q1 h1 => ?_⟩
  refine ⟨F1, ι1, μ1, ρ, r.ext x1 s1, h1.bindX x1 fun ds μ2 F2 ι2 H2 vs x2 s2 q2 h2 => ?_⟩
  exact h2 F2 ι2 H2 (v :: vs) (x1.trans x2) s2 (.cons (OpV.mono (H1 := H1) x2 q1) ((rlA X.K cad ρ σ).mono x1.dom q2))
end
end DL

namespace DL
open PySem PySem.Spec PyProof.Rows L2
variable [Tbs]

/-! ### two operands -/
def fin2 (f : Vw → Vw → Option Rv) (ρ : Ev) (μ : Store) (x y : Op) : Option Op := (deref ρ μ x).bind fun wx => (deref ρ μ y).bind fun wy => (f wx wy).map Rv.op
def e2 (f : Vw → Vw → Option Rv) (a b : ME) : ME := fun ρ μ => (a ρ μ).bind fun x μ1 => (b ρ μ1).bind fun y μ2 => Res.of (fin2 f ρ μ2 x y) μ2
def Sd2 (K : PySem.W.Frag) (cad : Str → Addr) (r : R2) (f : Vw → Vw → Option Rv) : Prop := ∀ {F : Hp} {ι : List Addr} {μ : Store} {H : Hp} {wx wy : Vw} {vx vy : V} {rv : Rv} {Q : VK}, RS K cad F ι μ H → VwR K cad F ι H wx vx → VwR K cad F ι H wy vy → f wx wy = some rv →
  (∀ F' ι' H' v, Ext F ι H F' ι' H' → RS K cad F' ι' μ H' → RvR K cad H F' ι' H' rv v → Q v H') → r vx vy H Q
def e1 (f : Vw → Option Rv) (a : ME) : ME := fun ρ μ => (a ρ μ).bind fun x μ1 => Res.of ((deref ρ μ1 x).bind fun wx => (f wx).map Rv.op) μ1
def Sd1 (K : PySem.W.Frag) (cad : Str → Addr) (r : V → Hp → VK → Prop) (f : Vw → Option Rv) : Prop := ∀ {F : Hp} {ι : List Addr} {μ : Store} {H : Hp} {wx : Vw} {vx : V} {rv : Rv} {Q : VK}, RS K cad F ι μ H → VwR K cad F ι H wx vx → f wx = some rv →
  (∀ F' ι' H' v, Ext F ι H F' ι' H' → RS K cad F' ι' μ H' → RvR K cad H F' ι' H' rv v → Q v H') → r vx H Q
section
variable {K : PySem.W.Frag} {cad : Str → Addr} {W : WX}
theorem fin2_ok {r : R2} {f : Vw → Vw → Option Rv} (sd : Sd2 K cad r f) {F : Hp} {ι : List Addr} {μ : Store} {H : Hp} {ρ : Ev} {σ : L2.St} {x y o : Op} {vx vy : V} {H0 H1 : Hp} {Q : VK} (rr : R K cad F ι μ ρ σ H) (qx : OpV K cad ρ σ H0 F ι H x vx) (qy : OpV K cad ρ σ H1 F ι H y vy)
    (e : fin2 f ρ μ x y = some o) (q : ∀ F' ι' H' v, Ext F ι H F' ι' H' → RS K cad F' ι' μ H' → OpV K cad ρ σ H F' ι' H' o v → Q v H') : r vx vy H Q := by
  unfold fin2 at e
  cases cx : deref ρ μ x with
  | none => rw [cx] at e; cases e
  | some wx =>
    cases cy : deref ρ μ y with
    | none => rw [cx, cy] at e; cases e
    | some wy =>
      rw [cx, cy] at e
      cases cf : f wx wy with
      | none => simp [cf] at e
      | some rv =>
        simp [cf] at e
        subst e
        exact sd rr.rs (qx.view rr cx) (qy.view rr cy) cf fun F' ι' H' v x s z => q F' ι' H' v x s z.op
theorem e2_ok {r : R2} {f : Vw → Vw → Option Rv} (sd : Sd2 K cad r f) {a b : ME} {σ : L2.St} {H : Hp} {Q : VK} (h : tE K cad W (e2 f a b) σ H Q) : tOp r (tE K cad W a) (tE K cad W b) σ H Q := by
  obtain ⟨F, ι, μ, ρ, rr, q⟩ := h
  refine ⟨F, ι, μ, ρ, rr, q.bind fun x μ1 F1 ι1 H1 vx x1 s1 q1 h1 => ?_⟩
  refine ⟨F1, ι1, μ1, ρ, rr.ext x1 s1, h1.bind fun y μ2 F2 ι2 H2 vy x2 s2 q2 h2 => ?_⟩
  obtain ⟨o, e, h3⟩ := Post.of h2
  exact fin2_ok sd ((rr.ext x1 s1).ext x2 s2) (OpV.mono (H1 := H1) x2 q1) q2 e h3
theorem e1_ok {r : V → Hp → VK → Prop} {f : Vw → Option Rv} (sd : Sd1 K cad r f) {a : ME} {σ : L2.St} {H : Hp} {Q : VK} (h : tE K cad W (e1 f a) σ H Q) : tUn r (tE K cad W a) σ H Q := by
  obtain ⟨F, ι, μ, ρ, rr, q⟩ := h
  refine ⟨F, ι, μ, ρ, rr, q.bind fun x μ1 F1 ι1 H1 vx x1 s1 q1 h1 => ?_⟩
  obtain ⟨o, e, h3⟩ := Post.of h1
  cases cx : deref ρ μ1 x with
  | none => rw [cx] at e; cases e
  | some wx =>
    rw [cx] at e
    cases cf : f wx with
    | none => simp [cf] at e
    | some rv =>
      simp [cf] at e
      subst e
      exact sd s1 (OpV.view (rr.ext x1 s1) q1 cx) cf fun F' ι' H' v x s z => h3 F' ι' H' v x s z.op
end
/-! ### a test -/
def mT (m : ME) : MT := fun ρ μ => (m ρ μ).bind fun o μ' => match o with
  | .sh (.bl b) => .ok b μ'
  | _ => .stk
section
variable {X : Cx} {cad : Str → Addr} {W : WX} {pos : Pos} {a b c d : Expr} {ma mb mc md : ME} {op op' op'' : CmpOp} {r r' r'' : R2} {f f' f'' : Vw → Vw → Option Rv}
theorem mT_ok {K : PySem.W.Frag} {m : ME} {σ : L2.St} {H : Hp} {Q : Bool → Hp → Prop} (h : tT K cad W (mT m) σ H Q) : tE K cad W m σ H fun x H' => ∃ k, x = .bl k ∧ Q k H' := by
  obtain ⟨F, ι, μ, ρ, rr, q⟩ := h
  refine ⟨F, ι, μ, ρ, rr, q.bind fun o μ1 F1 ι1 H1 v x1 s1 q1 h1 => ?_⟩
  split at h1
  · next b =>
    have q1 : VR K cad ι1 F1 (.bl b) v := q1
    unfold VR at q1
    exact ⟨b, q1, h1 F1 ι1 H1 b (Ext.refl _ _ _) s1 rfl⟩
  · exact h1.elim
theorem dt_val {e : Expr} {m : ME} (h : PE X e (tE X.K cad W m)) (he : ∀ whole, isTrue e X.env whole = (do let v ← whole; standAt e.pos; holding [v] (truthy v)) := by intro _; rfl) : PT X e (tT X.K cad W (mT m)) :=
  pt_imp (pt_val h he) fun σ H Q q => mT_ok q
theorem de_bin {op : Operator} (ho : OpR X (binaryOp op) r) (sd : Sd2 X.K cad r f) (ha : PE X a (tE X.K cad W ma)) (hb : PE X b (tE X.K cad W mb)) : PE X (.BinOp a op b pos) (tE X.K cad W (e2 f ma mb)) := pe_imp (pe_op ho ha hb) fun σ H Q q => e2_ok sd q
theorem de_un {op : UnaryOp} {r : V → Hp → VK → Prop} {f : Vw → Option Rv} (ho : UnR X (unaryOp op) r) (sd : Sd1 X.K cad r f) (ha : PE X a (tE X.K cad W ma)) : PE X (.UnaryOp op a pos) (tE X.K cad W (e1 f ma)) := pe_imp (pe_un ho ha) fun σ H Q q => e1_ok sd q
theorem de_cmp (ho : OpR X (compareOp op) r) (sd : Sd2 X.K cad r f) (ha : PE X a (tE X.K cad W ma)) (hb : PE X b (tE X.K cad W mb)) (hm : behindInMarks op b = false := by first | exact nomark _ | rfl | with_unfolding_all rfl) : PE X (.Compare a [op] [b] pos) (tE X.K cad W (e2 f ma mb)) := pe_imp (pe_cmpR ho ha hb hm) fun σ H Q q => e2_ok sd q
theorem dt_cmp (ho : OpR X (compareOp op) r) (sd : Sd2 X.K cad r f) (ha : PE X a (tE X.K cad W ma)) (hb : PE X b (tE X.K cad W mb)) (hm : behindInMarks op b = false := by first | exact nomark _ | rfl | with_unfolding_all rfl) : PT X (.Compare a [op] [b] pos) (tT X.K cad W (mT (e2 f ma mb))) :=
  pt_imp (pt_cmpR ho ha hb hm) fun σ H Q q => e2_ok sd (mT_ok q)
theorem de_ix (hr : IxR X r) (sd : Sd2 X.K cad r f) (ha : PE X a (tE X.K cad W ma)) (hb : PE X b (tE X.K cad W mb)) (hs : PlainIx b := by intro _ _; rfl) : PE X (.Subscript a b pos) (tE X.K cad W (e2 f ma mb)) := pe_imp (pe_ix hr ha hb hs) fun σ H Q q => e2_ok sd q

/-! ### chains -/
def chainE (f : Vw → Vw → Option Rv) (ρ : Ev) (μ : Store) (x y : Op) (k : Store → Res Op) : Res Op := match fin2 f ρ μ x y with
  | some (.sh (.bl c)) => if c = true then k μ else .ok (.sh (.bl false)) μ
  | _ => .stk
def eCh2 (f f' : Vw → Vw → Option Rv) (a b c : ME) : ME := fun ρ μ => (a ρ μ).bind fun x μ1 => (b ρ μ1).bind fun y μ2 => chainE f ρ μ2 x y fun μ2 => (c ρ μ2).bind fun z μ3 => Res.of (fin2 f' ρ μ3 y z) μ3
def eCh3 (f f' f'' : Vw → Vw → Option Rv) (a b c d : ME) : ME := fun ρ μ => (a ρ μ).bind fun x μ1 => (b ρ μ1).bind fun y μ2 => chainE f ρ μ2 x y fun μ2 => (c ρ μ2).bind fun z μ3 => chainE f' ρ μ3 y z fun μ3 => (d ρ μ3).bind fun u μ4 => Res.of (fin2 f'' ρ μ4 z u) μ4
/-- a op b op' c op'' d -/
def tChain3 (r r' r'' : R2) (ta tb tc td : TE) : TE := fun σ H Q => ta σ H fun x H1 => tb σ H1 fun y H2 => r x y H2 fun z H3 => ∃ k, z = .bl k ∧
  (if k = true then tc σ H3 fun z' H4 => r' y z' H4 fun z2 H5 => ∃ k, z2 = .bl k ∧ (if k = true then td σ H5 fun u H6 => r'' z' u H6 Q else Q (.bl false) H5) else Q (.bl false) H3)
theorem pe_chain3 {ta tb tc td : TE} (ho : OpR X (compareOp op) r) (ho' : OpR X (compareOp op') r') (ho'' : OpR X (compareOp op'') r'') (ha : PE X a ta) (hb : PE X b tb) (hc : PE X c tc) (hd : PE X d td)
    (hm : lastMarks [op, op', op''] [b, c, d] = false := by with_unfolding_all rfl) : PE X (.Compare a [op, op', op''] [b, c, d] pos) (tChain3 r r' r'' ta tb tc td) := by
  refine ⟨fun pins s σ H Q I h => ?_⟩
  refine Compare_chain (thn (ha.run pins s σ H _ I h) fun v s1 ⟨x, H1, I1, r1, q1⟩ => chain_link (thn (hb.run pins s1 σ H1 _ I1 q1) fun u s2 ⟨y, H2, I2, r2, q2⟩ =>
    thn (ho pins s2 σ H2 x y v u _ I2 r1 r2 q2) fun d' s3 ⟨z, H3, I3, r3, k, e, q3⟩ => ?_)) hm
  subst e
  cases r3
  refine wpAny_truthy_bool ?_
  cases k with
  | false => exact ite_ff ⟨.bl false, H3, I3, rfl, q3⟩
  | true =>
    refine ite_tt (chain_link (thn (hc.run pins s3 σ H3 _ I3 q3) fun w' s4 ⟨z', H4, I4, r4, q4⟩ => thn (ho' pins s4 σ H4 y z' u w' _ I4 r2 r4 q4) fun d2 s5 ⟨z2, H5, I5, r5, k2, e2, q5⟩ => ?_))
    subst e2
    cases r5
    refine wpAny_truthy_bool ?_
    cases k2 with
    | false => exact ite_ff ⟨.bl false, H5, I5, rfl, q5⟩
    | true => exact ite_tt (chain_last (thn (hd.run pins s5 σ H5 _ I5 q5) fun w2 s6 ⟨z3, H6, I6, r6, q6⟩ => ho'' pins s6 σ H6 z' z3 w' w2 Q I6 r4 r6 q6))
theorem pt_chain3 {ta tb tc td : TE} (ho : OpR X (compareOp op) r) (ho' : OpR X (compareOp op') r') (ho'' : OpR X (compareOp op'') r'') (ha : PE X a ta) (hb : PE X b tb) (hc : PE X c tc) (hd : PE X d td)
    (hm : lastMarks [op, op', op''] [b, c, d] = false := by with_unfolding_all rfl) : PT X (.Compare a [op, op', op''] [b, c, d] pos) (tTest (tChain3 r r' r'' ta tb tc td)) := by
  refine ⟨fun pins s σ H Q I h => ?_⟩
  refine isTrue_chain (thn (ha.run pins s σ H _ I h) fun v s1 ⟨x, H1, I1, r1, q1⟩ => test_link (thn (hb.run pins s1 σ H1 _ I1 q1) fun u s2 ⟨y, H2, I2, r2, q2⟩ =>
    thn (ho pins s2 σ H2 x y v u _ I2 r1 r2 q2) fun d' s3 ⟨z, H3, I3, r3, k, e, q3⟩ => ?_)) hm
  subst e
  cases r3
  refine wpAny_truthy_bool ?_
  cases k with
  | false =>
    obtain ⟨k', e', q'⟩ := q3
    cases e'
    exact ite_ff ⟨H3, I3, q'⟩
  | true =>
    refine ite_tt (test_link (thn (hc.run pins s3 σ H3 _ I3 q3) fun w' s4 ⟨z', H4, I4, r4, q4⟩ => thn (ho' pins s4 σ H4 y z' u w' _ I4 r2 r4 q4) fun d2 s5 ⟨z2, H5, I5, r5, k2, e2, q5⟩ => ?_))
    subst e2
    cases r5
    refine wpAny_truthy_bool ?_
    cases k2 with
    | false =>
      obtain ⟨k', e', q'⟩ := q5
      cases e'
      exact ite_ff ⟨H5, I5, q'⟩
    | true =>
      refine ite_tt (test_last (thn (hd.run pins s5 σ H5 _ I5 q5) fun w2 s6 ⟨z3, H6, I6, r6, q6⟩ => thn (ho'' pins s6 σ H6 z' z3 w' w2 _ I6 r4 r6 q6) fun d3 s7 ⟨z4, H7, I7, r7, k3, e3, q7⟩ => ?_))
      subst e3
      cases r7
      exact wpAny_truthy_bool ⟨H7, I7, q7⟩
theorem chainE_ok {K : PySem.W.Frag} {W : WX} (sd : Sd2 K cad r f) {F : Hp} {ι : List Addr} {μ : Store} {H : Hp} {ρ : Ev} {σ : L2.St} {x y : Op} {vx vy : V} {H0 H1 : Hp} {k : Store → Res Op} {Q : VK} (rr : R K cad F ι μ ρ σ H) (qx : OpV K cad ρ σ H0 F ι H x vx) (qy : OpV K cad ρ σ H1 F ι H y vy)
    (h : Post K cad W (rlE K cad ρ σ) F ι H σ (chainE f ρ μ x y k) Q) {P : Hp → Prop} (kk : ∀ F' ι' H', Ext F ι H F' ι' H' → RS K cad F' ι' μ H' → Post K cad W (rlE K cad ρ σ) F' ι' H' σ (k μ) Q → P H') :
    r vx vy H fun z H3 => ∃ k, z = .bl k ∧ (if k = true then P H3 else Q (.bl false) H3) := by
  unfold chainE at h
  split at h
  · next c e =>
    refine fin2_ok sd rr qx qy e fun F' ι' H' v x s q => ?_
    have q : VR K cad ι' F' (.bl c) v := q
    unfold VR at q
    refine ⟨c, q, ?_⟩
    cases c with
    | true => rw [if_pos rfl] at h ⊢; exact kk F' ι' H' x s (h.ext x)
    | false =>
      rw [if_neg Bool.false_ne_true] at h ⊢
      refine h F' ι' H' _ x s ?_
      show VR K cad ι' F' (.bl false) _
      unfold VR
      rfl
  · exact h.elim
theorem eCh2_ok {K : PySem.W.Frag} {W : WX} (sd : Sd2 K cad r f) (sd' : Sd2 K cad r' f') {σ : L2.St} {H : Hp} {Q : VK} (h : tE K cad W (eCh2 f f' ma mb mc) σ H Q) : tChain r r' (tE K cad W ma) (tE K cad W mb) (tE K cad W mc) σ H Q := by
  obtain ⟨F, ι, μ, ρ, rr, q⟩ := h
  refine ⟨F, ι, μ, ρ, rr, q.bind fun x μ1 F1 ι1 H1 vx x1 s1 q1 h1 => ?_⟩
  refine ⟨F1, ι1, μ1, ρ, rr.ext x1 s1, h1.bind fun y μ2 F2 ι2 H2 vy x2 s2 q2 h2 => ?_⟩
  have r2 := (rr.ext x1 s1).ext x2 s2
  refine chainE_ok sd r2 (OpV.mono (H1 := H1) x2 q1) q2 h2 fun F3 ι3 H3 x3 s3 h3 => ?_
  refine ⟨F3, ι3, μ2, ρ, r2.ext x3 s3, h3.bind fun z μ4 F4 ι4 H4 vz x4 s4 q4 h4 => ?_⟩
  obtain ⟨o, e, h5⟩ := Post.of h4
  exact fin2_ok sd' ((r2.ext x3 s3).ext x4 s4) (OpV.mono (H1 := H1) x4 (OpV.mono (H1 := H1) x3 q2)) q4 e h5
theorem eCh3_ok {K : PySem.W.Frag} {W : WX} (sd : Sd2 K cad r f) (sd' : Sd2 K cad r' f') (sd'' : Sd2 K cad r'' f'') {σ : L2.St} {H : Hp} {Q : VK} (h : tE K cad W (eCh3 f f' f'' ma mb mc md) σ H Q) : tChain3 r r' r'' (tE K cad W ma) (tE K cad W mb) (tE K cad W mc) (tE K cad W md) σ H Q := by
  obtain ⟨F, ι, μ, ρ, rr, q⟩ := h
  refine ⟨F, ι, μ, ρ, rr, q.bind fun x μ1 F1 ι1 H1 vx x1 s1 q1 h1 => ?_⟩
  refine ⟨F1, ι1, μ1, ρ, rr.ext x1 s1, h1.bind fun y μ2 F2 ι2 H2 vy x2 s2 q2 h2 => ?_⟩
  have r2 := (rr.ext x1 s1).ext x2 s2
  refine chainE_ok sd r2 (OpV.mono (H1 := H1) x2 q1) q2 h2 fun F3 ι3 H3 x3 s3 h3 => ?_
  have r3 := r2.ext x3 s3
  refine ⟨F3, ι3, μ2, ρ, r3, h3.bind fun z μ4 F4 ι4 H4 vz x4 s4 q4 h4 => ?_⟩
  have r4 := r3.ext x4 s4
  refine chainE_ok sd' r4 (OpV.mono (H1 := H1) x4 (OpV.mono (H1 := H1) x3 q2)) q4 h4 fun F5 ι5 H5 x5 s5 h5 => ?_
  have r5 := r4.ext x5 s5
  refine ⟨F5, ι5, μ4, ρ, r5, h5.bind fun u μ6 F6 ι6 H6 vu x6 s6 q6 h6 => ?_⟩
  obtain ⟨o, e, h7⟩ := Post.of h6
  exact fin2_ok sd'' (r5.ext x6 s6) (OpV.mono (H1 := H1) x6 (OpV.mono (H1 := H1) x5 q4)) q6 e h7
theorem de_ch2 (ho : OpR X (compareOp op) r) (sd : Sd2 X.K cad r f) (ho' : OpR X (compareOp op') r') (sd' : Sd2 X.K cad r' f') (ha : PE X a (tE X.K cad W ma)) (hb : PE X b (tE X.K cad W mb)) (hc : PE X c (tE X.K cad W mc)) (hm : lastMarks [op, op'] [b, c] = false := by with_unfolding_all rfl) :
    PE X (.Compare a [op, op'] [b, c] pos) (tE X.K cad W (eCh2 f f' ma mb mc)) := pe_imp (pe_chain ho ho' ha hb hc hm) fun σ H Q q => eCh2_ok sd sd' q
theorem dt_ch2 (ho : OpR X (compareOp op) r) (sd : Sd2 X.K cad r f) (ho' : OpR X (compareOp op') r') (sd' : Sd2 X.K cad r' f') (ha : PE X a (tE X.K cad W ma)) (hb : PE X b (tE X.K cad W mb)) (hc : PE X c (tE X.K cad W mc)) (hm : lastMarks [op, op'] [b, c] = false := by with_unfolding_all rfl) :
    PT X (.Compare a [op, op'] [b, c] pos) (tT X.K cad W (mT (eCh2 f f' ma mb mc))) := pt_imp (pt_chain ho ho' ha hb hc hm) fun σ H Q q => eCh2_ok sd sd' (mT_ok q)
theorem de_ch3 (ho : OpR X (compareOp op) r) (sd : Sd2 X.K cad r f) (ho' : OpR X (compareOp op') r') (sd' : Sd2 X.K cad r' f') (ho'' : OpR X (compareOp op'') r'') (sd'' : Sd2 X.K cad r'' f'') (ha : PE X a (tE X.K cad W ma)) (hb : PE X b (tE X.K cad W mb)) (hc : PE X c (tE X.K cad W mc)) (hd : PE X d (tE X.K cad W md))
    (hm : lastMarks [op, op', op''] [b, c, d] = false := by with_unfolding_all rfl) : PE X (.Compare a [op, op', op''] [b, c, d] pos) (tE X.K cad W (eCh3 f f' f'' ma mb mc md)) := pe_imp (pe_chain3 ho ho' ho'' ha hb hc hd hm) fun σ H Q q => eCh3_ok sd sd' sd'' q
theorem dt_ch3 (ho : OpR X (compareOp op) r) (sd : Sd2 X.K cad r f) (ho' : OpR X (compareOp op') r') (sd' : Sd2 X.K cad r' f') (ho'' : OpR X (compareOp op'') r'') (sd'' : Sd2 X.K cad r'' f'') (ha : PE X a (tE X.K cad W ma)) (hb : PE X b (tE X.K cad W mb)) (hc : PE X c (tE X.K cad W mc)) (hd : PE X d (tE X.K cad W md))
    (hm : lastMarks [op, op', op''] [b, c, d] = false := by with_unfolding_all rfl) : PT X (.Compare a [op, op', op''] [b, c, d] pos) (tT X.K cad W (mT (eCh3 f f' f'' ma mb mc md))) := pt_imp (pt_chain3 ho ho' ho'' ha hb hc hd hm) fun σ H Q q => eCh3_ok sd sd' sd'' (mT_ok q)
end

/-! ### and, or, not, if .. else -/
def mAnd (a b : MT) : MT := fun ρ μ => (a ρ μ).bind fun c μ1 => if c = true then b ρ μ1 else .ok false μ1
def mOr (a b : MT) : MT := fun ρ μ => (a ρ μ).bind fun c μ1 => if c = true then .ok true μ1 else b ρ μ1
def mNot (a : MT) : MT := fun ρ μ => (a ρ μ).bind fun c μ1 => .ok (!c) μ1
/-- a test as a value -/
def eB (m : MT) : ME := fun ρ μ => (m ρ μ).bind fun b μ1 => .ok (.sh (.bl b)) μ1
def eIf (t : MT) (a b : ME) : ME := fun ρ μ => (t ρ μ).bind fun c μ1 => if c = true then a ρ μ1 else b ρ μ1
section
variable {X : Cx} {cad : Str → Addr} {W : WX} {pos : Pos} {a b : Expr} {rest : List Expr} {ma mb : ME} {ta tb : MT}
theorem dw_and (ha : PT X a (tT X.K cad W ta)) (hb : PW X (.BoolOp .And (b :: rest) pos) (tT X.K cad W tb)) : PW X (.BoolOp .And (a :: b :: rest) pos) (tT X.K cad W (mAnd ta tb)) := by
  refine pw_imp (pw_and ha hb) fun σ H Q ⟨F, ι, μ, ρ, rr, q⟩ => ?_
  refine ⟨F, ι, μ, ρ, rr, q.bind fun c μ1 F1 ι1 H1 k x1 s1 q1 h1 => ?_⟩
  have q1 : c = k := q1
  subst q1
  cases c with
  | true => rw [if_pos rfl] at h1 ⊢; exact ⟨F1, ι1, μ1, ρ, rr.ext x1 s1, h1⟩
  | false => rw [if_neg Bool.false_ne_true] at h1 ⊢; exact h1 F1 ι1 H1 false (Ext.refl _ _ _) s1 rfl
theorem dw_or (ha : PT X a (tT X.K cad W ta)) (hb : PW X (.BoolOp .Or (b :: rest) pos) (tT X.K cad W tb)) : PW X (.BoolOp .Or (a :: b :: rest) pos) (tT X.K cad W (mOr ta tb)) := by
  refine pw_imp (pw_or ha hb) fun σ H Q ⟨F, ι, μ, ρ, rr, q⟩ => ?_
  refine ⟨F, ι, μ, ρ, rr, q.bind fun c μ1 F1 ι1 H1 k x1 s1 q1 h1 => ?_⟩
  have q1 : c = k := q1
  subst q1
  cases c with
  | true => rw [if_pos rfl] at h1 ⊢; exact h1 F1 ι1 H1 true (Ext.refl _ _ _) s1 rfl
  | false => rw [if_neg Bool.false_ne_true] at h1 ⊢; exact ⟨F1, ι1, μ1, ρ, rr.ext x1 s1, h1⟩
theorem dt_not (ha : PT X a (tT X.K cad W ta)) : PT X (.UnaryOp .Not a pos) (tT X.K cad W (mNot ta)) := by
  refine pt_imp (pt_not ha) fun σ H Q ⟨F, ι, μ, ρ, rr, q⟩ => ?_
  refine ⟨F, ι, μ, ρ, rr, q.bind fun c μ1 F1 ι1 H1 k x1 s1 q1 h1 => ?_⟩
  have q1 : c = k := q1
  subst q1
  exact h1 F1 ι1 H1 (!c) (Ext.refl _ _ _) s1 rfl
/-- a value that is True or False, by its test -/
structure PB (X : Cx) (cad : Str → Addr) (W : WX) (e : Expr) (m : MT) : Prop where
  v : PE X e (tE X.K cad W (eB m))
theorem eB_ok {K : PySem.W.Frag} {m : ME} {σ : L2.St} {H : Hp} {Q : VK} (h : tE K cad W (eB (mT m)) σ H Q) : tE K cad W m σ H Q := by
  obtain ⟨F, ι, μ, ρ, rr, q⟩ := h
  refine ⟨F, ι, μ, ρ, rr, ?_⟩
  unfold eB mT at q
  cases c : m ρ μ with
  | stk => rw [c] at q; exact q
  | exc x μ1 => rw [c] at q; exact q
  | ok o μ1 =>
    rw [c] at q
    cases o with
    | own o => exact q.elim
    | slot i => exact q.elim
    | sh d =>
      cases d with
      | bl b => exact q
      | _ => exact q.elim
theorem pb_val {e : Expr} {m : ME} (h : PE X e (tE X.K cad W m)) : PB X cad W e (mT m) := ⟨pe_imp h fun σ H Q q => eB_ok q⟩
theorem pb_one {op} (ha : PB X cad W a ta) : PB X cad W (.BoolOp op [a] pos) ta := ⟨pe_one ha.v⟩
theorem pb_and (ha : PB X cad W a ta) (hb : PB X cad W (.BoolOp .And (b :: rest) pos) tb) : PB X cad W (.BoolOp .And (a :: b :: rest) pos) (mAnd ta tb) := by
  refine ⟨pe_imp (pe_and ha.v hb.v) fun σ H Q ⟨F, ι, μ, ρ, rr, q⟩ => ?_⟩
  refine ⟨F, ι, μ, ρ, rr, ?_⟩
  unfold eB mAnd at q
  unfold eB
  cases c : ta ρ μ with
  | stk => rw [c] at q; exact q
  | exc x μ1 => rw [c] at q; exact q
  | ok k μ1 =>
    rw [c] at q
    intro F1 ι1 H1 v x1 s1 q1
    have q1 : VR X.K cad ι1 F1 (.bl k) v := q1
    unfold VR at q1
    refine ⟨k, q1, ?_⟩
    cases k with
    | true =>
      rw [if_pos rfl]
      exact ⟨F1, ι1, μ1, ρ, rr.ext x1 s1, Post.ext x1 q⟩
    | false =>
      rw [if_neg Bool.false_ne_true]
      refine q F1 ι1 H1 _ x1 s1 ?_
      show VR X.K cad ι1 F1 (.bl false) _
      unfold VR
      rfl
theorem pb_or (ha : PB X cad W a ta) (hb : PB X cad W (.BoolOp .Or (b :: rest) pos) tb) : PB X cad W (.BoolOp .Or (a :: b :: rest) pos) (mOr ta tb) := by
  refine ⟨pe_imp (pe_or ha.v hb.v) fun σ H Q ⟨F, ι, μ, ρ, rr, q⟩ => ?_⟩
  refine ⟨F, ι, μ, ρ, rr, ?_⟩
  unfold eB mOr at q
  unfold eB
  cases c : ta ρ μ with
  | stk => rw [c] at q; exact q
  | exc x μ1 => rw [c] at q; exact q
  | ok k μ1 =>
    rw [c] at q
    intro F1 ι1 H1 v x1 s1 q1
    have q1 : VR X.K cad ι1 F1 (.bl k) v := q1
    unfold VR at q1
    refine ⟨k, q1, ?_⟩
    cases k with
    | false =>
      rw [if_neg Bool.false_ne_true]
      exact ⟨F1, ι1, μ1, ρ, rr.ext x1 s1, Post.ext x1 q⟩
    | true =>
      rw [if_pos rfl]
      refine q F1 ι1 H1 _ x1 s1 ?_
      show VR X.K cad ι1 F1 (.bl true) _
      unfold VR
      rfl
theorem pb_not (ha : PB X cad W a ta) : PB X cad W (.UnaryOp .Not a pos) (mNot ta) := by
  refine ⟨pe_imp (pe_not ha.v) fun σ H Q ⟨F, ι, μ, ρ, rr, q⟩ => ?_⟩
  refine ⟨F, ι, μ, ρ, rr, ?_⟩
  unfold eB mNot at q
  unfold eB
  cases c : ta ρ μ with
  | stk => rw [c] at q; exact q
  | exc x μ1 => rw [c] at q; exact q
  | ok k μ1 =>
    rw [c] at q
    intro F1 ι1 H1 v x1 s1 q1
    have q1 : VR X.K cad ι1 F1 (.bl k) v := q1
    unfold VR at q1
    refine ⟨k, q1, q F1 ι1 H1 _ x1 s1 ?_⟩
    show VR X.K cad ι1 F1 (.bl (!k)) _
    unfold VR
    rfl
theorem de_ifx {t : Expr} {mt : MT} (ht : PT X t (tT X.K cad W mt)) (ha : PE X a (tE X.K cad W ma)) (hb : PE X b (tE X.K cad W mb)) : PE X (.IfExp t a b pos) (tE X.K cad W (eIf mt ma mb)) := by
  refine pe_imp (pe_ifExp ht ha hb) fun σ H Q ⟨F, ι, μ, ρ, rr, q⟩ => ?_
  refine ⟨F, ι, μ, ρ, rr, q.bind fun c μ1 F1 ι1 H1 k x1 s1 q1 h1 => ?_⟩
  have q1 : c = k := q1
  subst q1
  cases c with
  | true => rw [if_pos rfl] at h1 ⊢; exact ⟨F1, ι1, μ1, ρ, rr.ext x1 s1, h1⟩
  | false => rw [if_neg Bool.false_ne_true] at h1 ⊢; exact ⟨F1, ι1, μ1, ρ, rr.ext x1 s1, h1⟩
end
end DL

namespace DL
open PySem PySem.Spec PyProof.Rows L2
variable [Tbs]
section
variable {K : PySem.W.Frag} {cad : Str → Addr} {F F' H H' H0 : Hp} {ι ι' : List Addr} {μ : Store} {v : V}
theorem VR.int_ {i : Int} : VR K cad ι F (.int i) v ↔ v = .int i := by unfold VR; exact Iff.rfl
theorem VR.bl_ {i : Bool} : VR K cad ι F (.bl i) v ↔ v = .bl i := by unfold VR; exact Iff.rfl
theorem VR.str_ {i : Str} : VR K cad ι F (.str i) v ↔ v = .str i := by unfold VR; exact Iff.rfl
theorem VR.non_ : VR K cad ι F .non v ↔ v = .non := by unfold VR; exact Iff.rfl
theorem VR.tup_ {ds : List D} : VR K cad ι F (.tup ds) v ↔ ∃ a vs, v = .ref a ∧ F a = some (.tup vs) ∧ VRs K cad ι F ds vs := by unfold VR; exact Iff.rfl
theorem VR.lst_ {ds : List D} : VR K cad ι F (.lst ds) v ↔ ∃ a vs, v = .ref a ∧ F a = some (.lst vs) ∧ VRs K cad ι F ds vs := by unfold VR; exact Iff.rfl
theorem VR.loc_ {n : Nat} : VR K cad ι F (.loc n) v ↔ ∃ a, v = .ref a ∧ ι[n]? = some a := by unfold VR; exact Iff.rfl
theorem VR.scr_ {ns : List Int} : VR K cad ι F (.scr ns) v ↔ ∃ a, v = .ref a ∧ SqL K F a (ns.map V.int) := by unfold VR; exact Iff.rfl
/-- nothing new: a plain answer -/
theorem fin_sh {Q : VK} {d : D} (rs : RS K cad F ι μ H) (q : ∀ F' ι' H' v, Ext F ι H F' ι' H' → RS K cad F' ι' μ H' → RvR K cad H F' ι' H' (.sh d) v → Q v H') (h : VR K cad ι F d v) : Q v H := q F ι H v (Ext.refl _ _ _) rs h
theorem fin_int {Q : VK} {i : Int} (rs : RS K cad F ι μ H) (q : ∀ F' ι' H' v, Ext F ι H F' ι' H' → RS K cad F' ι' μ H' → RvR K cad H F' ι' H' (.sh (.int i)) v → Q v H') : Q (.int i) H := fin_sh rs q (VR.int_.mpr rfl)
theorem fin_bl {Q : VK} {i : Bool} (rs : RS K cad F ι μ H) (q : ∀ F' ι' H' v, Ext F ι H F' ι' H' → RS K cad F' ι' μ H' → RvR K cad H F' ι' H' (.sh (.bl i)) v → Q v H') : Q (.bl i) H := fin_sh rs q (VR.bl_.mpr rfl)
theorem fin_str {Q : VK} {i : Str} (rs : RS K cad F ι μ H) (q : ∀ F' ι' H' v, Ext F ι H F' ι' H' → RS K cad F' ι' μ H' → RvR K cad H F' ι' H' (.sh (.str i)) v → Q v H') : Q (.str i) H := fin_sh rs q (VR.str_.mpr rfl)
/-- a new thing of its own -/
theorem fin_own {Q : VK} {o : Ob} {ho : HO} {p : Addr} (rs : RS K cad F ι μ H) (q : ∀ F' ι' H' v, Ext F ι H F' ι' H' → RS K cad F' ι' μ H' → RvR K cad H F' ι' H' (.own o) v → Q v H') (hp : H p = none) (h : OR K cad ι F p o ho) : Q (.ref p) (upd H p ho) :=
  q F ι _ _ (Ext.newH hp) (rs.newH hp) ⟨p, ho, rfl, (rs.fresh hp).1, (rs.fresh hp).2, hp, upd_same, h⟩
/-- a new tuple -/
theorem fin_tup {Q : VK} {ds : List D} {vs : List V} {p : Addr} (rs : RS K cad F ι μ H) (q : ∀ F' ι' H' v, Ext F ι H F' ι' H' → RS K cad F' ι' μ H' → RvR K cad H F' ι' H' (.sh (.tup ds)) v → Q v H') (hp : H p = none) (h : VRs K cad ι F ds vs) : Q (.ref p) (upd H p (.tup vs)) :=
  q _ ι _ _ (Ext.newF rs hp) (rs.newF hp) (VR.tup_.mpr ⟨p, vs, rfl, upd_same, VRs.mono (same_new (rs.fresh hp).1) List.prefix_rfl _ _ h⟩)
theorem vw_int {i : Int} (h : VwR K cad F ι H (.d (.int i)) v) : v = .int i := VR.int_.mp (show VR K cad ι F (.int i) v from h)
theorem vw_bl {i : Bool} (h : VwR K cad F ι H (.d (.bl i)) v) : v = .bl i := VR.bl_.mp (show VR K cad ι F (.bl i) v from h)
theorem vw_str {i : Str} (h : VwR K cad F ι H (.d (.str i)) v) : v = .str i := VR.str_.mp (show VR K cad ι F (.str i) v from h)
theorem vw_non (h : VwR K cad F ι H (.d .non) v) : v = .non := VR.non_.mp (show VR K cad ι F (.non) v from h)
theorem vw_tup {ds : List D} (h : VwR K cad F ι H (.d (.tup ds)) v) : ∃ a vs, v = .ref a ∧ F a = some (.tup vs) ∧ VRs K cad ι F ds vs := VR.tup_.mp (show VR K cad ι F (.tup ds) v from h)
theorem vw_scr {ns : List Int} (h : VwR K cad F ι H (.d (.scr ns)) v) : ∃ a, v = .ref a ∧ SqL K F a (ns.map V.int) := VR.scr_.mp (show VR K cad ι F (.scr ns) v from h)
theorem SqT.sub (rs : RS K cad F ι μ H) {a : Addr} {vs : List V} (e : F a = some (.tup vs)) : SqT K H a vs := SqT.of (rs.sub _ _ e)
end

/-! ### arithmetic -/
def fAdd : Vw → Vw → Option Rv
  | .d (.int i), .d (.int j) => some (.sh (.int (i + j)))
  | .d (.str a), .d (.str b) => if a.length + b.length ≤ 16777216 then some (.sh (.str (a ++ b))) else none
  | .ob (.lst xs), .ob (.lst ys) => if xs.length + ys.length ≤ 16777216 then some (.own (.lst (xs ++ ys))) else none
  | .d (.tup xs), .d (.tup ys) => if xs.length + ys.length ≤ 16777216 then some (.sh (.tup (xs ++ ys))) else none
  | _, _ => none
def rAddA (K : PySem.W.Frag) : R2 := fun x y H Q => (rI0 fun i j => .int (i + j)) x y H Q ∨ (∃ i j, x = .str i ∧ y = .str j ∧ i.length + j.length ≤ sizeLine ∧ Q (.str (i ++ j)) H) ∨ rCat x y H Q ∨ rCatA K x y H Q
theorem op_addA {X : Cx} : OpR X (binaryOp .Add) (rAddA X.K) := op_add.or (op_add_str.or (op_cat.or op_catA))
theorem line_eq {n : Nat} : n ≤ sizeLine ↔ n ≤ 16777216 := by rw [sizeLine_eq]
section
variable {K : PySem.W.Frag} {cad : Str → Addr}
theorem sd_add : Sd2 K cad (rAddA K) fAdd := by
  intro F ι μ H wx wy vx vy rv Q rs hx hy e q
  unfold fAdd at e
  split at e
  · cases e
    obtain rfl := vw_int hx
    obtain rfl := vw_int hy
    exact .inl ⟨_, _, rfl, rfl, fin_int rs q⟩
  · split at e
    · next h =>
      cases e
      obtain rfl := vw_str hx
      obtain rfl := vw_str hy
      exact .inr (.inl ⟨_, _, rfl, rfl, line_eq.mpr h, fin_str rs q⟩)
    · cases e
  · split at e
    · next h =>
      cases e
      obtain ⟨a, rfl, vs, e1, r1⟩ := hx
      obtain ⟨b, rfl, us, e2, r2⟩ := hy
      refine .inr (.inr (.inl ⟨a, b, vs, us, rfl, rfl, e1, e2, ?_, fun p hp => fin_own rs q hp ⟨_, rfl, r1.app r2⟩⟩))
      rw [← r1.len, ← r2.len]
      exact line_eq.mpr h
    · cases e
  · split at e
    · next xs ys h =>
      cases e
      obtain ⟨a, vs, rfl, e1, r1⟩ := vw_tup hx
      obtain ⟨b, us, rfl, e2, r2⟩ := vw_tup hy
      refine .inr (.inr (.inr ⟨a, b, vs, us, rfl, rfl, SqT.sub rs e1, SqT.sub rs e2, ?_, ?_⟩))
      · rw [← r1.len, ← r2.len]
        exact line_eq.mpr h
      · refine ⟨fun z => ?_, fun z1 z2 => ?_, fun z1 z2 p hp => fin_tup rs q hp (r1.app r2)⟩
        · subst z
          refine fin_sh rs q (VR.tup_.mpr ⟨b, us, rfl, e2, ?_⟩)
          have : xs = [] := List.eq_nil_of_length_eq_zero r1.len
          subst this
          exact r2
        · subst z2
          refine fin_sh rs q (VR.tup_.mpr ⟨a, vs, rfl, e1, ?_⟩)
          have : ys = [] := List.eq_nil_of_length_eq_zero r2.len
          subst this
          rw [List.append_nil]
          exact r1
    · cases e
  · cases e
/-- two ints, with a condition -/
def fI (c : Int → Int → Bool) (g : Int → Int → D) : Vw → Vw → Option Rv
  | .d (.int i), .d (.int j) => if c i j = true then some (.sh (g i j)) else none
  | _, _ => none
theorem sd_I {C : Int → Int → Prop} {c : Int → Int → Bool} {gv : Int → Int → V} {g : Int → Int → D} (hc : ∀ i j, c i j = true → C i j) (hg : ∀ ι F i j, VR K cad ι F (g i j) (gv i j)) : Sd2 K cad (rI C gv) (fI c g) := by
  intro F ι μ H wx wy vx vy rv Q rs hx hy e q
  unfold fI at e
  split at e
  · split at e
    · next h =>
      cases e
      obtain rfl := vw_int hx
      obtain rfl := vw_int hy
      exact ⟨_, _, rfl, rfl, hc _ _ h, fin_sh rs q (hg _ _ _ _)⟩
    · cases e
  · cases e
def fSub : Vw → Vw → Option Rv := fI (fun _ _ => true) fun i j => .int (i - j)
theorem op_subA {X : Cx} : OpR X (binaryOp .Sub) (rI (fun _ _ => True) fun i j => .int (i - j)) := fun pins s σ H x y v u Q I r1 r2 ⟨i, j, e1, e2, _, q⟩ => op_sub pins s σ H x y v u Q I r1 r2 ⟨i, j, e1, e2, q⟩
theorem sd_sub : Sd2 K cad (rI (fun _ _ => True) fun i j => .int (i - j)) fSub := sd_I (fun _ _ _ => trivial) fun _ _ _ _ => VR.int_.mpr rfl
def cDiv (_ j : Int) : Bool := decide (0 < j ∧ j < 18446744073709551616)
def fDiv : Vw → Vw → Option Rv := fI cDiv fun i j => .int (i / j)
theorem cDiv_ok {i j : Int} (h : cDiv i j = true) : CDivW i j := by
  obtain ⟨h0, h1⟩ := of_decide_eq_true h
  exact wide_div (b := 64) h0 (by show j.natAbs < 18446744073709551616; omega) (by decide) (by decide)
theorem sd_div : Sd2 K cad (rI CDivW fun i j => .int (i / j)) fDiv := sd_I (fun i j h => cDiv_ok h) fun _ _ _ _ => VR.int_.mpr rfl
def fMod : Vw → Vw → Option Rv := fI (fun _ j => decide (0 < j)) fun i j => .int (i % j)
theorem sd_mod : Sd2 K cad (rI (fun _ j => 0 < j) fun i j => .int (i % j)) fMod := sd_I (fun i j h => of_decide_eq_true h) fun _ _ _ _ => VR.int_.mpr rfl
def cPow (i j : Int) : Bool := decide (0 ≤ j ∧ j ≤ 1000000 ∧ i.natAbs < 18446744073709551616)
def fPow : Vw → Vw → Option Rv := fI cPow fun i j => .int (i ^ j.toNat)
theorem sd_pow : Sd2 K cad (rI CPow fun i j => .int (i ^ j.toNat)) fPow := sd_I (fun i j h => of_decide_eq_true h) fun _ _ _ _ => VR.int_.mpr rfl
/-- ints; a list times an int -/
def fMul : Vw → Vw → Option Rv
  | .d (.int i), .d (.int j) => if (-18446744073709551616 < i ∧ i < 18446744073709551616) ∨ (-18446744073709551616 < j ∧ j < 18446744073709551616) then some (.sh (.int (i * j))) else none
  | .ob (.lst xs), .d (.int k) => if -9223372036854775808 ≤ k ∧ k < 9223372036854775808 ∧ xs.length * k.toNat ≤ 16777216 then some (.own (.lst (List.replicate k.toNat xs).flatten)) else none
  | _, _ => none
def rMulA : R2 := fun x y H Q => rI CMul (fun i j => .int (i * j)) x y H Q ∨ rRep x y H Q
theorem op_mulA {X : Cx} : OpR X (binaryOp .Mult) rMulA := op_mul.or op_rep
theorem VRs.rep {F : Hp} {ι : List Addr} {ds : List D} {vs : List V} (h : VRs K cad ι F ds vs) : ∀ k : Nat, VRs K cad ι F (List.replicate k ds).flatten (List.replicate k vs).flatten
  | 0 => rfl
  | k + 1 => by
    rw [List.replicate_succ, List.replicate_succ, List.flatten_cons, List.flatten_cons]
    exact h.app (VRs.rep h k)
theorem sd_mul : Sd2 K cad rMulA fMul := by
  intro F ι μ H wx wy vx vy rv Q rs hx hy e q
  unfold fMul at e
  split at e
  · split at e
    · next h =>
      cases e
      obtain rfl := vw_int hx
      obtain rfl := vw_int hy
      exact .inl ⟨_, _, rfl, rfl, h, fin_int rs q⟩
    · cases e
  · split at e
    · next h =>
      cases e
      obtain ⟨a, rfl, vs, e1, r1⟩ := hx
      obtain rfl := vw_int hy
      refine .inr ⟨a, _, vs, rfl, rfl, e1, h.1, h.2.1, ?_, fun p hp => fin_own rs q hp ⟨_, rfl, r1.rep _⟩⟩
      rw [← r1.len]
      exact line_eq.mpr h.2.2
    · cases e
  · cases e
def fNeg : Vw → Option Rv
  | .d (.int i) => some (.sh (.int (-i)))
  | _ => none
theorem sd_neg : Sd1 K cad (rU fun i => .int (-i)) fNeg := by
  intro F ι μ H wx vx rv Q rs hx e q
  unfold fNeg at e
  split at e
  · cases e
    obtain rfl := vw_int hx
    exact ⟨_, rfl, fin_int rs q⟩
  · cases e
end

/-! ### order: ints, tuples of ints -/
def D.ints : List D → Option (List Int)
  | [] => some []
  | .int i :: r => (D.ints r).map (i :: ·)
  | _ :: _ => none
/-- from the first pair that differs on; z: what the lengths give -/
def lexZ (p : Int → Int → Bool) (z : Bool) : List Int → List Int → Bool
  | x :: xs, y :: ys => if x = y then lexZ p z xs ys else p x y
  | _, _ => z
theorem lexAt_shift {x y : Int} {p : Int → Int → Bool} {z : Bool} {xs ys : List Int} : ∀ (k i : Nat), Ob.lexAt (fun j => decide ((x :: xs).getD j 0 = (y :: ys).getD j 0)) (fun j => p ((x :: xs).getD j 0) ((y :: ys).getD j 0)) z (i + 1) k = Ob.lexAt (fun j => decide (xs.getD j 0 = ys.getD j 0)) (fun j => p (xs.getD j 0) (ys.getD j 0)) z i k
  | 0, _ => rfl
  | k + 1, i => by
    rw [Ob.lexAt_succ, Ob.lexAt_succ, lexAt_shift k (i + 1)]
    rfl
theorem lexAt_eq (p : Int → Int → Bool) (z : Bool) : ∀ xs ys : List Int, Ob.lexAt (fun j => decide (xs.getD j 0 = ys.getD j 0)) (fun j => p (xs.getD j 0) (ys.getD j 0)) z 0 (min xs.length ys.length) = lexZ p z xs ys
  | [], ys => by
    rw [show min ([] : List Int).length ys.length = 0 by simp]
    cases ys <;> rfl
  | _ :: _, [] => rfl
  | x :: xs, y :: ys => by
    rw [show min (x :: xs).length (y :: ys).length = min xs.length ys.length + 1 by simp only [List.length_cons]; omega, Ob.lexAt_succ, lexAt_shift, lexAt_eq p z xs ys]
    show (if decide (x = y) = true then lexZ p z xs ys else p x y) = lexZ p z (x :: xs) (y :: ys)
    rw [lexZ]
    by_cases h : x = y
    · rw [if_pos (decide_eq_true h), if_pos h]
    · rw [if_neg (by rw [decide_eq_false h]; exact Bool.false_ne_true), if_neg h]
/-- x op y: ints by p, tuples of ints by q -/
def fOrd (p : Int → Int → Bool) (q : List Int → List Int → Bool) : Vw → Vw → Option Rv
  | .d (.int i), .d (.int j) => some (.sh (.bl (p i j)))
  | .d (.tup xs), .d (.tup ys) => (D.ints xs).bind fun ns => (D.ints ys).map fun ms => .sh (.bl (q ns ms))
  | _, _ => none
def rOrdT (K : PySem.W.Frag) (q : List Int → List Int → Bool) : R2 := fun x y H Q => ∃ a b ns ms, x = .ref a ∧ y = .ref b ∧ SqT K H a (ns.map V.int) ∧ SqT K H b (ms.map V.int) ∧ Q (.bl (q ns ms)) H
def rOrd (K : PySem.W.Frag) (p : Int → Int → Bool) (q : List Int → List Int → Bool) : R2 := fun x y H Q => rI0 (fun i j => .bl (p i j)) x y H Q ∨ rOrdT K q x y H Q
section
variable {K : PySem.W.Frag} {cad : Str → Addr}
theorem ints_vals {F : Hp} {ι : List Addr} : ∀ {ds : List D} {vs : List V} {ns : List Int}, VRs K cad ι F ds vs → D.ints ds = some ns → vs = ns.map V.int
  | [], _, _, h, e => by
    cases e
    exact h
  | d :: ds, _, ns, h, e => by
    obtain ⟨v, vs, rfl, r, t⟩ := h
    cases d with
    | int i =>
      cases c : D.ints ds with
      | none => simp [D.ints, c] at e
      | some ms =>
        simp [D.ints, c] at e
        subst e
        rw [VR.int_.mp r, ints_vals t c]
        rfl
    | _ => simp [D.ints] at e
theorem sd_ord {p : Int → Int → Bool} {q : List Int → List Int → Bool} : Sd2 K cad (rOrd K p q) (fOrd p q) := by
  intro F ι μ H wx wy vx vy rv Q rs hx hy e k
  unfold fOrd at e
  split at e
  · cases e
    obtain rfl := vw_int hx
    obtain rfl := vw_int hy
    exact .inl ⟨_, _, rfl, rfl, fin_bl rs k⟩
  · next xs ys =>
    cases cx : D.ints xs with
    | none => simp [cx] at e
    | some ns =>
      cases cy : D.ints ys with
      | none => simp [cx, cy] at e
      | some ms =>
        simp [cx, cy] at e
        subst e
        obtain ⟨a, vs, rfl, e1, r1⟩ := vw_tup hx
        obtain ⟨b, us, rfl, e2, r2⟩ := vw_tup hy
        rw [ints_vals r1 cx] at e1
        rw [ints_vals r2 cy] at e2
        exact .inr ⟨a, b, ns, ms, rfl, rfl, SqT.sub rs e1, SqT.sub rs e2, fin_bl rs k⟩
  · cases e
end
/-- the four of them -/
def qLt (ns ms : List Int) : Bool := lexZ (fun a b => decide (a < b)) (decide (ns.length < ms.length)) ns ms
def qLe (ns ms : List Int) : Bool := lexZ (fun a b => decide (a ≤ b)) (decide (ns.length ≤ ms.length)) ns ms
def qGt (ns ms : List Int) : Bool := lexZ (fun a b => decide (b < a)) (decide (ns.length > ms.length)) ns ms
def qGe (ns ms : List Int) : Bool := lexZ (fun a b => decide (b ≤ a)) (decide (ns.length ≥ ms.length)) ns ms
theorem op_ordT {X : Cx} {op : CmpOp} {p : Int → Int → Bool} {zf : Nat → Nat → Bool} (hu : X.A.units + 100 < cLine) (hop : ∀ a b, compareOp op a b = richCompare op a b)
    (h : ∀ {s : Shared} {l b : Addr} {items items2 : Array Value} {e r : Nat → Bool}, s.heap.IsTuple l items → s.heap.IsTuple b items2 → X.A.units < cLine → (∀ j (h1 : j < items.size) (h2 : j < items2.size), SeqAt.EqAt X.A.in1 s items[j] items2[j] (e j)) →
      (∀ j (h1 : j < items.size) (h2 : j < items2.size), e j = false → Ob.RcOp op X.A.in1 s items[j] items2[j] (r j)) → Ob.RcOp op X.A s (.ref l) (.ref b) (Ob.lexAt e r (zf items.size items2.size) 0 (min items.size items2.size)))
    (hi : ∀ {A : Around} {s : Shared} (a b : Int) (t u : Tok), Ob.RcOp op A s (.int a t) (.int b u) (p a b)) : OpR X (compareOp op) (rOrdT X.K fun ns ms => lexZ p (zf ns.length ms.length) ns ms) := by
  intro pins s σ H x y v u Q I rx ry hh
  obtain ⟨a, b, ns, ms, rfl, rfl, ha, hb, q⟩ := hh
  cases rx
  cases ry
  obtain ⟨its, r1, p1, _⟩ := I.tuple ha
  obtain ⟨its2, r2, p2, _⟩ := I.tuple hb
  have i1 : IntsAre its ns := Vals.ints r1
  have i2 : IntsAre its2 ms := Vals.ints r2
  have e1 : its.toArray.size = ns.length := by rw [List.size_toArray]; exact i1.length
  have e2 : its2.toArray.size = ms.length := by rw [List.size_toArray]; exact i2.length
  have at1 : ∀ j (h1 : j < its.toArray.size), ∃ t, its.toArray[j] = .int (ns.getD j 0) t := fun j h1 => PyProof.Rows.IntsAre.int_at i1 _ _ (by simp at h1; simp [h1])
  have at2 : ∀ j (h1 : j < its2.toArray.size), ∃ t, its2.toArray[j] = .int (ms.getD j 0) t := fun j h1 => PyProof.Rows.IntsAre.int_at i2 _ _ (by simp at h1; simp [h1])
  have R := h (s := s) (e := fun j => decide (ns.getD j 0 = ms.getD j 0)) (r := fun j => p (ns.getD j 0) (ms.getD j 0)) p1 p2 (by omega) (fun j h1 h2 => by
    obtain ⟨t, et⟩ := at1 j h1
    obtain ⟨t', et'⟩ := at2 j h2
    rw [et, et']
    have z : (ns.getD j 0 == ms.getD j 0) = decide (ns.getD j 0 = ms.getD j 0) := by
      by_cases q : ns.getD j 0 = ms.getD j 0
      · rw [decide_eq_true q]; exact beq_iff_eq.mpr q
      · rw [decide_eq_false q]; exact beq_eq_false_iff_ne.mpr q
    rw [← z]
    exact SeqAt.EqAt.int_int _ _ _ _) (fun j h1 h2 _ => by
    obtain ⟨t, et⟩ := at1 j h1
    obtain ⟨t', et'⟩ := at2 j h2
    rw [et, et']
    exact hi _ _ _ _)
  rw [e1, e2, lexAt_eq] at R
  rw [hop]
  exact R X.prog X.w X.xe (EP X pins σ Q) ⟨.bl _, H, I, rfl, q⟩
def fLt := fOrd (fun i j => decide (i < j)) qLt
def fLe := fOrd (fun i j => decide (i ≤ j)) qLe
def fGt := fOrd (fun i j => decide (j < i)) qGt
def fGe := fOrd (fun i j => decide (j ≤ i)) qGe
section
variable {X : Cx}
theorem op_ltA (hu : X.A.units + 100 < cLine) : OpR X (compareOp .Lt) (rOrd X.K (fun i j => decide (i < j)) qLt) := op_lt.or (op_ordT (zf := fun n m => decide (n < m)) hu (fun _ _ => rfl) (fun h1 h2 h3 h4 h5 => Ob.RcOp.tuples_lt h1 h2 h3 h4 h5) Ob.RcOp.lt_int)
theorem op_leA (hu : X.A.units + 100 < cLine) : OpR X (compareOp .LtE) (rOrd X.K (fun i j => decide (i ≤ j)) qLe) := op_le.or (op_ordT (zf := fun n m => decide (n ≤ m)) hu (fun _ _ => rfl) (fun h1 h2 h3 h4 h5 => Ob.RcOp.tuples_le h1 h2 h3 h4 h5) Ob.RcOp.le_int)
theorem op_gtA (hu : X.A.units + 100 < cLine) : OpR X (compareOp .Gt) (rOrd X.K (fun i j => decide (j < i)) qGt) := op_gt.or (op_ordT (zf := fun n m => decide (n > m)) hu (fun _ _ => rfl) (fun h1 h2 h3 h4 h5 => Ob.RcOp.tuples_gt h1 h2 h3 h4 h5) Ob.RcOp.gt_int)
theorem op_geA (hu : X.A.units + 100 < cLine) : OpR X (compareOp .GtE) (rOrd X.K (fun i j => decide (j ≤ i)) qGe) := op_ge.or (op_ordT (zf := fun n m => decide (n ≥ m)) hu (fun _ _ => rfl) (fun h1 h2 h3 h4 h5 => Ob.RcOp.tuples_ge h1 h2 h3 h4 h5) Ob.RcOp.ge_int)
end
end DL

namespace DL
open PySem PySem.Spec PyProof.Rows L2
variable [Tbs]

/-! ### == and != of data -/
mutual
def D.py : D → Option PyData
  | .non => some .none
  | .bl b => some (.bool b)
  | .int i => some (.int i)
  | .str s => some (.str s)
  | .tup ds => (D.pys ds).map .tuple
  | .lst ds => (D.pys ds).map .list
  | _ => none
def D.pys : List D → Option (List PyData)
  | [] => some []
  | d :: ds => (D.py d).bind fun p => (D.pys ds).map (p :: ·)
end
def Vw.py : Vw → Option PyData
  | .d x => x.py
  | .ob (.lst ds) => (D.pys ds).map .list
  | _ => none
def fEq2 (g : Bool → Bool) : Vw → Vw → Option Rv := fun x y => x.py.bind fun p => y.py.bind fun q => if SeqAt.shaped p = true ∧ SeqAt.shaped q = true then some (.sh (.bl (g (PyData.eqv p q)))) else none
def fEq : Vw → Vw → Option Rv := fEq2 id
def fNe : Vw → Vw → Option Rv := fEq2 not
section
variable {K : PySem.W.Frag} {cad : Str → Addr} {F H : Hp} {ι : List Addr} {μ : Store}
mutual
theorem VR.dp (hs : Same F H) : ∀ (d : D) (v : V) (p : PyData), VR K cad ι F d v → d.py = some p → Dp K H v p
  | .non, v, p, h, e => by cases e; rw [VR.non_.mp h]; exact .non
  | .bl b, v, p, h, e => by cases e; rw [VR.bl_.mp h]; exact .bl b
  | .int b, v, p, h, e => by cases e; rw [VR.int_.mp h]; exact .int b
  | .str b, v, p, h, e => by cases e; rw [VR.str_.mp h]; exact .str b
  | .tup ds, v, p, h, e => by
    obtain ⟨a, vs, rfl, e1, r⟩ := VR.tup_.mp h
    unfold D.py at e
    cases c : D.pys ds with
    | none => rw [c] at e; cases e
    | some ps =>
      rw [c] at e
      cases e
      exact .tup (SqT.of (hs _ _ e1)) (VRs.dp hs ds vs ps r c)
  | .lst ds, v, p, h, e => by
    obtain ⟨a, vs, rfl, e1, r⟩ := VR.lst_.mp h
    unfold D.py at e
    cases c : D.pys ds with
    | none => rw [c] at e; cases e
    | some ps =>
      rw [c] at e
      cases e
      exact .lst (SqL.of (hs _ _ e1)) (VRs.dp hs ds vs ps r c)
  | .dK _ _, _, _, _, e => by cases e
  | .dT _ _, _, _, _, e => by cases e
  | .ins _ _ _, _, _, _, e => by cases e
  | .loc _, _, _, _, e => by cases e
  | .scr _, _, _, _, e => by cases e
theorem VRs.dp (hs : Same F H) : ∀ (ds : List D) (vs : List V) (ps : List PyData), VRs K cad ι F ds vs → D.pys ds = some ps → DpAll K H vs ps
  | [], vs, ps, h, e => by cases e; rw [VRs.of_nil h]; exact .nil
  | d :: ds, vs, ps, h, e => by
    obtain ⟨v, vs, rfl, r, t⟩ := h
    unfold D.pys at e
    cases c : D.py d with
    | none => rw [c] at e; cases e
    | some p =>
      cases c2 : D.pys ds with
      | none => simp [c, c2] at e
      | some ps' =>
        simp [c, c2] at e
        subst e
        exact .cons (VR.dp hs d v p r c) (VRs.dp hs ds vs ps' t c2)
end
theorem VwR.dp (rs : RS K cad F ι μ H) {w : Vw} {v : V} {p : PyData} (h : VwR K cad F ι H w v) (e : w.py = some p) : Dp K H v p := by
  cases w with
  | d d => exact VR.dp rs.sub d v p h e
  | ob o =>
    cases o with
    | lst ds =>
      obtain ⟨a, rfl, vs, e1, r⟩ := h
      cases c : D.pys ds with
      | none => simp [Vw.py, c] at e
      | some ps =>
        simp [Vw.py, c] at e
        subst e
        exact .lst (SqL.of e1) (VRs.dp rs.sub ds vs ps r c)
    | _ => cases e
theorem eq2_inv {g : Bool → Bool} {x y : Vw} {rv : Rv} (e : fEq2 g x y = some rv) : ∃ p q, x.py = some p ∧ y.py = some q ∧ SeqAt.shaped p = true ∧ SeqAt.shaped q = true ∧ rv = .sh (.bl (g (PyData.eqv p q))) := by
  unfold fEq2 at e
  cases c : x.py with
  | none => simp [c] at e
  | some p =>
    cases c2 : y.py with
    | none => simp [c, c2] at e
    | some q =>
      simp only [c, c2, Option.bind_some] at e
      split at e
      · next h => cases e; exact ⟨p, q, rfl, rfl, h.1, h.2, rfl⟩
      · cases e
theorem sd_eq : Sd2 K cad (rEqD K) fEq := by
  intro F ι μ H wx wy vx vy rv Q rs hx hy e k
  obtain ⟨p, q, e1, e2, s1, s2, rfl⟩ := eq2_inv e
  exact ⟨p, q, hx.dp rs e1, hy.dp rs e2, s1, s2, fin_bl rs k⟩
theorem sd_ne : Sd2 K cad (rNeD K) fNe := by
  intro F ι μ H wx wy vx vy rv Q rs hx hy e k
  obtain ⟨p, q, e1, e2, s1, s2, rfl⟩ := eq2_inv e
  exact ⟨p, q, hx.dp rs e1, hy.dp rs e2, s1, s2, fin_bl rs k⟩
end
theorem op_eqA {X : Cx} (hu : X.A.units + 100 < cLine) : OpR X (compareOp .Eq) (rEqD X.K) := op_eqD (by omega)
theorem op_neA {X : Cx} (hu : X.A.units + 100 < cLine) : OpR X (compareOp .NotEq) (rNeD X.K) := op_neD (by omega)

/-! ### is None -/
def Vw.isNon : Vw → Bool
  | .d .non => true
  | _ => false
def fIs (g : Bool → Bool) : Vw → Vw → Option Rv
  | x, .d .non => some (.sh (.bl (g x.isNon)))
  | _, _ => none
section
variable {K : PySem.W.Frag} {cad : Str → Addr}
theorem vw_isNon {F H : Hp} {ι : List Addr} {w : Vw} {v : V} (h : VwR K cad F ι H w v) : decide (v = .non) = w.isNon := by
  cases w with
  | ob o => obtain ⟨a, rfl, _⟩ := h; rfl
  | d d =>
    have h : VR K cad ι F d v := h
    cases d with
    | non => rw [VR.non_.mp h]; rfl
    | bl b => rw [VR.bl_.mp h]; rfl
    | int b => rw [VR.int_.mp h]; rfl
    | str b => rw [VR.str_.mp h]; rfl
    | tup ds => obtain ⟨a, vs, rfl, _⟩ := VR.tup_.mp h; rfl
    | lst ds => obtain ⟨a, vs, rfl, _⟩ := VR.lst_.mp h; rfl
    | scr ds => obtain ⟨a, rfl, _⟩ := VR.scr_.mp h; rfl
    | exn _ _ _ _ => unfold VR at h; obtain ⟨rfl, _⟩ := h; rfl
    | loc ds => obtain ⟨a, rfl, _⟩ := VR.loc_.mp h; rfl
    | dK _ _ => unfold VR at h; obtain ⟨a, o, vs, rfl, _⟩ := h; rfl
    | dT _ _ => unfold VR at h; obtain ⟨a, o, vs, rfl, _⟩ := h; rfl
    | ins _ _ _ => unfold VR at h; obtain ⟨a, o, vs, rfl, _⟩ := h; rfl
theorem is_inv {g : Bool → Bool} {x y : Vw} {rv : Rv} (e : fIs g x y = some rv) : y = .d .non ∧ rv = .sh (.bl (g x.isNon)) := by
  unfold fIs at e
  split at e
  · cases e; exact ⟨rfl, rfl⟩
  · cases e
theorem sd_is : Sd2 K cad (fun x y H Q => y = .non ∧ Q (.bl (decide (x = .non))) H) (fIs id) := by
  intro F ι μ H wx wy vx vy rv Q rs hx hy e k
  obtain ⟨rfl, rfl⟩ := is_inv e
  refine ⟨vw_non hy, ?_⟩
  rw [vw_isNon hx]
  exact fin_bl rs k
theorem sd_isnot : Sd2 K cad (fun x y H Q => y = .non ∧ Q (.bl (!decide (x = .non))) H) (fIs not) := by
  intro F ι μ H wx wy vx vy rv Q rs hx hy e k
  obtain ⟨rfl, rfl⟩ := is_inv e
  refine ⟨vw_non hy, ?_⟩
  rw [vw_isNon hx]
  exact fin_bl rs k
end

/-! ### in: lists and tuples of data, dicts -/
def D.key : D → Option Key
  | .int i => some (.inl i)
  | .str s => some (.inr s)
  | _ => none
def D.keys : List D → Option (List Key)
  | [] => some []
  | d :: ds => d.key.bind fun k => (D.keys ds).map (k :: ·)
def getK {κ : Type} [DecidableEq κ] (kvs : List (κ × D)) (k : κ) : Option D := (kvs.find? fun kv => decide (kv.1 = k)).map (·.2)
/-- what a dict holds at a key: none: not such a dict or key -/
def fGet : Vw → Vw → Option (Option D)
  | .ob (.dK kvs), .d d => d.key.map fun k => getK kvs k
  | .ob (.dT kvs), .d (.tup ds) => (D.keys ds).map fun k => getK kvs k
  | _, _ => none
def flatD : D → Bool
  | .non => true
  | .bl _ => true
  | .int _ => true
  | .str _ => true
  | _ => false
def eqF : D → D → Bool
  | .non, .non => true
  | .bl a, .bl b => a == b
  | .bl a, .int b => (if a then 1 else 0) == b
  | .int a, .bl b => a == (if b then 1 else 0)
  | .int a, .int b => a == b
  | .str a, .str b => a == b
  | _, _ => false
def fIn (g : Bool → Bool) : Vw → Vw → Option Rv
  | x, .ob (.lst ds) => x.py.bind fun p => (D.pys ds).bind fun ps => if SeqAt.shaped p = true ∧ SeqAt.shaped (.list ps) = true then some (.sh (.bl (g (ps.any fun z => PyData.eqv z p)))) else none
  | .d x, .d (.tup ds) => if flatD x = true ∧ ds.all flatD = true then some (.sh (.bl (g (ds.any fun y => eqF y x)))) else none
  | .d (.str x), .d (.str z) => match x.cps.toList with
    | [c] => some (.sh (.bl (g (decide (c ∈ z.cps.toList)))))
    | _ => none
  | x, y => (fGet y x).map fun o => .sh (.bl (g o.isSome))
def rDIn (g : Bool → Bool) : R2 := fun y x H Q => ∃ a o, x = .ref a ∧ DGet H a y o ∧ Q (.bl (g o.isSome)) H
def rInA (K : PySem.W.Frag) : R2 := fun x y H Q => rInD K x y H Q ∨ rIn K false x y H Q ∨ (∃ (c : Nat) (z : Str), x = .str ⟨#[c]⟩ ∧ y = .str z ∧ Q (.bl (decide (c ∈ z.cps.toList))) H) ∨ rDIn id x y H Q
def rNotInA (K : PySem.W.Frag) : R2 := fun x y H Q => rNotInD K x y H Q ∨ rIn K true x y H Q ∨ (∃ (c : Nat) (z : Str), x = .str ⟨#[c]⟩ ∧ y = .str z ∧ Q (.bl (!decide (c ∈ z.cps.toList))) H) ∨ rDIn not x y H Q
section
variable {X : Cx}
theorem op_din (hu : X.A.units + 100 < cLine) : OpR X (compareOp .In) (rDIn id) := by
  intro pins s σ H y x u v Q I ry rx h
  obtain ⟨a, o, rfl, g, q⟩ := h
  cases rx
  exact d_in (by omega) I g ry fun s' I' => ⟨.bl o.isSome, H, I', rfl, q⟩
theorem op_dnotin (hu : X.A.units + 100 < cLine) : OpR X (compareOp .NotIn) (rDIn not) := by
  intro pins s σ H y x u v Q I ry rx h
  obtain ⟨a, o, rfl, g, q⟩ := h
  cases rx
  exact d_notIn (by omega) I g ry fun s' I' => ⟨.bl (!o.isSome), H, I', rfl, q⟩
theorem op_inA (hu : X.A.units + 100 < cLine) : OpR X (compareOp .In) (rInA X.K) := (op_inD (by omega)).or (op_in_seq.or (op_in_sign.or (op_din hu)))
theorem op_notInA (hu : X.A.units + 100 < cLine) : OpR X (compareOp .NotIn) (rNotInA X.K) := (op_notInD (by omega)).or (op_notIn_seq.or (op_notIn_sign.or (op_dnotin hu)))
end
section
variable {K : PySem.W.Frag} {cad : Str → Addr} {F H : Hp} {ι : List Addr} {μ : Store}
theorem key_VR {d : D} {v : V} {k : Key} (h : VR K cad ι F d v) (e : d.key = some k) : v = kV k := by
  cases d with
  | int i => cases e; exact VR.int_.mp h
  | str i => cases e; exact VR.str_.mp h
  | _ => cases e
theorem keys_VRs : ∀ {ds : List D} {vs : List V} {k : List Key}, VRs K cad ι F ds vs → D.keys ds = some k → vs = k.map kV
  | [], _, _, h, e => by cases e; exact VRs.of_nil h
  | d :: ds, _, k, h, e => by
    obtain ⟨v, vs, rfl, r, t⟩ := h
    cases c : d.key with
    | none => simp [D.keys, c] at e
    | some k1 =>
      cases c2 : D.keys ds with
      | none => simp [D.keys, c, c2] at e
      | some k2 =>
        simp [D.keys, c, c2] at e
        subst e
        rw [key_VR r c, keys_VRs t c2]
        rfl
/-- a dict's value by its key, on both sides -/
theorem get_val {κ : Type} [DecidableEq κ] (k : κ) : ∀ {kvs : List (κ × D)} {vs : List V}, VRs K cad ι F (kvs.map (·.2)) vs → match getK kvs k, valV ((kvs.map (·.1)).zip vs) k with
    | some d, some v => VR K cad ι F d v
    | none, none => True
    | _, _ => False
  | [], _, h => by cases h; trivial
  | (k', d) :: kvs, _, h => by
    obtain ⟨v, vs, rfl, r, t⟩ := h
    have ih := get_val k t
    by_cases c : k' = k
    · have e1 : getK ((k', d) :: kvs) k = some d := by simp [getK, List.find?_cons, c]
      have e2 : valV (((((k', d) :: kvs).map (·.1)).zip (v :: vs))) k = some v := by
        rw [List.map_cons, List.zip_cons_cons]
        exact valV_pos c
      rw [e1, e2]
      exact r
    · have e1 : getK ((k', d) :: kvs) k = getK kvs k := by simp [getK, List.find?_cons, c]
      have e2 : valV (((((k', d) :: kvs).map (·.1)).zip (v :: vs))) k = valV ((kvs.map (·.1)).zip vs) k := by
        rw [List.map_cons, List.zip_cons_cons]
        exact valV_neg c
      rw [e1, e2]
      exact ih
/-- what a dict gives, by values -/
def OptR (K : PySem.W.Frag) (cad : Str → Addr) (ι : List Addr) (F : Hp) : Option D → Option V → Prop
  | some d, some v => VR K cad ι F d v
  | none, none => True
  | _, _ => False
theorem OptR.isSome {o : Option D} {u : Option V} (h : OptR K cad ι F o u) : u.isSome = o.isSome := by
  cases o <;> cases u <;> first | rfl | exact h.elim
theorem fGet_ok (rs : RS K cad F ι μ H) {x y : Vw} {vx vy : V} {o : Option D} (hx : VwR K cad F ι H x vx) (hy : VwR K cad F ι H y vy) (e : fGet x y = some o) : ∃ a u, vx = .ref a ∧ DGet H a vy u ∧ OptR K cad ι F o u := by
  unfold fGet at e
  split at e
  · next kvs d =>
    obtain ⟨a, rfl, vs, e1, r⟩ := hx
    cases c : d.key with
    | none => simp [c] at e
    | some k =>
      simp [c] at e
      subst e
      refine ⟨a, _, rfl, .inl ⟨_, k, e1, key_VR hy c, rfl⟩, ?_⟩
      have := get_val (K := K) (cad := cad) (ι := ι) (F := F) k r
      unfold OptR
      split <;> simp_all
  · next kvs ds =>
    obtain ⟨a, rfl, vs, e1, r⟩ := hx
    obtain ⟨b, us, rfl, e2, r2⟩ := vw_tup hy
    cases c : D.keys ds with
    | none => simp [c] at e
    | some k =>
      simp [c] at e
      subst e
      rw [keys_VRs r2 c] at e2
      refine ⟨a, _, rfl, .inr ⟨_, k, b, e1, rfl, rs.sub _ _ e2, rfl⟩, ?_⟩
      have := get_val (K := K) (cad := cad) (ι := ι) (F := F) k r
      unfold OptR
      split <;> simp_all
  · cases e
theorem flat_VR {d : D} {v : V} (h : VR K cad ι F d v) (f : flatD d = true) : flatV v = true := by
  cases d with
  | non => rw [VR.non_.mp h]; rfl
  | bl b => rw [VR.bl_.mp h]; rfl
  | int b => rw [VR.int_.mp h]; rfl
  | str b => rw [VR.str_.mp h]; rfl
  | _ => cases f
theorem eqF_VR {d e : D} {v u : V} (h : VR K cad ι F d v) (h' : VR K cad ι F e u) (f : flatD d = true) (f' : flatD e = true) : eqV v u = eqF d e := by
  cases d with
  | non => rw [VR.non_.mp h]; cases e with
    | non => rw [VR.non_.mp h']; rfl
    | bl b => rw [VR.bl_.mp h']; rfl
    | int b => rw [VR.int_.mp h']; rfl
    | str b => rw [VR.str_.mp h']; rfl
    | _ => cases f'
  | bl b => rw [VR.bl_.mp h]; cases e with
    | non => rw [VR.non_.mp h']; rfl
    | bl b => rw [VR.bl_.mp h']; rfl
    | int b => rw [VR.int_.mp h']; rfl
    | str b => rw [VR.str_.mp h']; rfl
    | _ => cases f'
  | int b => rw [VR.int_.mp h]; cases e with
    | non => rw [VR.non_.mp h']; rfl
    | bl b => rw [VR.bl_.mp h']; rfl
    | int b => rw [VR.int_.mp h']; rfl
    | str b => rw [VR.str_.mp h']; rfl
    | _ => cases f'
  | str b => rw [VR.str_.mp h]; cases e with
    | non => rw [VR.non_.mp h']; rfl
    | bl b => rw [VR.bl_.mp h']; rfl
    | int b => rw [VR.int_.mp h']; rfl
    | str b => rw [VR.str_.mp h']; rfl
    | _ => cases f'
  | _ => cases f
theorem flat_VRs : ∀ {ds : List D} {vs : List V}, VRs K cad ι F ds vs → ds.all flatD = true → vs.all flatV = true
  | [], _, h, _ => by cases h; rfl
  | d :: ds, _, h, f => by
    obtain ⟨v, vs, rfl, r, t⟩ := h
    rw [List.all_cons, Bool.and_eq_true] at f ⊢
    exact ⟨flat_VR r f.1, flat_VRs t f.2⟩
theorem any_VRs {x : D} {u : V} (hx : VR K cad ι F x u) (fx : flatD x = true) : ∀ {ds : List D} {vs : List V}, VRs K cad ι F ds vs → ds.all flatD = true → inV u vs = ds.any fun y => eqF y x
  | [], _, h, _ => by cases h; rfl
  | d :: ds, _, h, f => by
    obtain ⟨v, vs, rfl, r, t⟩ := h
    rw [List.all_cons, Bool.and_eq_true] at f
    have ih := any_VRs hx fx t f.2
    show ((v :: vs).any fun y => eqV y u) = _
    rw [List.any_cons, List.any_cons, eqF_VR r hx f.1 fx]
    exact congrArg _ ih
theorem in_inv {g : Bool → Bool} {x y : Vw} {rv : Rv} (e : fIn g x y = some rv) : (∃ ds p ps, y = .ob (.lst ds) ∧ x.py = some p ∧ D.pys ds = some ps ∧ SeqAt.shaped p = true ∧ SeqAt.shaped (.list ps) = true ∧ rv = .sh (.bl (g (ps.any fun z => PyData.eqv z p)))) ∨
    (∃ d ds, x = .d d ∧ y = .d (.tup ds) ∧ flatD d = true ∧ ds.all flatD = true ∧ rv = .sh (.bl (g (ds.any fun y => eqF y d)))) ∨ (∃ c z, x = .d (.str ⟨#[c]⟩) ∧ y = .d (.str z) ∧ rv = .sh (.bl (g (decide (c ∈ z.cps.toList))))) ∨
    ∃ o, fGet y x = some o ∧ rv = .sh (.bl (g o.isSome)) := by
  unfold fIn at e
  split at e
  · next ds =>
    cases c : x.py with
    | none => simp [c] at e
    | some p =>
      cases c2 : D.pys ds with
      | none => simp [c, c2] at e
      | some ps =>
        simp only [c, c2, Option.bind_some] at e
        split at e
        · next h => cases e; exact .inl ⟨ds, p, ps, rfl, rfl, c2, h.1, h.2, rfl⟩
        · cases e
  · next d ds =>
    split at e
    · next h => cases e; exact .inr (.inl ⟨d, ds, rfl, rfl, h.1, h.2, rfl⟩)
    · cases e
  · next s z =>
    split at e
    · next c hc =>
      cases e
      have : s = ⟨#[c]⟩ := by
        obtain ⟨⟨l⟩⟩ := s
        simp only at hc
        subst hc
        rfl
      subst this
      exact .inr (.inr (.inl ⟨c, z, rfl, rfl, rfl⟩))
    · cases e
  · cases c : fGet y x with
    | none => simp [c] at e
    | some o =>
      simp [c] at e
      exact .inr (.inr (.inr ⟨o, rfl, e.symm⟩))
theorem sd_in : Sd2 K cad (rInA K) (fIn id) := by
  intro F ι μ H wx wy vx vy rv Q rs hx hy e k
  rcases in_inv e with ⟨ds, p, ps, rfl, e1, e2, s1, s2, rfl⟩ | ⟨d, ds, rfl, rfl, f1, f2, rfl⟩ | ⟨c, z, rfl, rfl, rfl⟩ | ⟨o, e1, rfl⟩
  · exact .inl ⟨p, ps, hx.dp rs e1, hy.dp rs (by simp [Vw.py, e2]), s1, s2, fin_bl rs k⟩
  · obtain ⟨a, vs, rfl, e1, r⟩ := vw_tup hy
    refine .inr (.inl ⟨a, vs, rfl, .inr (SqT.sub rs e1), flat_VR hx f1, flat_VRs r f2, ?_⟩)
    rw [any_VRs hx f1 r f2]
    exact fin_bl rs k
  · exact .inr (.inr (.inl ⟨c, z, vw_str hx, vw_str hy, fin_bl rs k⟩))
  · obtain ⟨a, u, rfl, g, oo⟩ := fGet_ok rs hy hx e1
    refine .inr (.inr (.inr ⟨a, u, rfl, g, ?_⟩))
    rw [oo.isSome]
    exact fin_bl rs k
theorem sd_notIn : Sd2 K cad (rNotInA K) (fIn not) := by
  intro F ι μ H wx wy vx vy rv Q rs hx hy e k
  rcases in_inv e with ⟨ds, p, ps, rfl, e1, e2, s1, s2, rfl⟩ | ⟨d, ds, rfl, rfl, f1, f2, rfl⟩ | ⟨c, z, rfl, rfl, rfl⟩ | ⟨o, e1, rfl⟩
  · exact .inl ⟨p, ps, hx.dp rs e1, hy.dp rs (by simp [Vw.py, e2]), s1, s2, fin_bl rs k⟩
  · obtain ⟨a, vs, rfl, e1, r⟩ := vw_tup hy
    refine .inr (.inl ⟨a, vs, rfl, .inr (SqT.sub rs e1), flat_VR hx f1, flat_VRs r f2, ?_⟩)
    rw [any_VRs hx f1 r f2]
    exact fin_bl rs k
  · exact .inr (.inr (.inl ⟨c, z, vw_str hx, vw_str hy, fin_bl rs k⟩))
  · obtain ⟨a, u, rfl, g, oo⟩ := fGet_ok rs hy hx e1
    refine .inr (.inr (.inr ⟨a, u, rfl, g, ?_⟩))
    rw [oo.isSome]
    exact fin_bl rs k
end
end DL

namespace DL
open PySem PySem.Spec PyProof.Rows L2
variable [Tbs]

/-! ### a[b] -/
def fIx : Vw → Vw → Option Rv
  | .ob (.lst ds), .d (.int i) => (atI ds i).map .sh
  | .d (.tup ds), .d (.int i) => (atI ds i).map .sh
  | .d (.scr ns), .d (.int i) => (atI ns i).map fun n => .sh (.int n)
  | .d (.str z), .d (.int i) => if z.length ≤ 16777216 then (atI z.cps.toList i).map fun c => .sh (.str ⟨#[c]⟩) else none
  | x, y => match fGet x y with
    | some (some d) => some (.sh d)
    | _ => none
def rDGetI : R2 := fun x y H Q => ∃ a v, x = .ref a ∧ DGet H a y (some v) ∧ Q v H
def rIxA (K : PySem.W.Frag) : R2 := fun x y H Q => rIx K x y H Q ∨ rDGetI x y H Q
section
variable {X : Cx}
theorem ix_dict (hu : X.A.units + 100 < cLine) : IxR X rDGetI := by
  intro value slice pins s σ H x y v u Q I rx ry h hs
  obtain ⟨a, z, rfl, g, q⟩ := h
  cases rx
  have hT : s.TypeIs (.ref a) "dict" := dict_typeIs I g
  have h₂ : wpAny (model X.prog X.w) X.A (getItem (.ref a) u) (EP X pins σ Q) X.xe s := d_getItem (by omega) I g ry fun w' s3 I3 rw' => ⟨z, H, I3, rw', q⟩
  unfold subscriptTail
  refine wpAny_bind ?_
  rw [getitemInPython_of_ne hT.not_modules]
  refine wpAny_bind (wpAny_specialOf hT PySem.F.slot_dict_getitem.lookup ?_)
  have fin : wpAny (model X.prog X.w) X.A (subscripted slice false (.ref a) u) (fun r s₃ => wpAny (model X.prog X.w) X.A (letTemporaryGo value (.ref a) r >>= fun _ => pure r) (EP X pins σ Q) X.xe s₃) X.xe s := by
    rw [hs]
    exact wpAny_operating (wpAny_mono h₂ (fun r s₃ h₃ => wpAny_bind (wpAny_letTemporaryGo (wpAny_pure h₃))) fun _ _ x => x)
  first
    | exact wpAny_pure (wpAny_bind fin)
    | exact wpAny_bind (wpAny_pure (wpAny_bind fin))
    | exact wpAny_bind fin
theorem ix_all (hu : X.A.units + 100 < cLine) : IxR X (rIxA X.K) := ix_seq.or (ix_dict hu)
end
section
variable {K : PySem.W.Frag} {cad : Str → Addr} {F H : Hp} {ι : List Addr} {μ : Store}
theorem atI_VRs {ds : List D} {vs : List V} {i : Int} {d : D} (r : VRs K cad ι F ds vs) (e : atI ds i = some d) : ∃ v, atI vs i = some v ∧ VR K cad ι F d v := by
  unfold atI at e ⊢
  rw [← r.len]
  cases c : ixN ds.length i with
  | none => rw [c] at e; cases e
  | some j =>
    rw [c] at e
    exact r.get e
theorem atI_map {α β : Type} (f : α → β) (xs : List α) (i : Int) : atI (xs.map f) i = (atI xs i).map f := by
  unfold atI
  rw [List.length_map]
  cases ixN xs.length i with
  | none => rfl
  | some j => simp
theorem ix_inv {x y : Vw} {rv : Rv} (e : fIx x y = some rv) : (∃ ds i d, x = .ob (.lst ds) ∧ y = .d (.int i) ∧ atI ds i = some d ∧ rv = .sh d) ∨ (∃ ds i d, x = .d (.tup ds) ∧ y = .d (.int i) ∧ atI ds i = some d ∧ rv = .sh d) ∨
    (∃ ns i n, x = .d (.scr ns) ∧ y = .d (.int i) ∧ atI ns i = some n ∧ rv = .sh (.int n)) ∨ (∃ z i c, x = .d (.str z) ∧ y = .d (.int i) ∧ z.length ≤ 16777216 ∧ atI z.cps.toList i = some c ∧ rv = .sh (.str ⟨#[c]⟩)) ∨ ∃ d, fGet x y = some (some d) ∧ rv = .sh d := by
  unfold fIx at e
  split at e
  · next ds i => cases c : atI ds i with
    | none => simp [c] at e
    | some d => simp [c] at e; exact .inl ⟨ds, i, d, rfl, rfl, c, e.symm⟩
  · next ds i => cases c : atI ds i with
    | none => simp [c] at e
    | some d => simp [c] at e; exact .inr (.inl ⟨ds, i, d, rfl, rfl, c, e.symm⟩)
  · next ds i => cases c : atI ds i with
    | none => simp [c] at e
    | some d => simp [c] at e; exact .inr (.inr (.inl ⟨ds, i, d, rfl, rfl, c, e.symm⟩))
  · next z i =>
    split at e
    · next h => cases c : atI z.cps.toList i with
      | none => simp [c] at e
      | some d => simp [c] at e; exact .inr (.inr (.inr (.inl ⟨z, i, d, rfl, rfl, h, c, e.symm⟩)))
    · cases e
  · split at e
    · next d h => cases e; exact .inr (.inr (.inr (.inr ⟨d, h, rfl⟩)))
    · cases e
theorem sd_ix : Sd2 K cad (rIxA K) fIx := by
  intro F ι μ H wx wy vx vy rv Q rs hx hy e k
  rcases ix_inv e with ⟨ds, i, d, rfl, rfl, e1, rfl⟩ | ⟨ds, i, d, rfl, rfl, e1, rfl⟩ | ⟨ns, i, n, rfl, rfl, e1, rfl⟩ | ⟨z, i, c, rfl, rfl, h, e1, rfl⟩ | ⟨d, e1, rfl⟩
  · obtain ⟨a, rfl, vs, e2, r⟩ := hx
    obtain ⟨v, e3, q⟩ := atI_VRs r e1
    exact .inl (.inl ⟨a, vs, i, v, rfl, vw_int hy, SqL.of e2, e3, fin_sh rs k q⟩)
  · obtain ⟨a, vs, rfl, e2, r⟩ := vw_tup hx
    obtain ⟨v, e3, q⟩ := atI_VRs r e1
    exact .inl (.inr (.inl ⟨a, vs, i, v, rfl, vw_int hy, SqT.sub rs e2, e3, fin_sh rs k q⟩))
  · obtain ⟨a, rfl, s⟩ := vw_scr hx
    exact .inl (.inl ⟨a, _, i, .int n, rfl, vw_int hy, rs.sub.seq s, by rw [atI_map, e1]; rfl, fin_int rs k⟩)
  · exact .inl (.inr (.inr ⟨z, i, c, vw_str hx, vw_int hy, line_eq.mpr h, e1, fin_str rs k⟩))
  · obtain ⟨a, u, rfl, g, oo⟩ := fGet_ok rs hx hy e1
    cases u with
    | none => exact oo.elim
    | some v => exact .inr ⟨a, v, rfl, g, fin_sh rs k oo⟩
end

/-! ### a[lo:hi] -/
abbrev MO := Ev → Store → Res (Option Int)
def oNone : MO := fun _ μ => .ok none μ
def oSome (m : ME) : MO := fun ρ μ => (m ρ μ).bind fun o μ1 => match o with
  | .sh (.int i) => .ok (some i) μ1
  | _ => .stk
def cutD (ds : List D) (lo hi : Option Int) : List D := (ds.drop (HT.sIx ds.length 0 lo)).take (HT.sIx ds.length ds.length hi - HT.sIx ds.length 0 lo)
/-- a list, a tuple, a text -/
def fCut : Vw → Option Int → Option Int → Option Rv
  | .ob (.lst ds), lo, hi => some (.own (.lst (cutD ds lo hi)))
  | .d (.tup ds), lo, hi => some (.sh (.tup (cutD ds lo hi)))
  | .d (.str z), lo, hi => if z.length ≤ 16777216 then some (.sh (.str (cutS z lo hi))) else none
  | _, _, _ => none
def eCut (a : ME) (lo hi : MO) : ME := fun ρ μ => (a ρ μ).bind fun x μ1 => (lo ρ μ1).bind fun l μ2 => (hi ρ μ2).bind fun h μ3 => Res.of ((deref ρ μ3 x).bind fun w => (fCut w l h).map Rv.op) μ3
def rlO : Rl (Option Int) (Option Int) := ⟨fun _ _ _ _ a b => a = b, fun _ q => q⟩
def tO (K : PySem.W.Frag) (cad : Str → Addr) (W : WX) (m : MO) : TO := fun σ H Q => ∃ F ι μ ρ, R K cad F ι μ ρ σ H ∧ Post K cad W rlO F ι H σ (m ρ μ) Q
def rCutA (K : PySem.W.Frag) : V → Option Int → Option Int → Hp → VK → Prop := fun x lo hi H Q => rSlL K x lo hi H Q ∨ rSlA K x lo hi H Q ∨ (∃ z, x = .str z ∧ z.length ≤ sizeLine ∧ Q (.str (cutS z lo hi)) H)
section
variable {X : Cx} {cad : Str → Addr} {W : WX} {pos p2 : Pos} {e : Expr} {ma : ME}
theorem cut_all : SlR X (rCutA X.K) := sl_list.or (sl_tupA.or sl_str)
theorem do_none : PO X none (tO X.K cad W oNone) := ⟨fun pins s σ H Q I h => po_none.run pins s σ H Q I (by
  obtain ⟨F, ι, μ, ρ, rr, q⟩ := h
  exact q F ι H none (Ext.refl _ _ _) rr.rs rfl)⟩
theorem do_some (h : PE X e (tE X.K cad W ma)) : PO X (some e) (tO X.K cad W (oSome ma)) := ⟨fun pins s σ H Q I h' => (po_some h).run pins s σ H Q I (by
  obtain ⟨F, ι, μ, ρ, rr, q⟩ := h'
  refine ⟨F, ι, μ, ρ, rr, q.bind fun o μ1 F1 ι1 H1 v x1 s1 q1 h1 => ?_⟩
  split at h1
  · next i =>
    have q1 : VR X.K cad ι1 F1 (.int i) v := q1
    exact ⟨i, VR.int_.mp q1, h1 F1 ι1 H1 (some i) (Ext.refl _ _ _) s1 rfl⟩
  · exact h1.elim)⟩
theorem cut_VRs {K : PySem.W.Frag} {F : Hp} {ι : List Addr} {ds : List D} {vs : List V} (r : VRs K cad ι F ds vs) (lo hi : Option Int) : VRs K cad ι F (cutD ds lo hi) (cutV vs lo hi) := by
  unfold cutD cutV
  rw [r.len]
  exact (r.drop _).take _
theorem de_cut {lo hi : Option Expr} {ml mh : MO} (ha : PE X e (tE X.K cad W ma)) (hl : PO X lo (tO X.K cad W ml)) (hh : PO X hi (tO X.K cad W mh)) : PE X (.Subscript e (.Slice lo hi none p2) pos) (tE X.K cad W (eCut ma ml mh)) := by
  refine pe_imp (pe_slice cut_all ha hl hh) fun σ H Q ⟨F, ι, μ, ρ, rr, q⟩ => ?_
  refine ⟨F, ι, μ, ρ, rr, q.bind fun x μ1 F1 ι1 H1 vx x1 s1 q1 h1 => ?_⟩
  have r1 := rr.ext x1 s1
  refine ⟨F1, ι1, μ1, ρ, r1, h1.bind fun l μ2 F2 ι2 H2 vl x2 s2 q2 h2 => ?_⟩
  have q2 : l = vl := q2
  subst q2
  have r2 := r1.ext x2 s2
  refine ⟨F2, ι2, μ2, ρ, r2, h2.bind fun u μ3 F3 ι3 H3 vu x3 s3 q3 h3 => ?_⟩
  have q3 : u = vu := q3
  subst q3
  have r3 := r2.ext x3 s3
  obtain ⟨o, e1, k⟩ := Post.of h3
  cases cx : deref ρ μ3 x with
  | none => rw [cx] at e1; cases e1
  | some w =>
    rw [cx] at e1
    have vw := OpV.view r3 (OpV.mono (H1 := H1) x3 (OpV.mono (H1 := H1) x2 q1)) cx
    cases cf : fCut w l u with
    | none => simp [cf] at e1
    | some rv =>
      simp [cf] at e1
      subst e1
      have kk : ∀ F' ι' H' v, Ext F3 ι3 H3 F' ι' H' → RS X.K cad F' ι' μ3 H' → RvR X.K cad H3 F' ι' H' rv v → Q v H' := fun F' ι' H' v x s z => k F' ι' H' v x s z.op
      unfold fCut at cf
      split at cf
      · cases cf
        obtain ⟨a, rfl, vs, e2, r⟩ := vw
        exact .inl ⟨a, vs, rfl, SqL.of e2, fun p hp => fin_own s3 kk hp ⟨_, rfl, cut_VRs r _ _⟩⟩
      · cases cf
        obtain ⟨a, vs, rfl, e2, r⟩ := vw_tup vw
        refine .inr (.inl ⟨a, vs, rfl, SqT.sub s3 e2, fun hw => ?_, fun _ p hp => fin_tup s3 kk hp (cut_VRs r _ _)⟩)
        refine fin_sh s3 kk (VR.tup_.mpr ⟨a, vs, rfl, e2, ?_⟩)
        have e3 : ∀ ds : List D, ds.length = vs.length → cutD ds l u = ds := fun ds hl => by
          unfold cutD
          rw [hl, hw.1, hw.2, List.drop_zero, Nat.sub_zero, ← hl, List.take_length]
        rw [e3 _ r.len]
        exact r
      · split at cf
        · next h => cases cf; exact .inr (.inr ⟨_, vw_str vw, line_eq.mpr h, fin_str s3 kk⟩)
        · cases cf
      · cases cf
/-! ### displays -/
def eTup (as : MA) : ME := fun ρ μ => (as ρ μ).bind fun ds μ1 => if ds.length ≤ 16777216 then .ok (.sh (.tup ds)) μ1 else .stk
def eLst (as : MA) : ME := fun ρ μ => (as ρ μ).bind fun ds μ1 => if ds.length ≤ 16777216 then .ok (.own (.lst ds)) μ1 else .stk
theorem de_tup {es : List Expr} {x1} {as : MA} (h : PA X es (tDs X.K cad W as)) : PE X (.Tuple es x1 pos) (tE X.K cad W (eTup as)) := by
  refine pe_imp (pe_tup h) fun σ H Q ⟨F, ι, μ, ρ, rr, q⟩ => ?_
  refine ⟨F, ι, μ, ρ, rr, q.bind fun ds μ1 F1 ι1 H1 vs x1 s1 q1 h1 => ?_⟩
  have q1 : VRs X.K cad ι1 F1 ds vs := q1
  split at h1
  · next hl => exact ⟨by rw [← q1.len]; exact line_eq.mpr hl, fun p hp => fin_tup s1 (fun F' ι' H' v x s z => h1 F' ι' H' v x s (RvR.op (ρ := ρ) (σ := σ) (r := .sh (.tup ds)) z)) hp q1⟩
  · exact h1.elim
theorem de_lst {es : List Expr} {as : MA} (h : PA X es (tDs X.K cad W as)) : PE X (.List es pos) (tE X.K cad W (eLst as)) := by
  refine pe_imp (pe_lst h) fun σ H Q ⟨F, ι, μ, ρ, rr, q⟩ => ?_
  refine ⟨F, ι, μ, ρ, rr, q.bind fun ds μ1 F1 ι1 H1 vs x1 s1 q1 h1 => ?_⟩
  have q1 : VRs X.K cad ι1 F1 ds vs := q1
  split at h1
  · next hl => exact ⟨by rw [← q1.len]; exact line_eq.mpr hl, fun p hp => fin_own s1 (fun F' ι' H' v x s z => h1 F' ι' H' v x s (RvR.op (ρ := ρ) (σ := σ) (r := .own (.lst ds)) z)) hp ⟨vs, rfl, q1⟩⟩
  · exact h1.elim
/-- {}, its keys ints and texts; tuples -/
def eDK : ME := fun _ μ => .ok (.own (.dK [])) μ
def eDT : ME := fun _ μ => .ok (.own (.dT [])) μ
theorem de_dK : PE X (.Dict [] [] pos) (tE X.K cad W eDK) := pe_imp pe_dnewK fun σ H Q ⟨F, ι, μ, ρ, rr, q⟩ p hp => fin_own rr.rs (fun F' ι' H' v x s z => q F' ι' H' v x s (RvR.op (ρ := ρ) (σ := σ) (r := .own (.dK [])) z)) hp ⟨[], rfl, rfl⟩
theorem de_dT : PE X (.Dict [] [] pos) (tE X.K cad W eDT) := pe_imp pe_dnewT fun σ H Q ⟨F, ι, μ, ρ, rr, q⟩ p hp => fin_own rr.rs (fun F' ι' H' v x s z => q F' ι' H' v x s (RvR.op (ρ := ρ) (σ := σ) (r := .own (.dT [])) z)) hp ⟨[], rfl, rfl⟩
/-- a new thing into the store -/
def eLoc (m : ME) : ME := fun ρ μ => (m ρ μ).bind fun o μ1 => match o with
  | .own ob => .ok (.sh (.loc μ1.length)) (μ1 ++ [ob])
  | _ => .stk
theorem de_loc {m : ME} (h : PE X e (tE X.K cad W m)) : PE X e (tE X.K cad W (eLoc m)) := by
  refine pe_imp h fun σ H Q ⟨F, ι, μ, ρ, rr, q⟩ => ?_
  refine ⟨F, ι, μ, ρ, rr, ?_⟩
  unfold eLoc at q
  cases c : m ρ μ with
  | stk => rw [c] at q; exact q
  | exc x μ1 => rw [c] at q; exact q
  | ok o μ1 =>
    rw [c] at q
    cases o with
    | sh d => exact q.elim
    | slot i => exact q.elim
    | own ob =>
      intro F1 ι1 H1 v x1 s1 q1
      obtain ⟨a, ho, rfl, e2, e3, e4, e5, z⟩ := q1
      have s2 := s1.push e5 e3 e2 z
      refine q F1 (ι1 ++ [a]) H1 _ ?_ s2 ?_
      · refine ⟨x1.f, x1.i.trans (pre_snoc _ _), x1.kept, x1.dom, x1.nf, fun b hb hn => ?_, x1.lk⟩
        rcases List.mem_append.mp hb with w | w
        · exact x1.ni b w hn
        · have : b = a := by simpa using w
          rw [this]
          exact e4
      · refine (show VR X.K cad (ι1 ++ [a]) F1 (.loc μ1.length) (.ref a) from VR.loc_.mpr ⟨a, rfl, ?_⟩)
        rw [← s1.len]
        simp
end
/-! ### built-in functions -/
def derefs (ρ : Ev) (μ : Store) : List Op → Option (List Vw)
  | [] => some []
  | o :: os => (deref ρ μ o).bind fun w => (derefs ρ μ os).map (w :: ·)
def eCB (f : List Vw → Option Rv) (as : Ev → Store → Res (List Op)) : ME := fun ρ μ => (as ρ μ).bind fun os μ1 => Res.of ((derefs ρ μ1 os).bind fun ws => (f ws).map Rv.op) μ1
def SdB (K : PySem.W.Frag) (cad : Str → Addr) (r : List V → Hp → VK → Prop) (f : List Vw → Option Rv) : Prop := ∀ {F : Hp} {ι : List Addr} {μ : Store} {H : Hp} {ws : List Vw} {vs : List V} {rv : Rv} {Q : VK}, RS K cad F ι μ H → Paired (VwR K cad F ι H) ws vs → f ws = some rv →
  (∀ F' ι' H' v, Ext F ι H F' ι' H' → RS K cad F' ι' μ H' → RvR K cad H F' ι' H' rv v → Q v H') → r vs H Q
section
variable {X : Cx} {cad : Str → Addr} {W : WX} {pos p : Pos} {e : Expr} {es : List Expr} {x : Str} {id T : String} {r : List V → Hp → VK → Prop} {f : List Vw → Option Rv} {as : Ev → Store → Res (List Op)}
theorem derefs_ok {K : PySem.W.Frag} {F H H0 : Hp} {ι : List Addr} {μ : Store} {ρ : Ev} {σ : L2.St} (rr : R K cad F ι μ ρ σ H) : ∀ {os : List Op} {vs : List V} {ws : List Vw}, OpVs K cad ρ σ H0 F ι H os vs → derefs ρ μ os = some ws → Paired (VwR K cad F ι H) ws vs
  | [], _, _, .nil, e => by cases e; exact .nil
  | o :: os, _, ws, .cons h t, e => by
    unfold derefs at e
    cases c : deref ρ μ o with
    | none => rw [c] at e; cases e
    | some w =>
      cases c2 : derefs ρ μ os with
      | none => simp [c, c2] at e
      | some ws' =>
        simp [c, c2] at e
        subst e
        exact .cons (h.view rr c) (derefs_ok rr t c2)
theorem eCB_ok {K : PySem.W.Frag} (sd : SdB K cad r f) {σ : L2.St} {H : Hp} {Q : VK} (h : tE K cad W (eCB f as) σ H Q) : tCB r (tOs K cad W as) σ H Q := by
  obtain ⟨F, ι, μ, ρ, rr, q⟩ := h
  refine ⟨F, ι, μ, ρ, rr, q.bind fun os μ1 F1 ι1 H1 vs x1 s1 q1 h1 => ?_⟩
  obtain ⟨o, e1, k⟩ := Post.of h1
  cases c : derefs ρ μ1 os with
  | none => rw [c] at e1; cases e1
  | some ws =>
    rw [c] at e1
    cases cf : f ws with
    | none => simp [cf] at e1
    | some rv =>
      simp [cf] at e1
      subst e1
      exact sd s1 (derefs_ok (rr.ext x1 s1) q1 c) cf fun F' ι' H' v x s z => k F' ι' H' v x s z.op
theorem de_callB (hc : CallR X (.builtin id) r) (sd : SdB X.K cad r f) (hg : Gl X x) (hm : X.mg x = none) (hv : bootBuiltins x = some (.builtin id)) (ha : PA X (e :: es) (tOs X.K cad W as)) (hn : x ≠ "__name__" := by decide) (hdb : (x == ("__debug__" : Str)) = false := by decide)
    (he : starEach (e :: es) X.env = (false, eval e X.env) :: starEach es X.env := by rfl) (hpl : (backTo pos (starEach es X.env)).any (·.1) = false := by rfl) : PE X (.Call (.Name x p) (e :: es) [] pos) (tE X.K cad W (eCB f as)) :=
  pe_imp (pe_callB hc hg hm hv ha hn hdb he hpl) fun σ H Q q => eCB_ok sd q
theorem de_callTy (hc : CallR X (.type T) r) (sd : SdB X.K cad r f) (hg : Gl X x) (hm : X.mg x = none) (hv : bootBuiltins x = some (.type T)) (ha : PA X (e :: es) (tOs X.K cad W as)) (hn : x ≠ "__name__" := by decide) (hdb : (x == ("__debug__" : Str)) = false := by decide)
    (he : starEach (e :: es) X.env = (false, eval e X.env) :: starEach es X.env := by rfl) (hpl : (backTo pos (starEach es X.env)).any (·.1) = false := by rfl) : PE X (.Call (.Name x p) (e :: es) [] pos) (tE X.K cad W (eCB f as)) :=
  pe_imp (pe_callTy hc hg hm hv ha hn hdb he hpl) fun σ H Q q => eCB_ok sd q
end
/-- len -/
def fLen : List Vw → Option Rv
  | [.ob (.lst ds)] => some (.sh (.int ds.length))
  | [.d (.tup ds)] => some (.sh (.int ds.length))
  | [.d (.scr ds)] => some (.sh (.int ds.length))
  | [.d (.str z)] => if z.length ≤ 16777216 then some (.sh (.int z.length)) else none
  | [.ob (.dK kvs)] => some (.sh (.int kvs.length))
  | _ => none
def fMax2 : List Vw → Option Rv
  | [.d (.int i), .d (.int j)] => some (.sh (.int (max i j)))
  | _ => none
def fMin2 : List Vw → Option Rv
  | [.d (.int i), .d (.int j)] => some (.sh (.int (min i j)))
  | _ => none
def fInt : List Vw → Option Rv
  | [.d (.int i)] => some (.sh (.int i))
  | [.d (.bl b)] => some (.sh (.int (if b then 1 else 0)))
  | _ => none
def fList : List Vw → Option Rv
  | [.ob (.lst ds)] => some (.own (.lst ds))
  | [.d (.tup ds)] => some (.own (.lst ds))
  | _ => none
def fTuple : List Vw → Option Rv
  | [.ob (.lst ds)] => some (.sh (.tup ds))
  | [.d (.tup ds)] => some (.sh (.tup ds))
  | _ => none
/-- the greatest of ints -/
def maxL : List Int → Int
  | [] => 0
  | [i] => i
  | i :: r => max i (maxL r)
def fMaxL : List Vw → Option Rv
  | [.ob (.lst ds)] => (D.ints ds).bind fun ns => if ns.length = 0 then none else some (.sh (.int (maxL ns)))
  | _ => none
def fSum : List Vw → Option Rv
  | [.ob (.lst ds)] => (D.ints ds).map fun ns => .sh (.int ns.sum)
  | _ => none
theorem maxL_mem : ∀ {ns : List Int}, ns.length ≠ 0 → maxL ns ∈ ns
  | [], h => absurd rfl h
  | [i], _ => by simp [maxL]
  | i :: j :: r, _ => by
    have ih := maxL_mem (ns := j :: r) (by simp)
    show max i (maxL (j :: r)) ∈ _
    rcases Int.le_total i (maxL (j :: r)) with h | h
    · rw [Int.max_eq_right h]; exact List.mem_cons_of_mem _ ih
    · rw [Int.max_eq_left h]; exact List.mem_cons_self
theorem maxL_ge : ∀ {ns : List Int} {y : Int}, y ∈ ns → y ≤ maxL ns
  | [], y, h => by simp at h
  | [i], y, h => by
    have : y = i := by simpa using h
    rw [this]; exact Int.le_refl _
  | i :: j :: r, y, h => by
    show y ≤ max i (maxL (j :: r))
    rcases List.mem_cons.mp h with e | e
    · rw [e]; exact Int.le_max_left _ _
    · exact Int.le_trans (maxL_ge e) (Int.le_max_right _ _)
section
variable {K : PySem.W.Frag} {cad : Str → Addr}
theorem pr1 {α β : Type} {P : α → β → Prop} {a : α} {bs : List β} (h : Paired P [a] bs) : ∃ b, bs = [b] ∧ P a b := by
  cases h with
  | cons h t => cases t; exact ⟨_, rfl, h⟩
theorem pr2 {α β : Type} {P : α → β → Prop} {a a' : α} {bs : List β} (h : Paired P [a, a'] bs) : ∃ b b', bs = [b, b'] ∧ P a b ∧ P a' b' := by
  cases h with
  | cons h t => cases t with
    | cons h' t => cases t; exact ⟨_, _, rfl, h, h'⟩
def rLenA (K : PySem.W.Frag) : List V → Hp → VK → Prop := fun xs H Q => (∃ p ys, xs = [.ref p] ∧ (SqL K H p ys ∨ SqT K H p ys) ∧ Q (.int ys.length) H) ∨ (∃ z, xs = [.str z] ∧ z.length ≤ sizeLine ∧ Q (.int z.length) H) ∨ ∃ a kvs, xs = [.ref a] ∧ Rd H a (.dK kvs) ∧ Q (.int kvs.length) H
theorem call_lenDK {X : Cx} : CallR X (.builtin "len") (fun xs H Q => ∃ a kvs, xs = [.ref a] ∧ Rd H a (.dK kvs) ∧ Q (.int kvs.length) H) := by
  intro pins s σ H vs us Q I r h
  obtain ⟨a, kvs, rfl, e, q⟩ := h
  obtain ⟨u, rfl, ru⟩ := vals1 r
  obtain rfl : u = Value.ref a := ru
  exact d_len I e fun t s' I' => ⟨.int kvs.length, H, I', ⟨t, rfl⟩, q⟩
theorem call_lenA {X : Cx} : CallR X (.builtin "len") (rLenA X.K) := call_len_seq.or (call_len_str.or call_lenDK)
theorem sd_len : SdB K cad (rLenA K) fLen := by
  intro F ι μ H ws vs rv Q rs hw e k
  unfold fLen at e
  split at e
  · cases e
    obtain ⟨v, rfl, a, rfl, us, e1, r⟩ := pr1 hw
    refine .inl ⟨a, us, rfl, .inl (SqL.of e1), ?_⟩
    rw [← r.len]
    exact fin_int rs k
  · cases e
    obtain ⟨v, rfl, h⟩ := pr1 hw
    obtain ⟨a, us, rfl, e1, r⟩ := vw_tup h
    refine .inl ⟨a, us, rfl, .inr (SqT.sub rs e1), ?_⟩
    rw [← r.len]
    exact fin_int rs k
  · cases e
    obtain ⟨v, rfl, h⟩ := pr1 hw
    obtain ⟨a, rfl, s⟩ := vw_scr h
    refine .inl ⟨a, _, rfl, .inl (rs.sub.seq s), ?_⟩
    rw [List.length_map]
    exact fin_int rs k
  · split at e
    · next hl =>
      cases e
      obtain ⟨v, rfl, h⟩ := pr1 hw
      obtain rfl := vw_str h
      exact .inr (.inl ⟨_, rfl, line_eq.mpr hl, fin_int rs k⟩)
    · cases e
  · next kvs =>
    cases e
    obtain ⟨v, rfl, a, rfl, us, e1, r⟩ := pr1 hw
    refine .inr (.inr ⟨a, _, rfl, e1, ?_⟩)
    have hl : ((kvs.map (·.1)).zip us).length = kvs.length := by
      have := r.len
      rw [List.length_map] at this
      rw [List.length_zip, List.length_map, ← this, Nat.min_self]
    rw [hl]
    exact fin_int rs k
  · cases e
theorem sd_max2 : SdB K cad (fun xs H Q => ∃ i j, xs = [.int i, .int j] ∧ Q (.int (if j > i then j else i)) H) fMax2 := by
  intro F ι μ H ws vs rv Q rs hw e k
  unfold fMax2 at e
  split at e
  · next i j =>
    cases e
    obtain ⟨v, v', rfl, h, h'⟩ := pr2 hw
    obtain rfl := vw_int h
    obtain rfl := vw_int h'
    refine ⟨i, j, rfl, ?_⟩
    rw [show (if j > i then j else i) = max i j by split <;> omega]
    exact fin_int rs k
  · cases e
theorem sd_min2 : SdB K cad (fun xs H Q => ∃ i j, xs = [.int i, .int j] ∧ Q (.int (if j < i then j else i)) H) fMin2 := by
  intro F ι μ H ws vs rv Q rs hw e k
  unfold fMin2 at e
  split at e
  · next i j =>
    cases e
    obtain ⟨v, v', rfl, h, h'⟩ := pr2 hw
    obtain rfl := vw_int h
    obtain rfl := vw_int h'
    refine ⟨i, j, rfl, ?_⟩
    rw [show (if j < i then j else i) = min i j by split <;> omega]
    exact fin_int rs k
  · cases e
theorem sd_int : SdB K cad (fun xs H Q => (∃ i, xs = [.int i] ∧ Q (.int i) H) ∨ ∃ k, xs = [.bl k] ∧ Q (.int (if k then 1 else 0)) H) fInt := by
  intro F ι μ H ws vs rv Q rs hw e k
  unfold fInt at e
  split at e
  · cases e
    obtain ⟨v, rfl, h⟩ := pr1 hw
    obtain rfl := vw_int h
    exact .inl ⟨_, rfl, fin_int rs k⟩
  · cases e
    obtain ⟨v, rfl, h⟩ := pr1 hw
    obtain rfl := vw_bl h
    exact .inr ⟨_, rfl, fin_int rs k⟩
  · cases e
theorem sd_list : SdB K cad (fun xs H Q => ∃ p ys, xs = [.ref p] ∧ (SqL K H p ys ∨ SqT K H p ys) ∧ ∀ l, H l = none → Q (.ref l) (upd H l (.lst ys))) fList := by
  intro F ι μ H ws vs rv Q rs hw e k
  unfold fList at e
  split at e
  · cases e
    obtain ⟨v, rfl, a, rfl, us, e1, r⟩ := pr1 hw
    exact ⟨a, us, rfl, .inl (SqL.of e1), fun l hl => fin_own rs k hl ⟨us, rfl, r⟩⟩
  · cases e
    obtain ⟨v, rfl, h⟩ := pr1 hw
    obtain ⟨a, us, rfl, e1, r⟩ := vw_tup h
    exact ⟨a, us, rfl, .inr (SqT.sub rs e1), fun l hl => fin_own rs k hl ⟨us, rfl, r⟩⟩
  · cases e
theorem sd_tuple : SdB K cad (fun xs H Q => ∃ p ys, xs = [.ref p] ∧ ((SqL K H p ys ∧ ∀ l, H l = none → Q (.ref l) (upd H l (.tup ys))) ∨ (SqT K H p ys ∧ Q (.ref p) H))) fTuple := by
  intro F ι μ H ws vs rv Q rs hw e k
  unfold fTuple at e
  split at e
  · cases e
    obtain ⟨v, rfl, a, rfl, us, e1, r⟩ := pr1 hw
    exact ⟨a, us, rfl, .inl ⟨SqL.of e1, fun l hl => fin_tup rs k hl r⟩⟩
  · cases e
    obtain ⟨v, rfl, h⟩ := pr1 hw
    obtain ⟨a, us, rfl, e1, r⟩ := vw_tup h
    exact ⟨a, us, rfl, .inr ⟨SqT.sub rs e1, fin_sh rs k h⟩⟩
  · cases e
theorem sd_maxL : SdB K cad (rMax K) fMaxL := by
  intro F ι μ H ws vs rv Q rs hw e k
  unfold fMaxL at e
  split at e
  · next ds =>
    cases c : D.ints ds with
    | none => simp [c] at e
    | some ns =>
      simp only [c, Option.bind_some] at e
      split at e
      · cases e
      · next hn =>
        cases e
        obtain ⟨v, rfl, a, rfl, us, e1, r⟩ := pr1 hw
        rw [ints_vals r c] at e1
        refine ⟨a, ns, rfl, SqL.of e1, by omega, fun m hm1 hm2 => ?_⟩
        have : m = maxL ns := Int.le_antisymm (maxL_ge hm1) (hm2 _ (maxL_mem hn))
        rw [this]
        exact fin_int rs k
  · cases e
theorem sd_sum : SdB K cad (rSum K) fSum := by
  intro F ι μ H ws vs rv Q rs hw e k
  unfold fSum at e
  split at e
  · next ds =>
    cases c : D.ints ds with
    | none => simp [c] at e
    | some ns =>
      simp [c] at e
      subst e
      obtain ⟨v, rfl, a, rfl, us, e1, r⟩ := pr1 hw
      rw [ints_vals r c] at e1
      exact ⟨a, ns, rfl, SqL.of e1, fin_int rs k⟩
  · cases e
end
end DL

namespace DL
open PySem PySem.Spec PyProof.Rows L2
variable [Tbs]

/-! ### statements; E: the state at the def's entry -/
structure Ent where
  F : Hp
  ι : List Addr
  H : Hp
structure R0 (K : PySem.W.Frag) (cad : Str → Addr) (E : Ent) (F : Hp) (ι : List Addr) (μ : Store) (ρ : Ev) (σ : L2.St) (H : Hp) : Prop where
  r : R K cad F ι μ ρ σ H
  x : Ext E.F E.ι E.H F ι H
  fr : ∀ (i : Nat) (o : Ob) (a : Addr), ρ[i]? = some (.own o) → σ[i]? = some (some (.ref a)) → E.H a = none
inductive Fl where | nx | bk | ct | rt (r : Rv)
abbrev MS := Ev → Store → Res (Fl × Ev)
def PostS (K : PySem.W.Frag) (cad : Str → Addr) (W : WX) (E : Ent) (F : Hp) (ι : List Addr) (r : Res (Fl × Ev)) (D : Ends) : Prop := match r with
  | .ok (.nx, ρ') μ' => ∀ F' ι' σ' H', Same F F' → ι <+: ι' → R0 K cad E F' ι' μ' ρ' σ' H' → D.nx σ' H'
  | .ok (.bk, ρ') μ' => ∀ F' ι' σ' H', Same F F' → ι <+: ι' → R0 K cad E F' ι' μ' ρ' σ' H' → D.bk σ' H'
  | .ok (.ct, ρ') μ' => ∀ F' ι' σ' H', Same F F' → ι <+: ι' → R0 K cad E F' ι' μ' ρ' σ' H' → D.ct σ' H'
  | .ok (.rt rv, _) μ' => ∀ F' ι' H' v, Ext E.F E.ι E.H F' ι' H' → RS K cad F' ι' μ' H' → RvR K cad E.H F' ι' H' rv v → D.rt v H'
  | .exc x μ' => ∀ F' ι' H' σ' d, Ext E.F E.ι E.H F' ι' H' → RS K cad F' ι' μ' H' → XR K cad F' ι' x d → W (.ref (cad x.cls)) d σ' H'
  | .stk => False
def tS (K : PySem.W.Frag) (cad : Str → Addr) (W : WX) (E : Ent) (m : MS) : TS := fun D σ H => ∃ F ι μ ρ, R0 K cad E F ι μ ρ σ H ∧ PostS K cad W E F ι (m ρ μ) D
theorem PostS.ext {K : PySem.W.Frag} {cad : Str → Addr} {W : WX} {E : Ent} {F F' : Hp} {ι ι' : List Addr} {r : Res (Fl × Ev)} {D : Ends} (hf : Same F F') (hi : ι <+: ι') (h : PostS K cad W E F ι r D) : PostS K cad W E F' ι' r D := by
  cases r with
  | stk => exact h
  | exc x μ => exact h
  | ok p μ =>
    obtain ⟨f, ρ⟩ := p
    cases f with
    | nx => exact fun F2 ι2 σ2 H2 a b => h F2 ι2 σ2 H2 (hf.trans a) (hi.trans b)
    | bk => exact fun F2 ι2 σ2 H2 a b => h F2 ι2 σ2 H2 (hf.trans a) (hi.trans b)
    | ct => exact fun F2 ι2 σ2 H2 a b => h F2 ι2 σ2 H2 (hf.trans a) (hi.trans b)
    | rt rv => exact h
def mNx : MS := fun ρ μ => .ok (.nx, ρ) μ
def seqR (r : Res (Fl × Ev)) (n : MS) : Res (Fl × Ev) := match r with
  | .ok (.nx, ρ') μ' => n ρ' μ'
  | r => r
def mSeq (m n : MS) : MS := fun ρ μ => seqR (m ρ μ) n
section
variable {K : PySem.W.Frag} {cad : Str → Addr} {E : Ent} {F F' H H' H0 : Hp} {ι ι' : List Addr} {μ μ' : Store} {ρ : Ev} {σ : L2.St}
theorem R0.ext (r : R0 K cad E F ι μ ρ σ H) (x : Ext F ι H F' ι' H') (s : RS K cad F' ι' μ' H') : R0 K cad E F' ι' μ' ρ σ H' := ⟨r.r.ext x s, r.x.trans x, r.fr⟩
theorem get_set {α : Type} {l : List α} {i j : Nat} {a b : α} (h : (l.set i a)[j]? = some b) : (j = i ∧ b = a ∧ i < l.length) ∨ (j ≠ i ∧ l[j]? = some b) := by
  by_cases e : i = j
  · subst e
    by_cases hl : i < l.length
    · rw [List.getElem?_set_self hl] at h
      exact .inl ⟨rfl, (Option.some.inj h).symm, hl⟩
    · rw [List.getElem?_eq_none (by rw [List.length_set]; omega)] at h
      cases h
  · rw [List.getElem?_set_ne e] at h
    exact .inr ⟨fun z => e z.symm, h⟩
/-- a name comes to hold data -/
theorem R0.set (r : R0 K cad E F ι μ ρ σ H) {i : Nat} {d : D} {v : V} (q : VR K cad ι F d v) : R0 K cad E F ι μ (ρ.set i (.sh d)) (σ.set i (some v)) H := by
  refine ⟨⟨r.r.rs, by rw [List.length_set, List.length_set]; exact r.r.len, fun j d' e => ?_, fun j o e => ?_, fun j k o o' a e1 e2 e3 e4 => ?_⟩, r.x, fun j o a e1 e2 => ?_⟩
  · rcases get_set e with ⟨rfl, e', hl⟩ | ⟨hj, e⟩
    · cases e'
      exact ⟨v, List.getElem?_set_self (by rw [r.r.len]; exact hl), q⟩
    · obtain ⟨v', e1, q'⟩ := r.r.sh j d' e
      exact ⟨v', by rw [List.getElem?_set_ne (fun z => hj z.symm)]; exact e1, q'⟩
  · rcases get_set e with ⟨_, e', _⟩ | ⟨hj, e⟩
    · cases e'
    · obtain ⟨a, ho, e1, z⟩ := r.r.own j o e
      exact ⟨a, ho, by rw [List.getElem?_set_ne (fun z => hj z.symm)]; exact e1, z⟩
  · rcases get_set e1 with ⟨_, e', _⟩ | ⟨hj, e1⟩
    · cases e'
    rcases get_set e2 with ⟨_, e', _⟩ | ⟨hk, e2⟩
    · cases e'
    rw [List.getElem?_set_ne (fun z => hj z.symm)] at e3
    rw [List.getElem?_set_ne (fun z => hk z.symm)] at e4
    exact r.r.dis j k o o' a e1 e2 e3 e4
  · rcases get_set e1 with ⟨_, e', _⟩ | ⟨hj, e1⟩
    · cases e'
    rw [List.getElem?_set_ne (fun z => hj z.symm)] at e2
    exact r.fr j o a e1 e2
/-- a name comes to hold a new thing -/
theorem R0.setOwn (r : R0 K cad E F ι μ ρ σ H) {i : Nat} {ob : Ob} {a : Addr} {ho : HO} (h1 : F a = none) (h2 : a ∉ ι) (h3 : E.H a = none) (h4 : H a = some ho) (q : OR K cad ι F a ob ho)
    (hd : ∀ (j : Nat) (o : Ob), j ≠ i → ρ[j]? = some (.own o) → σ[j]? ≠ some (some (.ref a))) : R0 K cad E F ι μ (ρ.set i (.own ob)) (σ.set i (some (.ref a))) H := by
  refine ⟨⟨r.r.rs, by rw [List.length_set, List.length_set]; exact r.r.len, fun j d' e => ?_, fun j o e => ?_, fun j k o o' b e1 e2 e3 e4 => ?_⟩, r.x, fun j o b e1 e2 => ?_⟩
  · rcases get_set e with ⟨_, e', _⟩ | ⟨hj, e⟩
    · cases e'
    · obtain ⟨v', e1, q'⟩ := r.r.sh j d' e
      exact ⟨v', by rw [List.getElem?_set_ne (fun z => hj z.symm)]; exact e1, q'⟩
  · rcases get_set e with ⟨rfl, e', hl⟩ | ⟨hj, e⟩
    · cases e'
      exact ⟨a, ho, List.getElem?_set_self (by rw [r.r.len]; exact hl), h1, h2, h4, q⟩
    · obtain ⟨b, ho', e1, z⟩ := r.r.own j o e
      exact ⟨b, ho', by rw [List.getElem?_set_ne (fun z => hj z.symm)]; exact e1, z⟩
  · rcases get_set e1 with ⟨rfl, e', hl⟩ | ⟨hj, e1⟩
    · rcases get_set e2 with ⟨rfl, _, _⟩ | ⟨hk, e2⟩
      · rfl
      · rw [List.getElem?_set_self (by rw [r.r.len]; exact hl)] at e3
        rw [List.getElem?_set_ne (fun z => hk z.symm)] at e4
        cases e3
        exact absurd e4 (hd k o' hk e2)
    · rw [List.getElem?_set_ne (fun z => hj z.symm)] at e3
      rcases get_set e2 with ⟨hk, _, hl⟩ | ⟨hk, e2⟩
      · rw [hk, List.getElem?_set_self (by rw [r.r.len]; exact hl)] at e4
        cases e4
        exact absurd e3 (hd j o hj e1)
      · rw [List.getElem?_set_ne (fun z => hk z.symm)] at e4
        exact r.r.dis j k o o' b e1 e2 e3 e4
  · rcases get_set e1 with ⟨rfl, e', hl⟩ | ⟨hj, e1⟩
    · rw [List.getElem?_set_self (by rw [r.r.len]; exact hl)] at e2
      cases e2
      exact h3
    · rw [List.getElem?_set_ne (fun z => hj z.symm)] at e2
      exact r.fr j o b e1 e2
end
section
variable {X : Cx} {cad : Str → Addr} {W : WX} {E : Ent} {pos : Pos} {e : Expr} {st : Stmt} {rest : List Stmt} {m n : MS} {ma : ME}
theorem dss_nil : PSs X [] (tS X.K cad W E mNx) := pss_imp pss_nil fun D σ H ⟨F, ι, μ, ρ, r, h⟩ => h F ι σ H (Same.refl _) List.prefix_rfl r
theorem dss_cons (h1 : PS X st (tS X.K cad W E m)) (h2 : PSs X rest (tS X.K cad W E n)) : PSs X (st :: rest) (tS X.K cad W E (mSeq m n)) := by
  refine pss_imp (pss_cons h1 h2) fun D σ H ⟨F, ι, μ, ρ, r, h⟩ => ⟨F, ι, μ, ρ, r, ?_⟩
  unfold mSeq seqR at h
  cases c : m ρ μ with
  | stk => rw [c] at h; exact h
  | exc x μ1 => rw [c] at h; exact h
  | ok p μ1 =>
    rw [c] at h
    obtain ⟨f, ρ1⟩ := p
    cases f with
    | nx => exact fun F' ι' σ' H' a b r' => ⟨F', ι', μ1, ρ1, r', PostS.ext a b h⟩
    | bk => exact h
    | ct => exact h
    | rt rv => exact h
theorem dss_one (h : PS X st (tS X.K cad W E m)) : PSs X [st] (tS X.K cad W E m) := by
  refine pss_imp (pss_cons h (dss_nil (cad := cad) (W := W) (E := E))) fun D σ H ⟨F, ι, μ, ρ, r, h⟩ => ⟨F, ι, μ, ρ, r, ?_⟩
  cases c : m ρ μ with
  | stk => rw [c] at h; exact h
  | exc x μ1 => rw [c] at h; exact h
  | ok p μ1 =>
    rw [c] at h
    obtain ⟨f, ρ1⟩ := p
    cases f with
    | nx => exact fun F' ι' σ' H' a b r' => ⟨F', ι', μ1, ρ1, r', PostS.ext a b h⟩
    | bk => exact h
    | ct => exact h
    | rt rv => exact h
/-! ### x = e -/
def mSet (i : Nat) (a : ME) : MS := fun ρ μ => (toD a ρ μ).bind fun d μ1 => .ok (.nx, ρ.set i (.sh d)) μ1
def mOwn (i : Nat) (a : ME) : MS := fun ρ μ => (a ρ μ).bind fun o μ1 => match o with
  | .own ob => .ok (.nx, ρ.set i (.own ob)) μ1
  | _ => .stk
theorem mSet_ok {K : PySem.W.Frag} {i : Nat} {D : Ends} {σ : L2.St} {H : Hp} (h : tS K cad W E (mSet i ma) D σ H) : tD K cad W (toD ma) σ H fun v H1 => D.nx (σ.set i (some v)) H1 := by
  obtain ⟨F, ι, μ, ρ, r, h⟩ := h
  refine ⟨F, ι, μ, ρ, r.r, ?_⟩
  unfold mSet at h
  cases c : toD ma ρ μ with
  | stk => rw [c] at h; exact h
  | exc x μ1 => rw [c] at h; exact fun F' ι' H' d y s q => h F' ι' H' σ d (r.x.trans y) s q
  | ok d μ1 => rw [c] at h; exact fun F' ι' H' v y s q => h F' ι' _ H' y.f y.i ((r.ext y s).set q)
theorem mOwn_ok {K : PySem.W.Frag} {i : Nat} {D : Ends} {σ : L2.St} {H : Hp} (h : tS K cad W E (mOwn i ma) D σ H) : tE K cad W ma σ H fun v H1 => D.nx (σ.set i (some v)) H1 := by
  obtain ⟨F, ι, μ, ρ, r, h⟩ := h
  refine ⟨F, ι, μ, ρ, r.r, ?_⟩
  unfold mOwn at h
  cases c : ma ρ μ with
  | stk => rw [c] at h; exact h
  | exc x μ1 => rw [c] at h; exact fun F' ι' H' d y s q => h F' ι' H' σ d (r.x.trans y) s q
  | ok o μ1 =>
    rw [c] at h
    cases o with
    | sh d => exact h.elim
    | slot j => exact h.elim
    | own ob =>
      intro F' ι' H' v y s q
      obtain ⟨a, ho, rfl, e2, e3, e4, e5, z⟩ := q
      refine h F' ι' _ H' y.f y.i ((r.ext y s).setOwn e2 e3 (r.x.dom a e4) e5 z fun j o hj ej es => ?_)
      obtain ⟨b, ho', e6, _, _, e7, _⟩ := r.r.own j o ej
      rw [es] at e6
      cases e6
      rw [e4] at e7
      cases e7
theorem ds_set (i : Nat) {x : Str} {pos' : Pos} (hN : X.N.Nodup) (he : PE X e (tE X.K cad W ma)) (hi : X.N[i]? = some x := by rfl) (hx : Loc X.env.scope x := by first | exact Or.inl rfl | exact Or.inr rfl) (hs : swapsWith e (some (.Name x pos')) pos.line X.env = pure false := by rfl)
    (hf : X.fn x = true ∨ X.env.scope.names.lookup x = some .local := by first | exact .inl rfl | exact .inr rfl) : PS X (.Assign [.Name x pos'] e pos) (tS X.K cad W E (mSet i ma)) :=
  ps_imp (ps_set (i := i) hN hi hx (de_toD he) hs hf) fun D σ H h => mSet_ok h
theorem ds_own (i : Nat) {x : Str} {pos' : Pos} (hN : X.N.Nodup) (he : PE X e (tE X.K cad W ma)) (hi : X.N[i]? = some x := by rfl) (hx : Loc X.env.scope x := by first | exact Or.inl rfl | exact Or.inr rfl) (hs : swapsWith e (some (.Name x pos')) pos.line X.env = pure false := by rfl)
    (hf : X.fn x = true ∨ X.env.scope.names.lookup x = some .local := by first | exact .inl rfl | exact .inr rfl) : PS X (.Assign [.Name x pos'] e pos) (tS X.K cad W E (mOwn i ma)) :=
  ps_imp (ps_set (i := i) hN hi hx he hs hf) fun D σ H h => mOwn_ok h
/-! ### return, an expression alone, if, pass -/
def opRv (ρ : Ev) : Op → Option Rv
  | .sh d => some (.sh d)
  | .own o => some (.own o)
  | .slot i => match ρ[i]? with
    | some (.own o) => some (.own o)
    | _ => none
def mRet (a : ME) : MS := fun ρ μ => (a ρ μ).bind fun o μ1 => match opRv ρ o with
  | some rv => .ok (.rt rv, ρ) μ1
  | none => .stk
def mRetN : MS := fun ρ μ => .ok (.rt (.sh .non), ρ) μ
def mDrop (a : ME) : MS := fun ρ μ => (a ρ μ).bind fun _ μ1 => .ok (.nx, ρ) μ1
def mIf (t : MT) (m n : MS) : MS := fun ρ μ => (t ρ μ).bind fun c μ1 => if c = true then m ρ μ1 else n ρ μ1
theorem mRet_ok {K : PySem.W.Frag} {D : Ends} {σ : L2.St} {H : Hp} (h : tS K cad W E (mRet ma) D σ H) : tE K cad W ma σ H D.rt := by
  obtain ⟨F, ι, μ, ρ, r, h⟩ := h
  refine ⟨F, ι, μ, ρ, r.r, ?_⟩
  unfold mRet at h
  cases c : ma ρ μ with
  | stk => rw [c] at h; exact h
  | exc x μ1 => rw [c] at h; exact fun F' ι' H' d y s q => h F' ι' H' σ d (r.x.trans y) s q
  | ok o μ1 =>
    rw [c] at h
    intro F' ι' H' v y s q
    have r' := r.ext y s
    cases o with
    | sh d => exact h F' ι' H' v (r.x.trans y) s q
    | own ob =>
      obtain ⟨a, ho, rfl, e2, e3, e4, e5, z⟩ := q
      exact h F' ι' H' _ (r.x.trans y) s ⟨a, ho, rfl, e2, e3, r.x.dom a e4, e5, z⟩
    | slot j =>
      obtain ⟨e1, ob, e2⟩ := q
      have h : PostS K cad W E F ι (match (match ρ[j]? with | some (.own o) => some (Rv.own o) | _ => none) with | some rv => .ok (.rt rv, ρ) μ1 | none => .stk) D := h
      rw [e2] at h
      obtain ⟨a, ho, e3, e4, e5, e6, z⟩ := r'.r.own j ob e2
      rw [e1] at e3
      cases e3
      exact h F' ι' H' _ (r.x.trans y) s ⟨a, ho, rfl, e4, e5, r.fr j ob a e2 e1, e6, z⟩
theorem ds_ret (he : PE X e (tE X.K cad W ma)) : PS X (.Return (some e) pos) (tS X.K cad W E (mRet ma)) := ps_imp (ps_ret he) fun D σ H h => mRet_ok h
theorem ds_retN : PS X (.Return none pos) (tS X.K cad W E mRetN) := ps_imp ps_retN fun D σ H ⟨F, ι, μ, ρ, r, h⟩ => h F ι H .non r.x r.r.rs (show VR X.K cad ι F DL.D.non V.non from VR.non_.mpr rfl)
theorem ds_pass : PS X (.Pass pos) (tS X.K cad W E mNx) := ps_imp ps_pass fun D σ H ⟨F, ι, μ, ρ, r, h⟩ => h F ι σ H (Same.refl _) List.prefix_rfl r
theorem ds_drop (he : PE X e (tE X.K cad W ma)) (hs : swapsWith e none pos.line X.env = pure false := by rfl) : PS X (.Expr e pos) (tS X.K cad W E (mDrop ma)) := by
  refine ps_imp (ps_expr he hs) fun D σ H ⟨F, ι, μ, ρ, r, h⟩ => ⟨F, ι, μ, ρ, r.r, ?_⟩
  unfold mDrop at h
  cases c : ma ρ μ with
  | stk => rw [c] at h; exact h
  | exc x μ1 => rw [c] at h; exact fun F' ι' H' d y s q => h F' ι' H' σ d (r.x.trans y) s q
  | ok o μ1 => rw [c] at h; exact fun F' ι' H' v y s q => h F' ι' σ H' y.f y.i (r.ext y s)
theorem ds_if {t : Expr} {body els : List Stmt} {mt : MT} {m n : MS} (ht : PT X t (tT X.K cad W mt)) (hb : PSs X body (tS X.K cad W E m)) (he : PSs X els (tS X.K cad W E n)) : PS X (.If t body els pos) (tS X.K cad W E (mIf mt m n)) := by
  refine ps_imp (ps_if ht hb he) fun D σ H ⟨F, ι, μ, ρ, r, h⟩ => ⟨F, ι, μ, ρ, r.r, ?_⟩
  unfold mIf at h
  cases c : mt ρ μ with
  | stk => rw [c] at h; exact h
  | exc x μ1 => rw [c] at h; exact fun F' ι' H' d y s q => h F' ι' H' σ d (r.x.trans y) s q
  | ok k μ1 =>
    rw [c] at h
    intro F' ι' H' v y s q
    have q : k = v := q
    subst q
    cases k with
    | true => rw [if_pos rfl]; exact ⟨F', ι', μ1, ρ, r.ext y s, PostS.ext y.f y.i h⟩
    | false => rw [if_neg Bool.false_ne_true]; exact ⟨F', ι', μ1, ρ, r.ext y s, PostS.ext y.f y.i h⟩
def mBrk : MS := fun ρ μ => .ok (.bk, ρ) μ
def mCont : MS := fun ρ μ => .ok (.ct, ρ) μ
def mStk : MS := fun _ _ => .stk
theorem ds_never (st : Stmt) : PS X st (tS X.K cad W E mStk) := ps_imp ps_never fun D σ H ⟨F, ι, μ, ρ, r, h⟩ => h
end

/-! ### things that change -/
def getOb (ρ : Ev) (μ : Store) : Op → Option Ob
  | .slot i => match ρ[i]? with
    | some (.own o) => some o
    | _ => none
  | .sh (.loc n) => μ[n]?
  | _ => none
def putOb (ρ : Ev) (μ : Store) (o : Op) (ob : Ob) : Ev × Store := match o with
  | .slot i => (ρ.set i (.own ob), μ)
  | .sh (.loc n) => (ρ, μ.set n ob)
  | _ => (ρ, μ)
theorem Ext.upd_of {F F' H H' : Hp} {ι ι' : List Addr} {a : Addr} {ho : HO} (x : Ext F ι H F' ι' H') (h : a ∉ ι → H a = none) (nf : ∀ o u, H a ≠ some (.frz o u)) : Ext F ι H F' ι' (upd H' a ho) := by
  refine ⟨x.f, x.i, fun b o hb e n => ?_, fun b e => ?_, x.nf, x.ni, fun b o u s => by rw [upd_ne (show b ≠ a from fun z => nf o u (by rw [← z]; exact s))]; exact x.lk b o u s⟩
  · rw [upd_ne (fun z => by
      rw [z] at hb e
      rw [h hb] at e
      cases e)]
    exact x.kept b o hb e n
  · by_cases q : b = a
    · rw [q, upd_same] at e
      cases e
    · rw [upd_ne q] at e
      exact x.dom b e
section
variable {K : PySem.W.Frag} {cad : Str → Addr} {E : Ent} {F F' H H' H0 : Hp} {ι ι' : List Addr} {μ μ' : Store} {ρ : Ev} {σ : L2.St}
def Ob.unl : Ob → Bool
  | .lkK _ => false
  | .lkT _ => false
  | _ => true
theorem OR.unl {a : Addr} {ob : Ob} {ho : HO} (q : OR K cad ι F a ob ho) (h : ob.unl = true) : ∀ o u, ho ≠ .frz o u := by
  intro o u z
  subst z
  cases ob with
  | lst _ => obtain ⟨_, e, _⟩ := q; cases e
  | dK _ => obtain ⟨_, e, _⟩ := q; cases e
  | dT _ => obtain ⟨_, e, _⟩ := q; cases e
  | ins _ _ => obtain ⟨_, _, e, _⟩ := q; cases e
  | lkK _ => cases h
  | lkT _ => cases h
  | dead => exact q
  | dN _ => obtain ⟨_, _, e, _⟩ := q; cases e
theorem put_ok (r : R0 K cad E F ι μ ρ σ H) {o : Op} {v : V} {ob : Ob} (q : OpV K cad ρ σ H0 F ι H o v) (e : getOb ρ μ o = some ob) (hl : ob.unl = true) : ∃ a ho, v = .ref a ∧ H a = some ho ∧ OR K cad ι F a ob ho ∧
    ∀ ob' ho', OR K cad ι F a ob' ho' → R0 K cad E F ι (putOb ρ μ o ob').2 (putOb ρ μ o ob').1 σ (upd H a ho') := by
  cases o with
  | own o => cases e
  | slot i =>
    obtain ⟨e1, o, e2⟩ := q
    have e : (match ρ[i]? with | some (.own o) => some o | _ => none) = some ob := e
    rw [e2] at e
    cases e
    obtain ⟨a, ho, e3, e4, e5, e6, z⟩ := r.r.own i _ e2
    rw [e1] at e3
    cases e3
    have hE : E.H a = none := r.fr i _ a e2 e1
    refine ⟨a, ho, rfl, e6, z, fun ob' ho' z' => ?_⟩
    show R0 K cad E F ι μ (ρ.set i (.own ob')) σ (upd H a ho')
    refine ⟨⟨?_, by rw [List.length_set]; exact r.r.len, fun j d ej => ?_, fun j o ej => ?_, fun j k o o' b ej ek e7 e8 => ?_⟩, (r.x.upd_of (fun _ => hE) fun o u z => by rw [hE] at z; cases z), fun j o b ej e7 => ?_⟩
    · refine r.r.rs.grow (Same.refl _) (fun b o' s => ?_) (fun b hb o' s => ?_) r.r.rs.sep (r.r.rs.tb.put e6 z.notbl.1 z.notbl.2) r.r.rs.ft
      · rw [upd_ne (fun w => by rw [w, e4] at s; cases s)]
        exact r.r.rs.sub b o' s
      · rw [upd_ne (show b ≠ a from fun w => e5 (w ▸ hb))]
        exact s
    · rcases get_set ej with ⟨_, e', _⟩ | ⟨hj, ej⟩
      · cases e'
      · exact r.r.sh j d ej
    · rcases get_set ej with ⟨rfl, e', _⟩ | ⟨hj, ej⟩
      · cases e'
        exact ⟨a, ho', e1, e4, e5, upd_same, z'⟩
      · obtain ⟨b, ho2, e7, e8, e9, e10, z2⟩ := r.r.own j o ej
        refine ⟨b, ho2, e7, e8, e9, ?_, z2⟩
        rw [upd_ne (show b ≠ a from fun w => hj (r.r.dis j i o _ a ej e2 (w ▸ e7) e1))]
        exact e10
    · have fix : ∀ {j : Nat} {o : Ob}, (ρ.set i (.own ob'))[j]? = some (.own o) → ∃ o2, ρ[j]? = some (.own o2) := fun {j o} h => by
        rcases get_set h with ⟨rfl, _, _⟩ | ⟨_, h⟩
        · exact ⟨_, e2⟩
        · exact ⟨_, h⟩
      obtain ⟨o1, f1⟩ := fix ej
      obtain ⟨o2, f2⟩ := fix ek
      exact r.r.dis j k o1 o2 b f1 f2 e7 e8
    · rcases get_set ej with ⟨rfl, _, _⟩ | ⟨hj, ej⟩
      · rw [e1] at e7
        cases e7
        exact hE
      · exact r.fr j o b ej e7
  | sh d =>
    cases d with
    | loc n =>
      obtain ⟨a, rfl, e1⟩ := VR.loc_.mp (show VR K cad ι F (.loc n) v from q)
      have e : μ[n]? = some ob := e
      obtain ⟨ho, e2, z⟩ := r.r.rs.obj n ob a e e1
      have ha : a ∈ ι := List.mem_of_getElem? e1
      refine ⟨a, ho, rfl, e2, z, fun ob' ho' z' => ?_⟩
      show R0 K cad E F ι (μ.set n ob') ρ σ (upd H a ho')
      have x : Ext F ι H F ι (upd H a ho') := Ext.put e1 fun o u w => z.unl hl o u (Option.some.inj (e2.symm.trans w))
      exact r.ext x (r.r.rs.put e1 z')
    | _ => cases e
end
end DL

namespace DL
open PySem PySem.Spec PyProof.Rows L2
variable [Tbs]

/-! ### xs.append(e), xs.extend(e) -/
def putRes (ρ : Ev) (μ : Store) (o : Op) (ob : Ob) : Res (Fl × Ev) := .ok (.nx, (putOb ρ μ o ob).1) (putOb ρ μ o ob).2
def lstAt (ρ : Ev) (μ : Store) (o : Op) : Option (List D) := match getOb ρ μ o with
  | some (.lst xs) => some xs
  | _ => none
def mApp (rcv a : ME) : MS := fun ρ μ => (rcv ρ μ).bind fun o μ1 => match lstAt ρ μ1 o with
  | none => .stk
  | some _ => (toD a ρ μ1).bind fun d μ2 => match lstAt ρ μ2 o with
    | none => .stk
    | some xs => if xs.length < 16777216 then putRes ρ μ2 o (.lst (xs ++ [d])) else .stk
def mExt (rcv a : ME) : MS := fun ρ μ => (rcv ρ μ).bind fun o μ1 => match lstAt ρ μ1 o with
  | none => .stk
  | some _ => (toD a ρ μ1).bind fun d μ2 => match lstAt ρ μ2 o with
    | none => .stk
    | some xs => match d with
      | .lst ys => if xs.length + ys.length ≤ 16777216 then putRes ρ μ2 o (.lst (xs ++ ys)) else .stk
      | _ => .stk
section
variable {K : PySem.W.Frag} {cad : Str → Addr} {E : Ent} {W : WX} {F F' H H' H0 : Hp} {ι ι' : List Addr} {μ μ' : Store} {ρ : Ev} {σ : L2.St}
theorem lstAt_ob {o : Op} {xs : List D} (h : lstAt ρ μ o = some xs) : getOb ρ μ o = some (.lst xs) := by
  unfold lstAt at h
  split at h
  · next e => cases h; exact e
  · cases h
theorem lstAt_ty (r : R0 K cad E F ι μ ρ σ H) {o : Op} {v : V} {xs : List D} (q : OpV K cad ρ σ H0 F ι H o v) (e : lstAt ρ μ o = some xs) : tyV K "list" v H := by
  obtain ⟨a, ho, rfl, e1, ⟨vs, rfl, _⟩, _⟩ := put_ok r q (lstAt_ob e) rfl
  exact .inl ⟨rfl, vs, SqL.of e1⟩
/-- behind an expression: what a statement asks -/
theorem PostS.bind {α β : Type} {rl : Rl α β} {ro : Res α} {f : α → Store → Res (Fl × Ev)} {D : Ends} {Q : β → Hp → Prop} {F1 : Hp} {ι1 : List Addr} {H1 : Hp} (h : PostS K cad W E F ι (ro.bind f) D) (hx : Ext E.F E.ι E.H F1 ι1 H1)
    (k : ∀ a μ1 F2 ι2 H2 b, ro = .ok a μ1 → Ext F1 ι1 H1 F2 ι2 H2 → RS K cad F2 ι2 μ1 H2 → rl.r H1 F2 ι2 H2 a b → PostS K cad W E F ι (f a μ1) D → Q b H2) : Post K cad W rl F1 ι1 H1 σ ro Q := by
  cases ro with
  | stk => exact h
  | exc x μ1 => exact fun F' ι' H' d y s q => h F' ι' H' σ d (hx.trans y) s q
  | ok a μ1 => exact fun F' ι' H' b y s q => k a μ1 F' ι' H' b rfl y s q h
end
/-- the form of a method's call -/
structure MB (X : Cx) (o : Expr) (name : Str) (apos : Pos) (e : Expr) (es : List Expr) (cpos : Pos) : Prop where
  hbase : attributeBase o name X.env (eval o X.env) = eval o X.env
  hfew : ((backTo cpos (starEach (e :: es) X.env)).all (fun x => !x.1) && (backToKw cpos (keywordEach [] X.env)).all (fun x => x.1.isSome) && decide ((e :: es).length + ([] : List Keyword).length + (if ([] : List Keyword).isEmpty then 0 else 1) < 30)) = true
  hline : (apos.endLine == cpos.line) = true
  hs : starEach (e :: es) X.env = (false, eval e X.env) :: starEach es X.env
  hplain : (backTo cpos (starEach es X.env)).any (·.1) = false
section
variable {X : Cx} {cad : Str → Addr} {W : WX} {E : Ent} {pos apos : Pos} {o e : Expr} {mo me : ME}
theorem ds_app (ho : PE X o (tE X.K cad W mo)) (he : PE X e (tE X.K cad W me)) {p : Pos} (mb : MB X o "append" apos e [] p := by exact ⟨rfl, rfl, rfl, rfl, rfl⟩) (hs : swapsWith (.Call (.Attribute o "append" apos) [e] [] p) none pos.line X.env = pure false := by rfl) :
    PS X (.Expr (.Call (.Attribute o "append" apos) [e] [] p) pos) (tS X.K cad W E (mApp mo me)) := by
  refine ps_imp (ps_expr (pe_bm PySem.F.plainAttrs_list PySem.F.slot_list_append PySem.F.type_list_append mt_append ho (pa_cons (de_toD he) pa_nil mb.hs) mb.hbase mb.hfew mb.hline mb.hs mb.hplain) hs) fun D σ H ⟨F, ι, μ, ρ, r, h⟩ => ?_
  refine ⟨F, ι, μ, ρ, r.r, h.bind r.x fun oo μ1 F1 ι1 H1 v _ x1 s1 q1 h1 => ?_⟩
  have r1 := r.ext x1 s1
  cases c : lstAt ρ μ1 oo with
  | none => rw [c] at h1; exact h1.elim
  | some xs0 =>
    rw [c] at h1
    refine ⟨lstAt_ty r1 q1 c, F1, ι1, μ1, ρ, r1.r, h1.bind r1.x fun d μ2 F2 ι2 H2 v _ x2 s2 q2 h2 => ?_⟩
    have r2 := r1.ext x2 s2
    have q2 : VR X.K cad ι2 F2 d v := q2
    cases c2 : lstAt ρ μ2 oo with
    | none => rw [c2] at h2; exact h2.elim
    | some xs =>
      rw [c2] at h2
      by_cases hl : xs.length < 16777216
      · simp only [if_pos hl] at h2
        obtain ⟨a, ho, rfl, e1, ⟨us, rfl, ru⟩, k⟩ := put_ok r2 (OpV.mono (H1 := H1) x2 q1) (lstAt_ob c2) rfl 
        refine ⟨a, us, v, rfl, rfl, e1, ?_, ?_⟩
        · rw [← ru.len, sizeLine_eq]
          exact hl
        · exact h2 F2 ι2 σ _ (x1.f.trans x2.f) (x1.i.trans x2.i) (k (.lst (xs ++ [d])) _ ⟨_, rfl, ru.app (VRs.cons q2 VRs.nil)⟩)
      · simp only [if_neg hl] at h2
        exact h2.elim
theorem ds_ext (ho : PE X o (tE X.K cad W mo)) (he : PE X e (tE X.K cad W me)) {p : Pos} (mb : MB X o "extend" apos e [] p := by exact ⟨rfl, rfl, rfl, rfl, rfl⟩) (hs : swapsWith (.Call (.Attribute o "extend" apos) [e] [] p) none pos.line X.env = pure false := by rfl) :
    PS X (.Expr (.Call (.Attribute o "extend" apos) [e] [] p) pos) (tS X.K cad W E (mExt mo me)) := by
  refine ps_imp (ps_expr (pe_bm PySem.F.plainAttrs_list PySem.F.slot_list_extend PySem.F.type_list_extend mt_extend ho (pa_cons (de_toD he) pa_nil mb.hs) mb.hbase mb.hfew mb.hline mb.hs mb.hplain) hs) fun D σ H ⟨F, ι, μ, ρ, r, h⟩ => ?_
  refine ⟨F, ι, μ, ρ, r.r, h.bind r.x fun oo μ1 F1 ι1 H1 v _ x1 s1 q1 h1 => ?_⟩
  have r1 := r.ext x1 s1
  cases c : lstAt ρ μ1 oo with
  | none => rw [c] at h1; exact h1.elim
  | some xs0 =>
    rw [c] at h1
    refine ⟨lstAt_ty r1 q1 c, F1, ι1, μ1, ρ, r1.r, h1.bind r1.x fun d μ2 F2 ι2 H2 v _ x2 s2 q2 h2 => ?_⟩
    have r2 := r1.ext x2 s2
    have q2 : VR X.K cad ι2 F2 d v := q2
    cases c2 : lstAt ρ μ2 oo with
    | none => rw [c2] at h2; exact h2.elim
    | some xs =>
      rw [c2] at h2
      cases d with
      | lst ys =>
        by_cases hl : xs.length + ys.length ≤ 16777216
        · simp only [if_pos hl] at h2
          obtain ⟨a, ho, rfl, e1, ⟨us, rfl, ru⟩, k⟩ := put_ok r2 (OpV.mono (H1 := H1) x2 q1) (lstAt_ob c2) rfl
          obtain ⟨b, ws, rfl, e2, rw'⟩ := VR.lst_.mp q2
          refine ⟨a, b, us, ws, rfl, rfl, e1, s2.sub _ _ e2, ?_, ?_⟩
          · rw [← ru.len, ← rw'.len]
            exact line_eq.mpr hl
          · exact h2 F2 ι2 σ _ (x1.f.trans x2.f) (x1.i.trans x2.i) (k (.lst (xs ++ ys)) _ ⟨_, rfl, ru.app rw'⟩)
        · simp only [if_neg hl] at h2
          exact h2.elim
      | _ => exact h2.elim
end

/-! ### o[i] = v -/
def putD {κ : Type} [DecidableEq κ] (kvs : List (κ × D)) (k : κ) (v : D) : List (κ × D) :=
  if (kvs.any fun kv => decide (kv.1 = k)) = true then kvs.map (fun kv => if kv.1 = k then (kv.1, v) else kv) else kvs ++ [(k, v)]
def fSet : Ob → D → D → Option Ob
  | .lst xs, .int k, d => (ixN xs.length k).map fun j => .lst (xs.set j d)
  | .dK kvs, k, d => k.key.bind fun k => if kvs.length < 16777216 then some (.dK (putD kvs k d)) else none
  | .dT kvs, .tup ks, d => (D.keys ks).bind fun k => if kvs.length < 16777216 then some (.dT (putD kvs k d)) else none
  | _, _, _ => none
theorem fSet_unl {ob ob' : Ob} {k d : D} (h : fSet ob k d = some ob') : ob.unl = true := by
  cases ob with
  | lkK _ => cases h
  | lkT _ => cases h
  | dead => rfl
  | dN _ => rfl
  | lst _ => rfl
  | dK _ => rfl
  | dT _ => rfl
  | ins _ _ => rfl
def mSetIt (v o i : ME) : MS := fun ρ μ => (toD v ρ μ).bind fun d μ1 => (o ρ μ1).bind fun oo μ2 => (toD i ρ μ2).bind fun k μ3 => match (getOb ρ μ3 oo).bind fun ob => fSet ob k d with
  | some ob' => putRes ρ μ3 oo ob'
  | none => .stk
section
variable {K : PySem.W.Frag} {cad : Str → Addr} {E : Ent} {W : WX} {F F' H H' H0 : Hp} {ι ι' : List Addr} {μ μ' : Store} {ρ : Ev} {σ : L2.St}
theorem zip_any {κ : Type} [DecidableEq κ] (k : κ) : ∀ {kvs : List (κ × D)} {vs : List V}, VRs K cad ι F (kvs.map (·.2)) vs → (((kvs.map (·.1)).zip vs).any fun kv => decide (kv.1 = k)) = kvs.any fun kv => decide (kv.1 = k)
  | [], _, h => by cases h; rfl
  | (k', d) :: kvs, _, h => by
    obtain ⟨v, vs, rfl, r, t⟩ := h
    rw [List.map_cons, List.zip_cons_cons, List.any_cons, List.any_cons, zip_any k t]
theorem zip_repl {κ : Type} [DecidableEq κ] (k : κ) {d : D} {v : V} (q : VR K cad ι F d v) : ∀ {kvs : List (κ × D)} {vs : List V}, VRs K cad ι F (kvs.map (·.2)) vs → ∃ us, ((kvs.map (·.1)).zip vs).map (fun kv => if kv.1 = k then (kv.1, v) else kv) = ((kvs.map fun kv => if kv.1 = k then (kv.1, d) else kv).map (·.1)).zip us ∧
    VRs K cad ι F ((kvs.map fun kv => if kv.1 = k then (kv.1, d) else kv).map (·.2)) us
  | [], _, h => ⟨[], by cases h; rfl, rfl⟩
  | (k', d') :: kvs, _, h => by
    obtain ⟨v', vs, rfl, r, t⟩ := h
    obtain ⟨us, e, z⟩ := zip_repl k q t
    by_cases c : k' = k
    · refine ⟨v :: us, ?_, ?_⟩
      · simp only [List.map_cons, List.zip_cons_cons, c, if_true, List.cons.injEq, true_and]
        exact e
      · simp only [List.map_cons, c, if_true]
        exact ⟨v, us, rfl, q, z⟩
    · refine ⟨v' :: us, ?_, ?_⟩
      · simp only [List.map_cons, List.zip_cons_cons, c, if_false, List.cons.injEq, true_and]
        exact e
      · simp only [List.map_cons, c, if_false]
        exact ⟨v', us, rfl, r, z⟩
theorem zip_put {κ : Type} [DecidableEq κ] (k : κ) {d : D} {v : V} (q : VR K cad ι F d v) {kvs : List (κ × D)} {vs : List V} (h : VRs K cad ι F (kvs.map (·.2)) vs) : ∃ us, putK ((kvs.map (·.1)).zip vs) k v = ((putD kvs k d).map (·.1)).zip us ∧ VRs K cad ι F ((putD kvs k d).map (·.2)) us := by
  unfold putK putD
  rw [zip_any k h]
  by_cases c : (kvs.any fun kv => decide (kv.1 = k)) = true
  · rw [if_pos c, if_pos c]
    exact zip_repl k q h
  · rw [if_neg c, if_neg c]
    refine ⟨vs ++ [v], ?_, ?_⟩
    · rw [List.map_append, List.zip_append (by have := h.len; rw [List.length_map] at this ⊢; exact this)]
      rfl
    · rw [List.map_append]
      exact h.app ⟨v, [], rfl, q, rfl⟩
theorem zip_len {κ : Type} {kvs : List (κ × D)} {vs : List V} (h : VRs K cad ι F (kvs.map (·.2)) vs) : ((kvs.map (·.1)).zip vs).length = kvs.length := by
  have := h.len
  rw [List.length_map] at this
  rw [List.length_zip, List.length_map, ← this, Nat.min_self]
def rSetD : V → V → V → Hp → (Hp → Prop) → Prop := fun o i v H Q => ∃ a H', o = .ref a ∧ DPut H a i v H' ∧ Q H'
def rSetA : V → V → V → Hp → (Hp → Prop) → Prop := fun o i v H Q => rSetL o i v H Q ∨ rSetD o i v H Q
theorem set_all {X : Cx} (hu : X.A.units + 100 < cLine) : PSet X rSetA := by
  intro pins s σ H o i v ov iv u Q I ro ri rv h
  rcases h with h | ⟨a, H', rfl, g, q⟩
  · exact set_list pins s σ H o i v ov iv u Q I ro ri rv h
  · cases ro
    exact d_setItem (by omega) I g ri rv fun s' I' => ⟨H', I', q⟩
/-- by values: the thing at a changes -/
theorem fSet_ok (rs : RS K cad F ι μ H) {ob ob' : Ob} {k d : D} {vk vd : V} {a : Addr} {ho : HO} (e : fSet ob k d = some ob') (h1 : H a = some ho) (z : OR K cad ι F a ob ho) (qk : VR K cad ι F k vk) (qd : VR K cad ι F d vd) {Q : Hp → Prop} (kk : ∀ ho', OR K cad ι F a ob' ho' → Q (upd H a ho')) : rSetA (.ref a) vk vd H Q := by
  cases ob with
  | lst xs =>
    cases k with
    | int i =>
      have e : (ixN xs.length i).map (fun j => Ob.lst (xs.set j d)) = some ob' := e
      obtain ⟨vs, rfl, r⟩ := z
      cases c : ixN xs.length i with
      | none => simp [c] at e
      | some j =>
        simp [c] at e
        subst e
        exact .inl ⟨a, vs, i, j, rfl, VR.int_.mp qk, h1, by rw [← r.len]; exact c, kk _ ⟨_, rfl, r.set j qd⟩⟩
    | _ => cases e
  | dK kvs =>
    have e : (k.key.bind fun k => if kvs.length < 16777216 then some (Ob.dK (putD kvs k d)) else none) = some ob' := by cases k <;> exact e
    obtain ⟨vs, rfl, r⟩ := z
    cases c : k.key with
    | none => simp [c] at e
    | some k1 =>
      simp only [c, Option.bind_some] at e
      by_cases hl : kvs.length < 16777216
      · rw [if_pos hl] at e
        cases e
        obtain ⟨us, e2, r2⟩ := zip_put k1 qd r
        refine .inr ⟨a, _, rfl, .inl ⟨_, k1, h1, key_VR qk c, by rw [zip_len r, sizeLine_eq]; exact hl, rfl⟩, ?_⟩
        rw [e2]
        exact kk _ ⟨us, rfl, r2⟩
      · rw [if_neg hl] at e
        cases e
  | dT kvs =>
    cases k with
    | tup ks =>
      have e : ((D.keys ks).bind fun k => if kvs.length < 16777216 then some (Ob.dT (putD kvs k d)) else none) = some ob' := e
      obtain ⟨vs, rfl, r⟩ := z
      cases c : D.keys ks with
      | none => simp [c] at e
      | some k1 =>
        simp only [c, Option.bind_some] at e
        by_cases hl : kvs.length < 16777216
        · rw [if_pos hl] at e
          cases e
          obtain ⟨us, e2, r2⟩ := zip_put k1 qd r
          obtain ⟨b, ws, rfl, e3, r3⟩ := VR.tup_.mp qk
          rw [keys_VRs r3 c] at e3
          refine .inr ⟨a, _, rfl, .inr ⟨_, k1, b, h1, rfl, rs.sub _ _ e3, by rw [zip_len r, sizeLine_eq]; exact hl, rfl⟩, ?_⟩
          rw [e2]
          exact kk _ ⟨us, rfl, r2⟩
        · rw [if_neg hl] at e
          cases e
    | _ => cases e
  | ins _ _ => cases e
  | lkK _ => cases e
  | lkT _ => cases e
  | dead => cases e
  | dN _ => cases e
end
section
variable {X : Cx} {cad : Str → Addr} {W : WX} {E : Ent} {pos pos' : Pos} {v o i : Expr} {mv mo mi : ME}
theorem ds_setit (hu : X.A.units + 100 < cLine) (hv : PE X v (tE X.K cad W mv)) (ho : PE X o (tE X.K cad W mo)) (hi : PE X i (tE X.K cad W mi)) (hs : swapsWithSole [.Subscript o i pos'] v pos.line X.env = pure false := by rfl) (hw : swappedStores [.Subscript o i pos'] v X.env = pure none := by rfl)
    (h1 : (assignEach [.Subscript o i pos'] X.env).map (·.2) = [assign (.Subscript o i pos') X.env] := by rfl) (hg : ∀ u, assign (.Subscript o i pos') X.env u = (do
      let ov ← holding [u] (eval o X.env)
      let iv ← holding [u, ov] (eval i X.env)
      standAt pos'
      holding [u, ov, iv] (setItem ov iv u)
      release [u, ov, iv] []) := by intro _; rfl) :
    PS X (.Assign [.Subscript o i pos'] v pos) (tS X.K cad W E (mSetIt mv mo mi)) := by
  refine ps_imp (ps_asg (de_toD hv) (pg_sub ho (de_toD hi) (set_all hu) hg) hs hw h1) fun D σ H ⟨F, ι, μ, ρ, r, h⟩ => ?_
  refine ⟨F, ι, μ, ρ, r.r, h.bind r.x fun d μ1 F1 ι1 H1 vd _ x1 s1 q1 h1 => ?_⟩
  have r1 := r.ext x1 s1
  refine ⟨F1, ι1, μ1, ρ, r1.r, h1.bind r1.x fun oo μ2 F2 ι2 H2 vo _ x2 s2 q2 h2 => ?_⟩
  have r2 := r1.ext x2 s2
  refine ⟨F2, ι2, μ2, ρ, r2.r, h2.bind r2.x fun k μ3 F3 ι3 H3 vk _ x3 s3 q3 h3 => ?_⟩
  have r3 := r2.ext x3 s3
  have q1 : VR X.K cad ι3 F3 d vd := VR.mono (x2.f.trans x3.f) (x2.i.trans x3.i) _ _ q1
  have q3 : VR X.K cad ι3 F3 k vk := q3
  cases c : getOb ρ μ3 oo with
  | none => rw [c] at h3; exact h3.elim
  | some ob =>
    rw [c] at h3
    cases c2 : fSet ob k d with
    | none => simp only [Option.bind_some, c2] at h3; exact h3.elim
    | some ob' =>
      simp only [Option.bind_some, c2] at h3
      obtain ⟨a, ho, rfl, e1, z, kk⟩ := put_ok r3 (OpV.mono (H1 := H1) x3 q2) c (fSet_unl c2)
      exact fSet_ok s3 c2 e1 z q3 q1 fun ho' z' => h3 F3 ι3 σ _ (x1.f.trans (x2.f.trans x3.f)) (x1.i.trans (x2.i.trans x3.i)) (kk ob' ho' z')
end

/-! ### targets -/
def GOk (K : PySem.W.Frag) (cad : Str → Addr) (t : TG) (g : D → Ev → Option Ev) (ws : List Nat) : Prop := ∀ {F : Hp} {ι : List Addr} {μ : Store} {ρ ρ' : Ev} {σ : L2.St} {H : Hp} {d : D} {v : V} {Q : L2.St → Hp → Prop}, R K cad F ι μ ρ σ H → VR K cad ι F d v → g d ρ = some ρ' →
  (∀ σ', R K cad F ι μ ρ' σ' H → σ'.length = σ.length → (∀ j, j ∉ ws → σ'[j]? = σ[j]?) → (∀ (i : Nat) (o : Ob), ρ'[i]? = some (.own o) → ρ[i]? = some (.own o) ∧ σ'[i]? = σ[i]?) → Q σ' H) → t v σ H Q
def gN (i : Nat) : D → Ev → Option Ev := fun d ρ => some (ρ.set i (.sh d))
def setsE : List Nat → List D → Ev → Ev
  | i :: is, d :: ds, ρ => setsE is ds (ρ.set i (.sh d))
  | _, _, ρ => ρ
def gT (is : List Nat) : D → Ev → Option Ev := fun d ρ => match d with
  | .tup ds => if ds.length = is.length then some (setsE is ds ρ) else none
  | _ => none
def gNames : List Nat → TGs
  | [] => gNil
  | i :: is => gCons (gName i) (gNames is)
section
variable {K : PySem.W.Frag} {cad : Str → Addr}
/-- setting one name, over R alone -/
theorem R.set1 {F : Hp} {ι : List Addr} {μ : Store} {ρ : Ev} {σ : L2.St} {H : Hp} (r : R K cad F ι μ ρ σ H) {i : Nat} {d : D} {v : V} (q : VR K cad ι F d v) : R K cad F ι μ (ρ.set i (.sh d)) (σ.set i (some v)) H := by
  refine ⟨r.rs, by rw [List.length_set, List.length_set]; exact r.len, fun j d' e => ?_, fun j o e => ?_, fun j k o o' a e1 e2 e3 e4 => ?_⟩
  · rcases get_set e with ⟨rfl, e', hl⟩ | ⟨hj, e⟩
    · cases e'
      exact ⟨v, List.getElem?_set_self (by rw [r.len]; exact hl), q⟩
    · obtain ⟨v', e1, q'⟩ := r.sh j d' e
      exact ⟨v', by rw [List.getElem?_set_ne (fun z => hj z.symm)]; exact e1, q'⟩
  · rcases get_set e with ⟨_, e', _⟩ | ⟨hj, e⟩
    · cases e'
    · obtain ⟨a, ho, e1, z⟩ := r.own j o e
      exact ⟨a, ho, by rw [List.getElem?_set_ne (fun z => hj z.symm)]; exact e1, z⟩
  · rcases get_set e1 with ⟨_, e', _⟩ | ⟨hj, e1⟩
    · cases e'
    rcases get_set e2 with ⟨_, e', _⟩ | ⟨hk, e2⟩
    · cases e'
    rw [List.getElem?_set_ne (fun z => hj z.symm)] at e3
    rw [List.getElem?_set_ne (fun z => hk z.symm)] at e4
    exact r.dis j k o o' a e1 e2 e3 e4
theorem g_name (i : Nat) : GOk K cad (gName i) (gN i) [i] := by
  intro F ι μ ρ ρ' σ H d v Q r q e k
  cases e
  refine k _ (r.set1 q) (List.length_set ..) (fun j hj => List.getElem?_set_ne (fun z => hj (by simp [z]))) fun j o e => ?_
  rcases get_set e with ⟨_, e', _⟩ | ⟨hj, e⟩
  · cases e'
  · exact ⟨e, List.getElem?_set_ne (fun z => hj z.symm)⟩
theorem gs_names : ∀ (is : List Nat) {F : Hp} {ι : List Addr} {μ : Store} {ρ : Ev} {σ : L2.St} {H : Hp} {ds : List D} {vs : List V} {Q : L2.St → Hp → Prop}, R K cad F ι μ ρ σ H → VRs K cad ι F ds vs → ds.length = is.length →
    (∀ σ', R K cad F ι μ (setsE is ds ρ) σ' H → σ'.length = σ.length → (∀ j, j ∉ is → σ'[j]? = σ[j]?) → (∀ (i : Nat) (o : Ob), (setsE is ds ρ)[i]? = some (.own o) → ρ[i]? = some (.own o) ∧ σ'[i]? = σ[i]?) → Q σ' H) → gNames is vs σ H Q
  | [], F, ι, μ, ρ, σ, H, ds, vs, Q, r, q, hl, k => by
    have : ds = [] := List.eq_nil_of_length_eq_zero hl
    subst this
    exact ⟨VRs.of_nil q, k σ r rfl (fun _ _ => rfl) fun _ _ e => ⟨e, rfl⟩⟩
  | i :: is, F, ι, μ, ρ, σ, H, [], vs, Q, r, q, hl, k => by cases hl
  | i :: is, F, ι, μ, ρ, σ, H, d :: ds, vs, Q, r, q, hl, k => by
    obtain ⟨v, vs, rfl, q1, q2⟩ := q
    refine ⟨v, vs, rfl, ?_⟩
    refine gs_names is (r.set1 (i := i) q1) q2 (by simpa using hl) fun σ' r' h0 h1 h2 => k σ' r' (h0.trans (List.length_set ..)) (fun j hj => ?_) fun j o e => ?_
    · simp only [List.mem_cons, not_or] at hj
      rw [h1 j hj.2]
      exact List.getElem?_set_ne (fun z => hj.1 z.symm)
    · obtain ⟨e1, e2⟩ := h2 j o e
      rcases get_set e1 with ⟨_, e', _⟩ | ⟨hj, e1⟩
      · cases e'
      · exact ⟨e1, e2.trans (List.getElem?_set_ne (fun z => hj z.symm))⟩
theorem g_tup {n : Nat} (is : List Nat) (hn : is.length = n) : GOk K cad (gTup K n (gNames is)) (gT is) is := by
  intro F ι μ ρ ρ' σ H d v Q r q e k
  unfold gT at e
  split at e
  · next ds =>
    split at e
    · next hl =>
      cases e
      obtain ⟨a, vs, rfl, e1, rv⟩ := VR.tup_.mp q
      exact ⟨a, vs, rfl, SqT.sub r.rs e1, by rw [← rv.len, hl, hn], gs_names is r rv hl k⟩
    · cases e
  · cases e
theorem R0.of_g {E : Ent} {F : Hp} {ι : List Addr} {μ : Store} {ρ ρ' : Ev} {σ σ' : L2.St} {H : Hp} (r : R0 K cad E F ι μ ρ σ H) (r' : R K cad F ι μ ρ' σ' H) (h : ∀ (i : Nat) (o : Ob), ρ'[i]? = some (.own o) → ρ[i]? = some (.own o) ∧ σ'[i]? = σ[i]?) : R0 K cad E F ι μ ρ' σ' H :=
  ⟨r', r.x, fun i o a e1 e2 => by
    obtain ⟨e3, e4⟩ := h i o e1
    rw [e4] at e2
    exact r.fr i o a e3 e2⟩
end
end DL

namespace DL
open PySem PySem.Spec PyProof.Rows L2
variable [Tbs]

/-! ### what is walked -/
structure ItR (K : PySem.W.Frag) (cad : Str → Addr) (F : Hp) (ι : List Addr) (J : It) (xs : List D) : Prop where
  go : ∀ {i : Nat} {F1 : Hp} {ι1 : List Addr} {μ1 : Store} {H1 : Hp}, Same F F1 → ι <+: ι1 → RS K cad F1 ι1 μ1 H1 → i < xs.length → J.go i H1
  yl : ∀ {i : Nat} {d : D} {F1 : Hp} {ι1 : List Addr} {μ1 : Store} {H1 : Hp} {x : V} {H2 : Hp}, Same F F1 → ι <+: ι1 → RS K cad F1 ι1 μ1 H1 → xs[i]? = some d → J.yld i H1 x H2 → ∃ F2, Ext F1 ι1 H1 F2 ι1 H2 ∧ RS K cad F2 ι1 μ1 H2 ∧ VR K cad ι1 F2 d x
  st : ∀ {i : Nat} {F1 : Hp} {ι1 : List Addr} {μ1 : Store} {H1 : Hp}, Same F F1 → ι <+: ι1 → RS K cad F1 ι1 μ1 H1 → xs.length ≤ i → J.stop i H1
abbrev MI := Ev → Store → Res (List D)
def rlI (K : PySem.W.Frag) (cad : Str → Addr) : Rl (List D) It := ⟨fun _ F ι _ xs J => ItR K cad F ι J xs, fun _ q => q⟩
def tI (K : PySem.W.Frag) (cad : Str → Addr) (W : WX) (m : MI) : TI := fun σ H Q => ∃ F ι μ ρ, R K cad F ι μ ρ σ H ∧ Post K cad W (rlI K cad) F ι H σ (m ρ μ) Q
theorem pi_imp {X : Cx} {tg e : Expr} {t t' : TI} (h : PI X tg e t) (k : ∀ σ H Q, t' σ H Q → t σ H Q) : PI X tg e t' := ⟨fun pins s σ H Q I q => h.run pins s σ H Q I (k σ H Q q)⟩
theorem pi_or {X : Cx} {tg e : Expr} {t t' : TI} (h : PI X tg e t) (h' : PI X tg e t') : PI X tg e (fun σ H Q => t σ H Q ∨ t' σ H Q) := ⟨fun pins s σ H Q I q => q.elim (h.run pins s σ H Q I) (h'.run pins s σ H Q I)⟩
def keyD : Key → D
  | .inl i => .int i
  | .inr s => .str s
def D.items : D → Option (List D)
  | .lst ds => some ds
  | .tup ds => some ds
  | .scr ns => some (ns.map .int)
  | .dK ks vs => if ks.length = vs.length then some (ks.map keyD) else none
  | .dT ks vs => if ks.length = vs.length then some (ks.map fun k => .tup (k.map keyD)) else none
  | _ => none
def iSeq (m : ME) : MI := fun ρ μ => (toD m ρ μ).bind fun d μ1 => Res.of d.items μ1
section
variable {K : PySem.W.Frag} {cad : Str → Addr} {F F' H H' : Hp} {ι ι' : List Addr} {μ : Store}
theorem VR.keyD {k : Key} : VR K cad ι F (keyD k) (kV k) := by
  cases k with
  | inl i => exact VR.int_.mpr rfl
  | inr s => exact VR.str_.mpr rfl
theorem VRs.keyD : ∀ {k : List Key}, VRs K cad ι F (k.map DL.keyD) (k.map kV)
  | [] => rfl
  | _ :: k => ⟨_, _, rfl, VR.keyD, VRs.keyD (k := k)⟩
theorem it_list {a : Addr} {vs : List V} {ds : List D} (e : F a = some (.lst vs)) (r : VRs K cad ι F ds vs) : ItR K cad F ι (Itl K a) ds := by
  refine ⟨fun {i F1 ι1 μ1 H1} hf hi rs hl => ?_, fun {i d F1 ι1 μ1 H1 x H2} hf hi rs ed y => ?_, fun {i F1 ι1 μ1 H1} hf hi rs hl => ?_⟩
  · obtain ⟨v, ev, _⟩ := r.get (List.getElem?_eq_getElem hl)
    exact ⟨vs, v, SqL.of (rs.sub _ _ (hf _ _ e)), ev⟩
  · obtain ⟨rfl, y⟩ := y
    obtain ⟨v, ev, q⟩ := r.get ed
    have := y vs (SqL.of (rs.sub _ _ (hf _ _ e)))
    rw [ev] at this
    cases this
    exact ⟨F1, Ext.refl _ _ _, rs, VR.mono hf hi _ _ q⟩
  · exact ⟨vs, SqL.of (rs.sub _ _ (hf _ _ e)), by rw [← r.len]; exact hl⟩
theorem it_tup {a : Addr} {vs : List V} {ds : List D} (e : F a = some (.tup vs)) (r : VRs K cad ι F ds vs) : ItR K cad F ι (Itt K a) ds := by
  refine ⟨fun {i F1 ι1 μ1 H1} hf hi rs hl => ?_, fun {i d F1 ι1 μ1 H1 x H2} hf hi rs ed y => ?_, fun {i F1 ι1 μ1 H1} hf hi rs hl => ?_⟩
  · obtain ⟨v, ev, _⟩ := r.get (List.getElem?_eq_getElem hl)
    exact ⟨vs, v, SqT.of (rs.sub _ _ (hf _ _ e)), ev⟩
  · obtain ⟨rfl, y⟩ := y
    obtain ⟨v, ev, q⟩ := r.get ed
    have := y vs (SqT.of (rs.sub _ _ (hf _ _ e)))
    rw [ev] at this
    cases this
    exact ⟨F1, Ext.refl _ _ _, rs, VR.mono hf hi _ _ q⟩
  · exact ⟨vs, SqT.of (rs.sub _ _ (hf _ _ e)), by rw [← r.len]; exact hl⟩
theorem it_scr {a : Addr} {ns : List Int} (e : SqL K F a (ns.map V.int)) : ItR K cad F ι (Itl K a) (ns.map .int) := by
  refine ⟨fun {i F1 ι1 μ1 H1} hf hi rs hl => ?_, fun {i d F1 ι1 μ1 H1 x H2} hf hi rs ed y => ?_, fun {i F1 ι1 μ1 H1} hf hi rs hl => ?_⟩
  · rw [List.length_map] at hl
    exact ⟨_, .int ns[i], rs.sub.seq (hf.seq e), by rw [List.getElem?_map, List.getElem?_eq_getElem hl]; rfl⟩
  · obtain ⟨rfl, y⟩ := y
    have := y _ (rs.sub.seq (hf.seq e))
    rw [List.getElem?_map] at ed this
    cases c : ns[i]? with
    | none => rw [c] at ed; cases ed
    | some n =>
      rw [c] at ed this
      cases ed
      cases this
      exact ⟨F1, Ext.refl _ _ _, rs, VR.int_.mpr rfl⟩
  · rw [List.length_map] at hl
    exact ⟨_, rs.sub.seq (hf.seq e), by rw [List.length_map]; exact hl⟩
/-- a tuple that is tracked may be known to F -/
theorem know_tup (rs : RS K cad F ι μ H) {q : Addr} {vs : List V} (e : H q = some (.tup vs)) : ∃ F2, Ext F ι H F2 ι H ∧ RS K cad F2 ι μ H ∧ F2 q = some (.tup vs) ∧ Same F F2 := by
  cases c : F q with
  | some o =>
    have := rs.sub _ _ c
    rw [e] at this
    cases this
    exact ⟨F, Ext.refl _ _ _, rs, c, Same.refl _⟩
  | none =>
    have hi : q ∉ ι := fun h => by
      obtain ⟨n, hn, e1⟩ := List.getElem_of_mem h
      have hm : n < μ.length := by rw [← rs.len]; exact hn
      obtain ⟨ho, e2, z⟩ := rs.obj n μ[n] q (List.getElem?_eq_getElem hm) (by rw [List.getElem?_eq_getElem hn, e1])
      rw [e] at e2
      cases e2
      exact z.notup
    refine ⟨upd F q (.tup vs), ⟨same_new c, List.prefix_rfl, fun _ _ _ h _ => h, fun _ h => h, fun a h1 h2 => ?_, fun a h1 h2 => absurd h1 h2, fun _ _ _ h => h⟩, rs.freeze e hi c, upd_same, same_new c⟩
    by_cases hq : a = q
    · rw [hq]
      exact ⟨hi, .inr (.inl ⟨vs, e⟩)⟩
    · rw [upd_ne hq] at h2
      exact absurd h1 h2
theorem it_dK {a : Addr} {o : Obj} {ks : List Key} {vs : List V} (e : F a = some (.frz o (.dK (ks.zip vs)))) (hl : ks.length = vs.length) : ItR K cad F ι (Itk a o (ks.zip vs)) (ks.map keyD) := by
  have zl : (ks.zip vs).length = ks.length := by rw [List.length_zip, ← hl, Nat.min_self]
  refine ⟨fun {i F1 ι1 μ1 H1} hf hi rs h => ?_, fun {i d F1 ι1 μ1 H1 x H2} hf hi rs ed y => ?_, fun {i F1 ι1 μ1 H1} hf hi rs h => ?_⟩
  · rw [List.length_map] at h
    exact ⟨rs.sub _ _ (hf _ _ e), by rw [zl]; exact h⟩
  · obtain ⟨rfl, k, v, e1, rfl⟩ := y
    have e2 : ks[i]? = some k := by
      have := congrArg (Option.map Prod.fst) e1
      rw [← List.getElem?_map, List.map_fst_zip (by omega)] at this
      exact this
    rw [List.getElem?_map, e2] at ed
    cases ed
    exact ⟨F1, Ext.refl _ _ _, rs, VR.keyD⟩
  · rw [List.length_map] at h
    exact ⟨rs.sub _ _ (hf _ _ e), by rw [zl]; exact h⟩
theorem it_dT {a : Addr} {o : Obj} {ks : List (List Key)} {vs : List V} (e : F a = some (.frz o (.dT (ks.zip vs)))) (hl : ks.length = vs.length) : ItR K cad F ι (Itkt a o (ks.zip vs)) (ks.map fun k => .tup (k.map keyD)) := by
  have zl : (ks.zip vs).length = ks.length := by rw [List.length_zip, ← hl, Nat.min_self]
  refine ⟨fun {i F1 ι1 μ1 H1} hf hi rs h => ?_, fun {i d F1 ι1 μ1 H1 x H2} hf hi rs ed y => ?_, fun {i F1 ι1 μ1 H1} hf hi rs h => ?_⟩
  · rw [List.length_map] at h
    exact ⟨rs.sub _ _ (hf _ _ e), by rw [zl]; exact h⟩
  · obtain ⟨rfl, k, v, q, e1, rfl, eq⟩ := y
    have e2 : ks[i]? = some k := by
      have := congrArg (Option.map Prod.fst) e1
      rw [← List.getElem?_map, List.map_fst_zip (by omega)] at this
      exact this
    rw [List.getElem?_map, e2] at ed
    cases ed
    obtain ⟨F2, x2, r2, e3, _⟩ := know_tup rs eq
    exact ⟨F2, x2, r2, VR.tup_.mpr ⟨q, _, rfl, e3, VRs.keyD⟩⟩
  · rw [List.length_map] at h
    exact ⟨rs.sub _ _ (hf _ _ e), by rw [zl]; exact h⟩
theorem it_range {lo : Int} {n : Nat} : ItR K cad F ι (Itr lo n) ((List.range n).map fun i : Nat => .int (lo + i)) := by
  refine ⟨fun {i F1 ι1 μ1 H1} hf hi rs h => ?_, fun {i d F1 ι1 μ1 H1 x H2} hf hi rs ed y => ?_, fun {i F1 ι1 μ1 H1} hf hi rs h => ?_⟩
  · rw [List.length_map, List.length_range] at h
    exact h
  · obtain ⟨rfl, rfl⟩ := y
    rw [List.getElem?_map] at ed
    cases c : (List.range n)[i]? with
    | none => rw [c] at ed; cases ed
    | some j =>
      rw [c] at ed
      cases ed
      have : j = i := by
        have h1 := (List.getElem?_eq_some_iff.mp c).1
        rw [List.getElem?_eq_getElem h1, List.getElem_range] at c
        exact (Option.some.inj c).symm
      subst this
      exact ⟨F1, Ext.refl _ _ _, rs, VR.int_.mpr rfl⟩
  · rw [List.length_map, List.length_range] at h
    exact h
/-- enumerate -/
def enumD (ds : List D) : List D := ds.zipIdx.map fun p => .tup [.int (p.2 : Nat), p.1]
theorem it_enum {a : Addr} {vs : List V} {ds : List D} (e : F a = some (.lst vs)) (r : VRs K cad ι F ds vs) : ItR K cad F ι (Ite K a) (enumD ds) := by
  have ln : (enumD ds).length = ds.length := by unfold enumD; rw [List.length_map, List.length_zipIdx]
  refine ⟨fun {i F1 ι1 μ1 H1} hf hi rs hl => ?_, fun {i d F1 ι1 μ1 H1 x H2} hf hi rs ed y => ?_, fun {i F1 ι1 μ1 H1} hf hi rs hl => ?_⟩
  · rw [ln] at hl
    obtain ⟨v, ev, _⟩ := r.get (List.getElem?_eq_getElem hl)
    exact ⟨vs, v, SqL.of (rs.sub _ _ (hf _ _ e)), ev⟩
  · obtain ⟨T, x1, rfl, nT, rfl, y⟩ := y
    have hx := y vs (SqL.of (rs.sub _ _ (hf _ _ e)))
    obtain ⟨d1, e1, q1⟩ := r.got hx
    have ed : ((ds.zipIdx.map fun p => DL.D.tup [.int (p.2 : Nat), p.1]))[i]? = some d := ed
    rw [List.getElem?_map, List.getElem?_zipIdx, e1] at ed
    simp at ed
    subst ed
    refine ⟨_, Ext.newF rs nT, rs.newF nT, VR.tup_.mpr ⟨T, _, rfl, upd_same, ?_⟩⟩
    exact VRs.cons (VR.int_.mpr rfl) (VRs.cons (VR.mono (same_new (rs.fresh nT).1) List.prefix_rfl _ _ (VR.mono hf hi _ _ q1)) VRs.nil)
  · rw [ln] at hl
    exact ⟨vs, SqL.of (rs.sub _ _ (hf _ _ e)), by rw [← r.len]; exact hl⟩
theorem it_rev {a : Addr} {vs : List V} {ds : List D} (e : F a = some (.lst vs)) (r : VRs K cad ι F ds vs) : ItR K cad F ι (Itv K a vs.length) ds.reverse := by
  have ln := r.len
  refine ⟨fun {i F1 ι1 μ1 H1} hf hi rs hl => ?_, fun {i d F1 ι1 μ1 H1 x H2} hf hi rs ed y => ?_, fun {i F1 ι1 μ1 H1} hf hi rs hl => ?_⟩
  · rw [List.length_reverse, ln] at hl
    have : vs.length - 1 - i < vs.length := by omega
    exact ⟨hl, vs, vs[vs.length - 1 - i], SqL.of (rs.sub _ _ (hf _ _ e)), List.getElem?_eq_getElem this⟩
  · obtain ⟨rfl, y⟩ := y
    have hx := y vs (SqL.of (rs.sub _ _ (hf _ _ e)))
    obtain ⟨d1, e1, q1⟩ := r.got hx
    have hl : i < ds.length := by
      have := (List.getElem?_eq_some_iff.mp ed).1
      rwa [List.length_reverse] at this
    rw [List.getElem?_reverse hl, ln, e1] at ed
    cases ed
    exact ⟨F1, Ext.refl _ _ _, rs, VR.mono hf hi _ _ q1⟩
  · rw [List.length_reverse, ln] at hl
    exact hl
end
section
variable {X : Cx} {cad : Str → Addr} {W : WX} {pos p tpos : Pos} {e tg : Expr} {me : ME}
theorem di_seq (he : PE X e (tE X.K cad W me)) : PI X tg e (tI X.K cad W (iSeq me)) := by
  refine pi_imp (pi_or (pi_list (de_toD he)) (pi_or (pi_tup (de_toD he)) (pi_keys (de_toD he)))) fun σ H Q ⟨F, ι, μ, ρ, r, q⟩ => ?_
  unfold iSeq at q
  cases c : toD me ρ μ with
  | stk => rw [c] at q; exact q.elim
  | exc x μ1 => rw [c] at q; exact .inl ⟨F, ι, μ, ρ, r, by rw [c]; exact q⟩
  | ok d μ1 =>
    rw [c] at q
    obtain ⟨xs, ei, k⟩ := Post.of q
    cases d with
    | lst ds =>
      cases ei
      refine .inl ⟨F, ι, μ, ρ, r, ?_⟩
      rw [c]
      intro F1 ι1 H1 v x1 s1 q1
      obtain ⟨a, vs, rfl, e1, rv⟩ := VR.lst_.mp (show VR X.K cad ι1 F1 (.lst xs) v from q1)
      exact ⟨a, rfl, ⟨vs, SqL.of (s1.sub _ _ e1)⟩, k F1 ι1 H1 _ x1 s1 (it_list e1 rv)⟩
    | scr ns =>
      cases ei
      refine .inl ⟨F, ι, μ, ρ, r, ?_⟩
      rw [c]
      intro F1 ι1 H1 v x1 s1 q1
      obtain ⟨a, rfl, e1⟩ := VR.scr_.mp (show VR X.K cad ι1 F1 (.scr ns) v from q1)
      exact ⟨a, rfl, ⟨_, s1.sub.seq e1⟩, k F1 ι1 H1 _ x1 s1 (it_scr e1)⟩
    | tup ds =>
      cases ei
      refine .inr (.inl ⟨F, ι, μ, ρ, r, ?_⟩)
      rw [c]
      intro F1 ι1 H1 v x1 s1 q1
      obtain ⟨a, vs, rfl, e1, rv⟩ := VR.tup_.mp (show VR X.K cad ι1 F1 (.tup xs) v from q1)
      exact ⟨a, rfl, ⟨vs, SqT.of (s1.sub _ _ e1)⟩, k F1 ι1 H1 _ x1 s1 (it_tup e1 rv)⟩
    | dK ks ds =>
      have ei : (if ks.length = ds.length then some (ks.map keyD) else none) = some xs := ei
      by_cases hl : ks.length = ds.length
      · rw [if_pos hl] at ei
        cases ei
        refine .inr (.inr ⟨F, ι, μ, ρ, r, ?_⟩)
        rw [c]
        intro F1 ι1 H1 v x1 s1 q1
        have q1 : VR X.K cad ι1 F1 (.dK ks ds) v := q1
        unfold VR at q1
        obtain ⟨a, o, vs, rfl, e1, l, rv⟩ := q1
        exact ⟨a, o, rfl, .inl ⟨_, s1.sub _ _ e1, k F1 ι1 H1 _ x1 s1 (it_dK e1 l)⟩⟩
      · rw [if_neg hl] at ei
        cases ei
    | dT ks ds =>
      have ei : (if ks.length = ds.length then some (ks.map fun k => .tup (k.map keyD)) else none) = some xs := ei
      by_cases hl : ks.length = ds.length
      · rw [if_pos hl] at ei
        cases ei
        refine .inr (.inr ⟨F, ι, μ, ρ, r, ?_⟩)
        rw [c]
        intro F1 ι1 H1 v x1 s1 q1
        have q1 : VR X.K cad ι1 F1 (.dT ks ds) v := q1
        unfold VR at q1
        obtain ⟨a, o, vs, rfl, e1, l, rv⟩ := q1
        exact ⟨a, o, rfl, .inr ⟨_, s1.sub _ _ e1, k F1 ι1 H1 _ x1 s1 (it_dT e1 l)⟩⟩
      · rw [if_neg hl] at ei
        cases ei
    | _ => cases ei
/-- range(n), range(a, b) -/
def rangeD (lo hi : Int) : Option (List D) := if -4611686018427387904 ≤ lo ∧ lo < 4611686018427387904 ∧ -4611686018427387904 ≤ hi ∧ hi < 4611686018427387904 then some ((List.range (hi - lo).toNat).map fun i : Nat => .int (lo + i)) else none
def iRange1 (m : ME) : MI := fun ρ μ => (toD m ρ μ).bind fun d μ1 => match d with
  | .int n => Res.of (rangeD 0 n) μ1
  | _ => .stk
def iRange2 (a b : ME) : MI := fun ρ μ => (toD a ρ μ).bind fun d μ1 => (toD b ρ μ1).bind fun d' μ2 => match d, d' with
  | .int i, .int j => Res.of (rangeD i j) μ2
  | _, _ => .stk
theorem di_range1 (hg : Gl X "range") (hm : X.mg "range" = none) (he : PE X e (tE X.K cad W me)) (hs : starEach [e] X.env = [(false, eval e X.env)] := by rfl) : PI X tg (.Call (.Name "range" p) [e] [] pos) (tI X.K cad W (iRange1 me)) := by
  refine pi_imp (pi_range1 hg hm (pa_cons (de_toD he) pa_nil (by rw [hs]; rfl)) hs) fun σ H Q ⟨F, ι, μ, ρ, r, q⟩ => ?_
  refine ⟨F, ι, μ, ρ, r, q.bind fun d μ1 F1 ι1 H1 v x1 s1 q1 h1 => ?_⟩
  cases d with
  | int n =>
    obtain ⟨xs, ei, k⟩ := Post.of h1
    unfold rangeD at ei
    split at ei
    · next hb =>
      cases ei
      refine ⟨n, by rw [VR.int_.mp (show VR X.K cad ι1 F1 (.int n) v from q1)], by omega, by omega, ?_⟩
      have := k F1 ι1 H1 _ (Ext.refl _ _ _) s1 (it_range (K := X.K) (cad := cad) (F := F1) (ι := ι1) (lo := 0) (n := (n - 0).toNat))
      rwa [Int.sub_zero] at this
    · cases ei
  | _ => exact h1.elim
theorem di_range2 {e2 : Expr} {m2 : ME} (hg : Gl X "range") (hm : X.mg "range" = none) (he : PE X e (tE X.K cad W me)) (he2 : PE X e2 (tE X.K cad W m2)) (hs : starEach [e, e2] X.env = [(false, eval e X.env), (false, eval e2 X.env)] := by rfl) (hs2 : starEach [e2] X.env = [(false, eval e2 X.env)] := by rfl) :
    PI X tg (.Call (.Name "range" p) [e, e2] [] pos) (tI X.K cad W (iRange2 me m2)) := by
  refine pi_imp (pi_range2 hg hm (pa_cons (de_toD he) (pa_cons (de_toD he2) pa_nil (by rw [hs2]; rfl)) (by rw [hs, hs2])) hs hs2) fun σ H Q ⟨F, ι, μ, ρ, r, q⟩ => ?_
  refine ⟨F, ι, μ, ρ, r, q.bind fun d μ1 F1 ι1 H1 v x1 s1 q1 h1 => ?_⟩
  refine ⟨F1, ι1, μ1, ρ, r.ext x1 s1, h1.bind fun d2 μ2 F2 ι2 H2 v2 x2 s2 q2 h2 => ?_⟩
  cases d with
  | int n =>
    cases d2 with
    | int m =>
      obtain ⟨xs, ei, k⟩ := Post.of h2
      unfold rangeD at ei
      split at ei
      · next hb =>
        cases ei
        refine ⟨n, m, by rw [VR.int_.mp (show VR X.K cad ι1 F1 (.int n) v from q1), VR.int_.mp (show VR X.K cad ι2 F2 (.int m) v2 from q2)], ⟨by omega, by omega, by omega, by omega⟩, ?_⟩
        exact k F2 ι2 H2 _ (Ext.refl _ _ _) s2 it_range
      · cases ei
    | _ => exact h2.elim
  | _ => exact h2.elim
def iEnumD (m : ME) : MI := fun ρ μ => (toD m ρ μ).bind fun d μ1 => match d with
  | .lst ds => .ok (enumD ds) μ1
  | _ => .stk
def iRevD (m : ME) : MI := fun ρ μ => (toD m ρ μ).bind fun d μ1 => match d with
  | .lst ds => .ok ds.reverse μ1
  | _ => .stk
theorem di_enum {elts : List Expr} {kk : Nat} (hg : Gl X "enumerate") (hm : X.mg "enumerate" = none) (he : PE X e (tE X.K cad W me)) (hs : starEach [e] X.env = [(false, eval e X.env)] := by rfl) : PI X (.Tuple elts kk tpos) (.Call (.Name "enumerate" p) [e] [] pos) (tI X.K cad W (iEnumD me)) := by
  refine pi_imp (pi_enum hg hm (pa_cons (de_toD he) pa_nil (by rw [hs]; rfl)) hs) fun σ H Q ⟨F, ι, μ, ρ, r, q⟩ => ?_
  refine ⟨F, ι, μ, ρ, r, q.bind fun d μ1 F1 ι1 H1 v x1 s1 q1 h1 => ?_⟩
  cases d with
  | lst ds =>
    obtain ⟨a, vs, rfl, e1, rv⟩ := VR.lst_.mp (show VR X.K cad ι1 F1 (.lst ds) v from q1)
    exact ⟨a, vs, rfl, SqL.of (s1.sub _ _ e1), h1 F1 ι1 H1 _ (Ext.refl _ _ _) s1 (it_enum e1 rv)⟩
  | _ => exact h1.elim
theorem di_rev (hg : Gl X "reversed") (hm : X.mg "reversed" = none) (he : PE X e (tE X.K cad W me)) (hs : starEach [e] X.env = [(false, eval e X.env)] := by rfl) : PI X tg (.Call (.Name "reversed" p) [e] [] pos) (tI X.K cad W (iRevD me)) := by
  refine pi_imp (pi_reversed hg hm (pa_cons (de_toD he) pa_nil (by rw [hs]; rfl)) hs) fun σ H Q ⟨F, ι, μ, ρ, r, q⟩ => ?_
  refine ⟨F, ι, μ, ρ, r, q.bind fun d μ1 F1 ι1 H1 v x1 s1 q1 h1 => ?_⟩
  cases d with
  | lst ds =>
    obtain ⟨a, vs, rfl, e1, rv⟩ := VR.lst_.mp (show VR X.K cad ι1 F1 (.lst ds) v from q1)
    exact ⟨a, vs, rfl, SqL.of (s1.sub _ _ e1), h1 F1 ι1 H1 _ (Ext.refl _ _ _) s1 (it_rev e1 rv)⟩
  | _ => exact h1.elim
end
end DL

namespace DL
open PySem PySem.Spec PyProof.Rows L2
variable [Tbs]

/-! ### for -/
def loopR (r : Res (Fl × Ev)) (k : MS) : Res (Fl × Ev) := match r with
  | .ok (.nx, ρ2) μ2 => k ρ2 μ2
  | .ok (.ct, ρ2) μ2 => k ρ2 μ2
  | .ok (.bk, ρ2) μ2 => .ok (.nx, ρ2) μ2
  | r => r
def forL (g : D → Ev → Option Ev) (b : MS) : List D → MS
  | [], ρ, μ => .ok (.nx, ρ) μ
  | x :: xs, ρ, μ => match g x ρ with
    | none => .stk
    | some ρ1 => loopR (b ρ1 μ) (forL g b xs)
def mFor (i : MI) (g : D → Ev → Option Ev) (b : MS) : MS := fun ρ μ => (i ρ μ).bind fun xs μ1 => forL g b xs ρ μ1
/-- no wish at all -/
abbrev WT : WX := fun _ _ _ _ => True
section
variable {X : Cx} {cad : Str → Addr} {W : WX} {E : Ent} {pos : Pos} {tg iter : Expr} {body : List Stmt} {mi : MI} {t : TG} {g : D → Ev → Option Ev} {b : MS} {ws : List Nat}
theorem ds_for (hp : PassesOwn (model X.prog X.w) X.A X.env X.xe) (hc : X.calm = true) (hi : PI X tg iter (tI X.K cad W mi)) (hg : PG X tg t) (gk : GOk X.K cad t g ws) (hb : PSs X body (tS X.K cad W E b)) (hs : ∀ x, foldedSetIterable iter X.env x = pure x := by intro _; rfl) :
    PS X (.For tg iter body [] pos) (tS X.K cad W E (mFor mi g b)) := by
  refine ps_imp (ps_for hp hc hi hg hb hs) fun D σ H ⟨F, ι, μ, ρ, r, h⟩ => ?_
  refine ⟨F, ι, μ, ρ, r.r, h.bind r.x fun xs μ1 F1 ι1 H1 J _ x1 s1 q1 h1 => ?_⟩
  have q1 : ItR X.K cad F1 ι1 J xs := q1
  have h1 : PostS X.K cad W E F1 ι1 (forL g b xs ρ μ1) D := PostS.ext x1.f x1.i h1
  let P : Nat → L2.St → Hp → Prop := fun i σ H => ∃ F2 ι2 μ2 ρ2, Same F1 F2 ∧ ι1 <+: ι2 ∧ R0 X.K cad E F2 ι2 μ2 ρ2 σ H ∧ PostS X.K cad W E F1 ι1 (forL g b (xs.drop i) ρ2 μ2) D
  refine ⟨fun i m σ H => i ≤ xs.length ∧ m = xs.length - i ∧ P i σ H, ⟨xs.length, Nat.zero_le _, rfl, F1, ι1, μ1, ρ, Same.refl _, List.prefix_rfl, r.ext x1 s1, h1⟩, ?_⟩
  rintro i m σ2 H2 ⟨hl, rfl, F2, ι2, μ2, ρ2, hf, hi2, r2, h2⟩
  by_cases hlt : i < xs.length
  · refine .inr ⟨q1.go hf hi2 r2.r.rs hlt, P (i + 1), fun σ' H' p => ⟨xs.length - (i + 1), by omega, hlt, rfl, p⟩, fun x H3 y => ?_⟩
    obtain ⟨F3, x3, s3, v3⟩ := q1.yl hf hi2 r2.r.rs (List.getElem?_eq_getElem hlt) y
    have r3 := r2.ext x3 s3
    have ed : xs.drop i = xs[i] :: xs.drop (i + 1) := List.drop_eq_getElem_cons hlt
    rw [ed] at h2
    unfold forL at h2
    unfold loopR at h2
    cases cg : g xs[i] ρ2 with
    | none => rw [cg] at h2; exact h2.elim
    | some ρ4 =>
      rw [cg] at h2
      dsimp only at h2
      refine gk r3.r v3 cg fun σ4 r4 _ _ h4 => ?_
      have r4 := r3.of_g r4 h4
      refine ⟨F3, ι2, μ2, ρ4, r4, ?_⟩
      have hf3 : Same F1 F3 := hf.trans x3.f
      have hi3 : ι1 <+: ι2 := hi2
      cases cb : b ρ4 μ2 with
      | stk => rw [cb] at h2; exact h2
      | exc x μ5 => rw [cb] at h2; exact h2
      | ok p μ5 =>
        rw [cb] at h2
        obtain ⟨f, ρ5⟩ := p
        cases f with
        | nx => exact fun F5 ι5 σ5 H5 a5 b5 r5 => ⟨F5, ι5, μ5, ρ5, hf3.trans a5, hi3.trans b5, r5, h2⟩
        | ct => exact fun F5 ι5 σ5 H5 a5 b5 r5 => ⟨F5, ι5, μ5, ρ5, hf3.trans a5, hi3.trans b5, r5, h2⟩
        | bk => exact fun F5 ι5 σ5 H5 a5 b5 r5 => h2 F5 ι5 σ5 H5 (hf3.trans a5) (hi3.trans b5) r5
        | rt rv => exact h2
  · have e : i = xs.length := by omega
    subst e
    rw [List.drop_length] at h2
    exact .inl ⟨q1.st hf hi2 r2.r.rs (Nat.le_refl _), h2 F2 ι2 σ2 H2 hf hi2 r2⟩
end

/-! ### while -/
def whileL (c : MT) (b : MS) : Nat → MS
  | 0, _, _ => .stk
  | n + 1, ρ, μ => (c ρ μ).bind fun k μ1 => if k = true then loopR (b ρ μ1) (whileL c b n) else .ok (.nx, ρ) μ1
section
variable {X : Cx} {cad : Str → Addr} {W : WX} {E : Ent} {pos : Pos} {c : Expr} {body : List Stmt} {mc : MT} {b : MS} {n : Nat}
theorem ds_while (hp : PassesOwn (model X.prog X.w) X.A X.env X.xe) (hc : PT X c (tT X.K cad W mc)) (hb : PSs X body (tS X.K cad W E b)) : PS X (.While c body [] pos) (tS X.K cad W E (whileL mc b n)) := by
  refine ps_imp (ps_while hp hc hb) fun D σ H ⟨F, ι, μ, ρ, r, h⟩ => ?_
  refine ⟨fun m σ H => ∃ F2 ι2 μ2 ρ2, Same F F2 ∧ ι <+: ι2 ∧ R0 X.K cad E F2 ι2 μ2 ρ2 σ H ∧ PostS X.K cad W E F ι (whileL mc b m ρ2 μ2) D, ⟨n, F, ι, μ, ρ, Same.refl _, List.prefix_rfl, r, h⟩, ?_⟩
  rintro m σ2 H2 ⟨F2, ι2, μ2, ρ2, hf, hi, r2, h2⟩
  cases m with
  | zero => exact h2.elim
  | succ m =>
    unfold whileL at h2
    unfold loopR at h2
    refine ⟨F2, ι2, μ2, ρ2, r2.r, h2.bind r2.x fun k μ3 F3 ι3 H3 k' _ x3 s3 q3 h3 => ?_⟩
    have q3 : k = k' := q3
    subst q3
    have r3 := r2.ext x3 s3
    have hf3 : Same F F3 := hf.trans x3.f
    have hi3 : ι <+: ι3 := hi.trans x3.i
    cases k with
    | false =>
      rw [if_neg Bool.false_ne_true] at h3 ⊢
      exact h3 F3 ι3 σ2 H3 hf3 hi3 r3
    | true =>
      rw [if_pos rfl] at h3 ⊢
      refine ⟨fun σ' H' => ∃ F2 ι2 μ2 ρ2, Same F F2 ∧ ι <+: ι2 ∧ R0 X.K cad E F2 ι2 μ2 ρ2 σ' H' ∧ PostS X.K cad W E F ι (whileL mc b m ρ2 μ2) D, fun σ' H' p => ⟨m, Nat.lt_succ_self _, p⟩, F3, ι3, μ3, ρ2, r3, ?_⟩
      cases cb : b ρ2 μ3 with
      | stk => rw [cb] at h3; exact h3
      | exc x μ5 => rw [cb] at h3; exact h3
      | ok p μ5 =>
        rw [cb] at h3
        obtain ⟨f, ρ5⟩ := p
        cases f with
        | nx => exact fun F5 ι5 σ5 H5 a5 b5 r5 => ⟨F5, ι5, μ5, ρ5, hf3.trans a5, hi3.trans b5, r5, h3⟩
        | ct => exact fun F5 ι5 σ5 H5 a5 b5 r5 => ⟨F5, ι5, μ5, ρ5, hf3.trans a5, hi3.trans b5, r5, h3⟩
        | bk => exact fun F5 ι5 σ5 H5 a5 b5 r5 => h3 F5 ι5 σ5 H5 (hf3.trans a5) (hi3.trans b5) r5
        | rt rv => exact h3
end

/-! ### comprehensions -/
def wipeE (ρ : Ev) : List Nat → Ev
  | [] => ρ
  | v :: vs => (wipeE ρ vs).set v .no
def lcL (g : D → Ev → Option Ev) (t : MT) (e : ME) (ρ : Ev) : List D → Store → List D → Res (List D)
  | [], μ, acc => .ok acc μ
  | x :: xs, μ, acc => match g x ρ with
    | none => .stk
    | some ρ1 => (t ρ1 μ).bind fun c μ1 => if c = true then (toD e ρ1 μ1).bind fun d μ2 => if acc.length < 16777216 then lcL g t e ρ xs μ2 (acc ++ [d]) else .stk else lcL g t e ρ xs μ1 acc
def eLc (i : MI) (g : D → Ev → Option Ev) (ws : List Nat) (t : MT) (e : ME) : ME := fun ρ μ => (i ρ μ).bind fun xs μ1 => (lcL g t e (wipeE ρ ws) xs μ1 []).bind fun ds μ2 => .ok (.own (.lst ds)) μ2
def mYes : MT := fun _ μ => .ok true μ
section
variable {K : PySem.W.Frag} {cad : Str → Addr} {F F' H H' : Hp} {ι ι' : List Addr} {μ : Store} {ρ : Ev} {σ : L2.St}
theorem R.unset {i : Nat} (r : R K cad F ι μ ρ σ H) : R K cad F ι μ (ρ.set i .no) (σ.set i none) H := by
  refine ⟨r.rs, by rw [List.length_set, List.length_set]; exact r.len, fun j d' e => ?_, fun j o e => ?_, fun j k o o' a e1 e2 e3 e4 => ?_⟩
  · rcases get_set e with ⟨_, e', _⟩ | ⟨hj, e⟩
    · cases e'
    · obtain ⟨v', e1, q'⟩ := r.sh j d' e
      exact ⟨v', by rw [List.getElem?_set_ne (fun z => hj z.symm)]; exact e1, q'⟩
  · rcases get_set e with ⟨_, e', _⟩ | ⟨hj, e⟩
    · cases e'
    · obtain ⟨a, ho, e1, z⟩ := r.own j o e
      exact ⟨a, ho, by rw [List.getElem?_set_ne (fun z => hj z.symm)]; exact e1, z⟩
  · rcases get_set e1 with ⟨_, e', _⟩ | ⟨hj, e1⟩
    · cases e'
    rcases get_set e2 with ⟨_, e', _⟩ | ⟨hk, e2⟩
    · cases e'
    rw [List.getElem?_set_ne (fun z => hj z.symm)] at e3
    rw [List.getElem?_set_ne (fun z => hk z.symm)] at e4
    exact r.dis j k o o' a e1 e2 e3 e4
theorem R.wipe (r : R K cad F ι μ ρ σ H) : ∀ ws : List Nat, R K cad F ι μ (wipeE ρ ws) (L2.wipe σ ws) H
  | [] => r
  | w :: ws => (R.wipe r ws).unset
theorem wipe_get {σ : L2.St} : ∀ {ws : List Nat} {j : Nat}, j ∈ ws → j < σ.length → (L2.wipe σ ws)[j]? = some none
  | w :: ws, j, h, hl => by
    unfold L2.wipe
    by_cases e : w = j
    · rw [e]
      exact List.getElem?_set_self (by rw [wipe_length]; exact hl)
    · rw [List.getElem?_set_ne e]
      rcases List.mem_cons.mp h with z | z
      · exact absurd z.symm e
      · exact wipe_get z hl
theorem wipe_same {σ σ' : L2.St} {ws : List Nat} (hl : σ'.length = σ.length) (h : ∀ j, j ∉ ws → σ'[j]? = (L2.wipe σ ws)[j]?) : L2.wipe σ' ws = L2.wipe σ ws := by
  refine List.ext_getElem? fun j => ?_
  by_cases hj : j ∈ ws
  · by_cases hlt : j < σ.length
    · rw [wipe_get hj hlt, wipe_get hj (by rw [hl]; exact hlt)]
    · rw [List.getElem?_eq_none (by rw [wipe_length]; omega), List.getElem?_eq_none (by rw [wipe_length]; omega)]
  · rw [wipe_out hj, h j hj]
end
section
variable {X : Cx} {cad : Str → Addr} {W : WX} {E : Ent} {pos : Pos} {elt tg iter : Expr} {ifs : List Expr} {scope : Scope} {own : List (Str × Nat)} {mi : MI} {t : TG} {g : D → Ev → Option Ev} {mt : MT} {me : ME}
theorem eLc_ok {K : PySem.W.Frag} (gk : GOk K cad t g (own.map (·.2))) {σ : L2.St} {H : Hp} {Q : VK} (h : tE K cad W (eLc mi g (own.map (·.2)) mt me) σ H Q) : tLc (tI K cad W mi) t (tT K cad WT mt) (tD K cad WT (toD me)) (own.map (·.2)) σ H Q := by
  generalize own.map (·.2) = ws at gk h ⊢
  obtain ⟨F, ι, μ, ρ, r, h⟩ := h
  refine ⟨F, ι, μ, ρ, r, h.bind fun xs μ1 F1 ι1 H1 J x1 s1 q1 h1 => ?_⟩
  have q1 : ItR K cad F1 ι1 J xs := q1
  have rw1 := (r.ext x1 s1).wipe ws
  intro D hD
  let P : Nat → Hp → Prop := fun i H => ∃ F2 ι2 μ2 acc vs, Ext F1 ι1 H1 F2 ι2 H ∧ RS K cad F2 ι2 μ2 H ∧ H D = some (.lst vs) ∧ F2 D = none ∧ D ∉ ι2 ∧ VRs K cad ι2 F2 acc vs ∧
    Post K cad W (rlE K cad ρ σ) F1 ι1 H1 σ ((lcL g mt me (wipeE ρ ws) (xs.drop i) μ2 acc).bind fun ds μ3 => .ok (.own (.lst ds)) μ3) Q
  have hx0 : Ext F1 ι1 H1 F1 ι1 (upd H1 D (.lst [])) := Ext.newH hD
  refine ⟨fun i m H => i ≤ xs.length ∧ m = xs.length - i ∧ P i H, ⟨xs.length, Nat.zero_le _, rfl, F1, ι1, μ1, [], [], hx0, s1.newH hD, upd_same, (s1.fresh hD).1, (s1.fresh hD).2, rfl, h1⟩, ?_⟩
  rintro i m H2 ⟨hl, rfl, F2, ι2, μ2, acc, vs, x2, s2, e2, f2, n2, rv, h2⟩
  have hDne : H2 D ≠ none := by rw [e2]; intro z; cases z
  by_cases hlt : i < xs.length
  · refine .inr ⟨q1.go x2.f x2.i s2 hlt, P (i + 1), fun H' p => ⟨xs.length - (i + 1), by omega, hlt, rfl, p⟩, fun x H3 y => ?_⟩
    obtain ⟨F3, x3, s3, v3⟩ := q1.yl x2.f x2.i s2 (List.getElem?_eq_getElem hlt) y
    have orl : OR K cad ι2 F2 D (.lst acc) (.lst vs) := ⟨vs, rfl, rv⟩
    have x13 := x2.trans x3
    have e3 := x3.kept D _ n2 e2 (by intro _ z; cases z)
    have f3 := x3.apart f2 e2 orl
    have ed : xs.drop i = xs[i] :: xs.drop (i + 1) := List.drop_eq_getElem_cons hlt
    rw [ed] at h2
    unfold lcL at h2
    cases cg : g xs[i] (wipeE ρ ws) with
    | none => rw [cg] at h2; exact h2.elim
    | some ρ4 =>
      rw [cg] at h2
      dsimp only at h2
      refine gk (rw1.ext x13 s3) v3 cg fun σ4 r4 l4 g4 _ => ?_
      refine ⟨wipe_same (by rw [l4, wipe_length]) g4, F3, ι2, μ2, ρ4, r4, ?_⟩
      cases ct : mt ρ4 μ2 with
      | stk => rw [ct] at h2; exact h2
      | exc x μ5 => exact fun _ _ _ _ _ _ _ => trivial
      | ok c μ5 =>
        rw [ct] at h2
        intro F5 ι5 H5 c' x5 s5 q5
        have q5 : c = c' := q5
        subst q5
        have n3 : D ∉ ι2 := n2
        have orl3 : OR K cad ι2 F3 D (.lst acc) (.lst vs) := orl.mono x3.f List.prefix_rfl
        have e5 := x5.kept D _ n3 e3 (by intro _ z; cases z)
        have f5 := x5.apart f3 e3 orl3
        have n5 : D ∉ ι5 := fun z => by have := x5.ni D z n3; rw [e3] at this; cases this
        have orl5 : OR K cad ι5 F5 D (.lst acc) (.lst vs) := orl3.mono x5.f x5.i
        have x15 := x13.trans x5
        cases c with
        | false =>
          rw [if_neg Bool.false_ne_true]
          obtain ⟨_, ev, rv5⟩ := orl5
          cases ev
          exact ⟨F5, ι5, μ5, acc, vs, x15, s5, e5, f5, n5, rv5, h2⟩
        | true =>
          rw [if_pos rfl]
          refine ⟨F5, ι5, μ5, ρ4, r4.ext x5 s5, ?_⟩
          have h2 : Post K cad W (rlE K cad ρ σ) F1 ι1 H1 σ (((toD me ρ4 μ5).bind fun d μ2 => if acc.length < 16777216 then lcL g mt me (wipeE ρ ws) (xs.drop (i + 1)) μ2 (acc ++ [d]) else .stk).bind fun ds μ3 => .ok (.own (.lst ds)) μ3) Q := h2
          cases cd : toD me ρ4 μ5 with
          | stk => rw [cd] at h2; exact h2
          | exc x μ6 => exact fun _ _ _ _ _ _ _ => trivial
          | ok d μ6 =>
            rw [cd] at h2
            intro F6 ι6 H6 v x6 s6 q6
            have q6 : VR K cad ι6 F6 d v := q6
            have e6 := x6.kept D _ n5 e5 (by intro _ z; cases z)
            have f6 := x6.apart f5 e5 orl5
            have n6 : D ∉ ι6 := fun z => by have := x6.ni D z n5; rw [e5] at this; cases this
            obtain ⟨_, ev, rv6⟩ := orl5.mono x6.f x6.i
            cases ev
            have h2 : Post K cad W (rlE K cad ρ σ) F1 ι1 H1 σ ((if acc.length < 16777216 then lcL g mt me (wipeE ρ ws) (xs.drop (i + 1)) μ6 (acc ++ [d]) else .stk).bind fun ds μ3 => .ok (.own (.lst ds)) μ3) Q := h2
            by_cases hz : acc.length < 16777216
            · rw [if_pos hz] at h2
              refine ⟨vs, e6, by rw [← rv6.len, sizeLine_eq]; exact hz, F6, ι6, μ6, acc ++ [d], vs ++ [v], (x15.trans x6).upd_of (fun _ => hD) (fun o u z => by rw [hD] at z; cases z), ?_, upd_same, f6, n6, rv6.app (VRs.cons q6 VRs.nil), h2⟩
              refine s6.grow (Same.refl _) (fun b o' z => ?_) (fun b hb o' z => ?_) s6.sep (s6.tb.put e6 (by intro _ z; cases z) (by intro _ _ z; cases z)) s6.ft
              · rw [upd_ne (fun w => by rw [w, f6] at z; cases z)]
                exact s6.sub b o' z
              · rw [upd_ne (show b ≠ D from fun w => n6 (w ▸ hb))]
                exact z
            · rw [if_neg hz] at h2
              exact h2.elim
  · have e : i = xs.length := by omega
    subst e
    rw [List.drop_length] at h2
    refine .inl ⟨q1.st x2.f x2.i s2 (Nat.le_refl _), ?_⟩
    exact h2 F2 ι2 H2 (.ref D) x2 s2 ⟨D, .lst vs, rfl, f2, n2, hD, e2, vs, rfl, rv⟩
theorem de_lc (hc : X.calm = true) (hN : X.N.Nodup) (hi : PI X tg iter (tI X.K cad W mi)) (ok : BlkOk X.N X.env.scope scope own)
    (hg : ∀ (s : Shared) (H : Hp) (C : Addr) (cl : List (Str × Addr)) (fp : List Addr), PG (X.blk s H scope (compEnvC scope cl C X.env) fp) tg t) (gk : GOk X.K cad t g (own.map (·.2)))
    (ht : ∀ (s : Shared) (H : Hp) (C : Addr) (cl : List (Str × Addr)) (fp : List Addr), PTs (X.blk s H scope (compEnvC scope cl C X.env) fp) ifs (tT X.K cad WT mt))
    (he : ∀ (s : Shared) (H : Hp) (C : Addr) (cl : List (Str × Addr)) (fp : List Addr), PE (X.blk s H scope (compEnvC scope cl C X.env) fp) elt (tE X.K cad WT me)) (hs : ∀ x, foldedSetIterable iter X.env x = pure x := by intro _; rfl) :
    PE X (.ListComp elt [⟨tg, iter, ifs, 0⟩] scope pos) (tE X.K cad W (eLc mi g (own.map (·.2)) mt me)) :=
  pe_imp (pe_lc hc hN hi ok hg ht (fun s H C cl fp => de_toD (he s H C cl fp)) hs) fun σ H Q h => eLc_ok gk h
theorem dts_nil {Y : Cx} : PTs Y [] (tT Y.K cad W mYes) := ⟨fun pins s σ H Q I h => pts_nil.run pins s σ H Q I (by
  obtain ⟨F, ι, μ, ρ, r, q⟩ := h
  exact q F ι H true (Ext.refl _ _ _) r.rs rfl)⟩
/-- y = [..] on one line -/
theorem ds_setLc (i : Nat) {y : Str} {py spos : Pos} (hc : X.calm = true) (hN : X.N.Nodup) (hyl : X.env.scope.names.lookup y = some .local) (hsw : swapsWith (.ListComp elt [⟨tg, iter, ifs, 0⟩] scope pos) (some (.Name y py)) spos.line X.env = pure true)
    (hi : PI X tg iter (tI X.K cad W mi)) (ok : BlkOk X.N X.env.scope scope own)
    (hg : ∀ (s : Shared) (H : Hp) (C : Addr) (cl : List (Str × Addr)) (fp : List Addr), PG (X.blk s H scope (compEnvC scope cl C X.env) fp) tg t) (gk : GOk X.K cad t g (own.map (·.2)))
    (ht : ∀ (s : Shared) (H : Hp) (C : Addr) (cl : List (Str × Addr)) (fp : List Addr), PTs (X.blk s H scope (compEnvC scope cl C X.env) fp) ifs (tT X.K cad WT mt))
    (he : ∀ (s : Shared) (H : Hp) (C : Addr) (cl : List (Str × Addr)) (fp : List Addr), PE (X.blk s H scope (compEnvC scope cl C X.env) fp) elt (tE X.K cad WT me)) (hy : X.N[i]? = some y := by rfl) (hs : ∀ x, foldedSetIterable iter X.env x = pure x := by intro _; rfl) :
    PS X (.Assign [.Name y py] (.ListComp elt [⟨tg, iter, ifs, 0⟩] scope pos) spos) (tS X.K cad W E (mSet i (eLc mi g (own.map (·.2)) mt me))) := by
  refine ps_imp (ps_setLc (i := i) hc hN hy hyl hsw hi ok hg ht (te := tD X.K cad WT (toD me)) (fun s H C cl fp => de_toD (he s H C cl fp)) hs) fun D σ H h => ?_
  have h := mSet_ok h
  obtain ⟨F, ι, μ, ρ, r, q⟩ := h
  exact eLc_ok gk ⟨F, ι, μ, ρ, r, q.toD⟩
theorem ds_ownLc (i : Nat) {y : Str} {py spos : Pos} (hc : X.calm = true) (hN : X.N.Nodup) (hyl : X.env.scope.names.lookup y = some .local) (hsw : swapsWith (.ListComp elt [⟨tg, iter, ifs, 0⟩] scope pos) (some (.Name y py)) spos.line X.env = pure true)
    (hi : PI X tg iter (tI X.K cad W mi)) (ok : BlkOk X.N X.env.scope scope own)
    (hg : ∀ (s : Shared) (H : Hp) (C : Addr) (cl : List (Str × Addr)) (fp : List Addr), PG (X.blk s H scope (compEnvC scope cl C X.env) fp) tg t) (gk : GOk X.K cad t g (own.map (·.2)))
    (ht : ∀ (s : Shared) (H : Hp) (C : Addr) (cl : List (Str × Addr)) (fp : List Addr), PTs (X.blk s H scope (compEnvC scope cl C X.env) fp) ifs (tT X.K cad WT mt))
    (he : ∀ (s : Shared) (H : Hp) (C : Addr) (cl : List (Str × Addr)) (fp : List Addr), PE (X.blk s H scope (compEnvC scope cl C X.env) fp) elt (tE X.K cad WT me)) (hy : X.N[i]? = some y := by rfl) (hs : ∀ x, foldedSetIterable iter X.env x = pure x := by intro _; rfl) :
    PS X (.Assign [.Name y py] (.ListComp elt [⟨tg, iter, ifs, 0⟩] scope pos) spos) (tS X.K cad W E (mOwn i (eLc mi g (own.map (·.2)) mt me))) := by
  refine ps_imp (ps_setLc (i := i) hc hN hy hyl hsw hi ok hg ht (te := tD X.K cad WT (toD me)) (fun s H C cl fp => de_toD (he s H C cl fp)) hs) fun D σ H h => ?_
  exact eLc_ok gk (mOwn_ok h)
end
/-! ### defs -/
def startE (n : Nat) (ds : List D) : Ev := ds.map .sh ++ List.replicate (n - ds.length) .no
/-- a def by its body: n names, p parameters -/
def endR (r : Res (Fl × Ev)) : Res Rv := match r with
  | .ok (.rt rv, _) μ' => .ok rv μ'
  | .ok (.nx, _) μ' => .ok (.sh .non) μ'
  | .ok _ _ => .stk
  | .exc x μ' => .exc x μ'
  | .stk => .stk
def runB (n p : Nat) (b : MS) : List D → Store → Res Rv := fun ds μ => if ds.length = p then endR (b (startE n ds) μ) else .stk
/-- no exception may leave it -/
def noXR (r : Res Rv) : Res Rv := match r with
  | .exc _ _ => .stk
  | r => r
def noX (m : List D → Store → Res Rv) : List D → Store → Res Rv := fun ds μ => noXR (m ds μ)
def rlR (K : PySem.W.Frag) (cad : Str → Addr) : Rl Rv V := ⟨fun H0 F ι H r v => RvR K cad H0 F ι H r v, fun {H H1 F ι H' a b} h q => (rlE K cad [] []).mono h q⟩
def spM (K : PySem.W.Frag) (cad : Str → Addr) (p : Nat) (m : List D → Store → Res Rv) : Sp := fun vs H Q E => ∃ F ι μ ds, RS K cad F ι μ H ∧ VRs K cad ι F ds vs ∧ ds.length = p ∧ Post K cad (fun c d _ H => E c d H) (rlR K cad) F ι H [] (m ds μ) Q
section
variable {P : Program} {w : World} {K : PySem.W.Frag} {mg : Str → Option Value} {base : Heap} {cad : Str → Addr}
theorem start_R {F H : Hp} {ι : List Addr} {μ : Store} {ds : List D} {vs : List V} {N : List Str} (rs : RS K cad F ι μ H) (q : VRs K cad ι F ds vs) : R K cad F ι μ (startE N.length ds) (start N vs) H := by
  have hl := q.len
  have get : ∀ (i : Nat) (s : Sl), (startE N.length ds)[i]? = some s → (∃ d, ds[i]? = some d ∧ s = .sh d) ∨ s = .no := fun i s e => by
    unfold startE at e
    by_cases hi : i < (ds.map Sl.sh).length
    · rw [List.getElem?_append_left hi, List.getElem?_map] at e
      cases c : ds[i]? with
      | none => rw [c] at e; cases e
      | some d => rw [c] at e; cases e; exact .inl ⟨d, rfl, rfl⟩
    · rw [List.getElem?_append_right (by omega)] at e
      have := List.mem_of_getElem? e
      exact .inr (List.eq_of_mem_replicate this)
  refine ⟨rs, ?_, fun i d e => ?_, fun i o e => ?_, fun i j o o' a e1 => ?_⟩
  · unfold L2.start startE
    rw [List.length_append, List.length_append, List.length_map, List.length_map, List.length_replicate, List.length_replicate, hl]
  · rcases get i _ e with ⟨d', e1, e2⟩ | e1
    · cases e2
      obtain ⟨v, e3, q3⟩ := q.get e1
      refine ⟨v, ?_, q3⟩
      unfold L2.start
      have hi : i < vs.length := (List.getElem?_eq_some_iff.mp e3).1
      rw [List.getElem?_append_left (by rw [List.length_map]; exact hi), List.getElem?_map, e3]
      rfl
    · cases e1
  · rcases get i _ e with ⟨d', e1, e2⟩ | e1
    · cases e2
    · cases e1
  · rcases get i _ e1 with ⟨d', e3, e2⟩ | e3
    · cases e2
    · cases e3
/-- a wish that does not look at the slots -/
abbrev WK (E : XK) : WX := fun c d _ H => E c d H
/-- cdv is the code of the def at f -/
def CodeAt (K : PySem.W.Frag) (f : Addr) (cdv : Value) : Prop := ∃ (oc : Value) (od : Option Addr) (fd : FuncData) (osl : Array (Option Value)), K.lookup f = some ⟨oc, od, .func fd, osl⟩ ∧ fd.code = cdv ∧ ∃ q, PySem.W.codeIn K cdv q = true
/-- THE RULE for a def -/
theorem fnX {x qual : Str} {st : Stmt} {f : Addr} {fd : FuncData} {N ps : List Str} {k : Nat} {b : MS} (F : Fun K x qual st f fd) (S : FnScope N ps (defScope st))
    (hb : ∀ (cdv : Value) (A : Around) (outer : List Env) (s : Shared) (H : Hp) (E : XK) (E0 : Ent), CodeAt K f cdv → Room k (A.deeper (envOfC qual (defScope st) s.heap.objs.size f cdv)) → Takes (cxOf (L2.CX P w) P w K mg base N qual (defScope st) f cdv A outer s H E) (WK E) →
      PassesOwn (model P w) (A.deeper (envOfC qual (defScope st) s.heap.objs.size f cdv)) (envOfC qual (defScope st) s.heap.objs.size f cdv) (cxOf (L2.CX P w) P w K mg base N qual (defScope st) f cdv A outer s H E).xe → PSs (cxOf (L2.CX P w) P w K mg base N qual (defScope st) f cdv A outer s H E) (defBody st) (tS K cad (WK E) E0 b)) :
    FnOk P w K mg base (L2.CX P w) (k + 1) f fd ps (spM K cad ps.length (runB N.length ps.length b)) := by
  obtain ⟨oc, od, kV, doc, pm, an, cdv, ct, osl, rfl, lk, hcd⟩ := F.ex
  refine fn_of lk hcd S (fun vs H Q E h => ?_) (fun A outer s H vs Q E hr h => ?_)
  · obtain ⟨F, ι, μ, ds, rs, q, hl, _⟩ := h
    rw [← q.len, hl]
  · obtain ⟨F, ι, μ, ds, rs, q, hl, h⟩ := h
    refine ⟨_, hb cdv A outer s H E ⟨F, ι, H⟩ ⟨oc, od, _, osl, lk, rfl, _, hcd⟩ hr (takes_of rfl rfl rfl rfl) (passes_of (X := cxOf (L2.CX P w) P w K mg base N qual (defScope st) f cdv A outer s H E) rfl), F, ι, μ, startE N.length ds, ⟨start_R rs q, Ext.refl _ _ _, fun i o a e => ?_⟩, ?_⟩
    · have := (start_R (N := N) rs q).own i o e
      obtain ⟨a', ho, e1, e2, e3, e4, _⟩ := this
      exfalso
      unfold startE at e
      by_cases hi : i < (ds.map Sl.sh).length
      · rw [List.getElem?_append_left hi, List.getElem?_map] at e
        cases c : ds[i]? with
        | none => rw [c] at e; cases e
        | some d => rw [c] at e; cases e
      · rw [List.getElem?_append_right (by omega)] at e
        cases List.eq_of_mem_replicate (List.mem_of_getElem? e)
    · unfold runB at h
      rw [if_pos hl] at h
      unfold endR at h
      cases c : b (startE N.length ds) μ with
      | stk => rw [c] at h; exact h
      | exc y μ1 => rw [c] at h; exact fun F' ι' H' σ' d x' s' q' => h F' ι' H' d x' s' q'
      | ok p μ1 =>
        rw [c] at h
        obtain ⟨fl, ρ1⟩ := p
        cases fl with
        | nx => exact fun F' ι' σ' H' _ _ r' => h F' ι' H' .non r'.x r'.r.rs (VR.non_.mpr rfl : VR K cad ι' F' .non .non)
        | bk => exact h.elim
        | ct => exact h.elim
        | rt rv => exact fun F' ι' H' v x' s' q' => h F' ι' H' v x' s' q'
end
/-! ### calls of defs -/
def eCall (m : List D → Store → Res Rv) (as : MA) : ME := fun ρ μ => (as ρ μ).bind fun ds μ1 => (m ds μ1).bind fun rv μ2 => .ok rv.op μ2
section
variable {X : Cx} {cad : Str → Addr} {W : WX} {pos p : Pos} {e : Expr} {es : List Expr} {k n : Nat} {f : Addr} {fd : FuncData} {ps : List Str} {m : List D → Store → Res Rv} {x : Str} {as : MA}
theorem noX_exc {ds : List D} {μ : Store} {y : Xc} {μ' : Store} (h : noX m ds μ = .exc y μ') : False := by
  unfold noX noXR at h
  cases c : m ds μ with
  | stk => rw [c] at h; cases h
  | exc _ _ => rw [c] at h; cases h
  | ok _ _ => rw [c] at h; cases h
theorem noX_ok {ds : List D} {μ : Store} {rv : Rv} {μ' : Store} (h : noX m ds μ = .ok rv μ') : m ds μ = .ok rv μ' := by
  unfold noX noXR at h
  cases c : m ds μ with
  | stk => rw [c] at h; cases h
  | exc _ _ => rw [c] at h; cases h
  | ok _ _ => rw [c] at h; exact h
theorem noX_stk {ds : List D} {μ : Store} (h : ∀ rv μ', m ds μ ≠ .ok rv μ') : noX m ds μ = .stk := by
  unfold noX noXR
  cases c : m ds μ with
  | stk => rfl
  | exc _ _ => rfl
  | ok _ _ => exact (h _ _ c).elim
/-- nothing leaves -/
theorem passN {X : Cx} : Passes (L2.CX X.prog X.w) X E0 := fun _ _ _ _ _ _ _ h => by
  obtain ⟨_, _, _, _, _, _, _, _, _, _, _, _, z⟩ := h
  exact z.elim
theorem eCall_ok {K : PySem.W.Frag} {E : XK} {σ : L2.St} {H : Hp} {Q : VK} (hn : n = ps.length) (h : tE K cad (WK E) (eCall m as) σ H Q) (hl : ∀ ρ μ ds μ1, as ρ μ = .ok ds μ1 → ds.length = n) : tCall (spM K cad n m) [] E (tDs K cad (WK E) as) σ H Q := by
  obtain ⟨F, ι, μ, ρ, r, h⟩ := h
  refine ⟨F, ι, μ, ρ, r, ?_⟩
  unfold eCall at h
  cases c : as ρ μ with
  | stk => rw [c] at h; exact h
  | exc y μ1 => rw [c] at h; exact h
  | ok ds μ1 =>
    rw [c] at h
    intro F1 ι1 H1 vs x1 s1 q1
    have q1 : VRs K cad ι1 F1 ds vs := q1
    refine ⟨F1, ι1, μ1, ds, s1, by rw [List.append_nil]; exact q1, hl ρ μ ds μ1 c, ?_⟩
    have h : Post K cad (WK E) (rlE K cad ρ σ) F ι H σ ((m ds μ1).bind fun rv μ2 => .ok rv.op μ2) Q := h
    cases cm : m ds μ1 with
    | stk => rw [cm] at h; exact h
    | exc y μ2 => rw [cm] at h; exact fun F2 ι2 H2 d x2 s2 q2 => h F2 ι2 H2 d (x1.trans x2) s2 q2
    | ok rv μ2 =>
      rw [cm] at h
      intro F2 ι2 H2 v x2 s2 q2
      refine h F2 ι2 H2 v (x1.trans x2) s2 ?_
      exact (rlE K cad ρ σ).mono x1.dom (RvR.op q2)
theorem eCall_okN {K : PySem.W.Frag} {σ : L2.St} {H : Hp} {Q : VK} (hn : n = ps.length) (h : tE K cad W (eCall (noX m) as) σ H Q) (hl : ∀ ρ μ ds μ1, as ρ μ = .ok ds μ1 → ds.length = n) : tCall (spM K cad n m) [] E0 (tDs K cad W as) σ H Q := by
  obtain ⟨F, ι, μ, ρ, r, h⟩ := h
  refine ⟨F, ι, μ, ρ, r, ?_⟩
  unfold eCall at h
  cases c : as ρ μ with
  | stk => rw [c] at h; exact h
  | exc y μ1 => rw [c] at h; exact h
  | ok ds μ1 =>
    rw [c] at h
    intro F1 ι1 H1 vs x1 s1 q1
    have q1 : VRs K cad ι1 F1 ds vs := q1
    refine ⟨F1, ι1, μ1, ds, s1, by rw [List.append_nil]; exact q1, hl ρ μ ds μ1 c, ?_⟩
    have h : Post K cad W (rlE K cad ρ σ) F ι H σ ((noX m ds μ1).bind fun rv μ2 => .ok rv.op μ2) Q := h
    cases cm : m ds μ1 with
    | stk => rw [noX_stk (by rw [cm]; intro _ _ z; cases z)] at h; exact h.elim
    | exc y μ2 => rw [noX_stk (by rw [cm]; intro _ _ z; cases z)] at h; exact h.elim
    | ok rv μ2 =>
      have cn : noX m ds μ1 = .ok rv μ2 := by unfold noX noXR; rw [cm]
      rw [cn] at h
      intro F2 ι2 H2 v x2 s2 q2
      refine h F2 ι2 H2 v (x1.trans x2) s2 ?_
      exact (rlE K cad ρ σ).mono x1.dom (RvR.op q2)
theorem aLen0 : ∀ (ρ : Ev) (μ : Store) (ds : List D) (μ1 : Store), aNil ρ μ = .ok ds μ1 → ds.length = 0 := fun ρ μ ds μ1 h => by cases h; rfl
theorem aLenS {m : ME} {as : MA} {n : Nat} (h : ∀ (ρ : Ev) (μ : Store) (ds : List D) (μ1 : Store), as ρ μ = .ok ds μ1 → ds.length = n) : ∀ (ρ : Ev) (μ : Store) (ds : List D) (μ1 : Store), aCons m as ρ μ = .ok ds μ1 → ds.length = n + 1 := fun ρ μ ds μ1 e => by
  unfold aCons at e
  cases c : toD m ρ μ with
  | stk => rw [c] at e; cases e
  | exc _ _ => rw [c] at e; cases e
  | ok d μ2 =>
    rw [c] at e
    cases c2 : as ρ μ2 with
    | stk => simp only [Res.bind_ok, c2, Res.bind_stk] at e; cases e
    | exc _ _ => simp only [Res.bind_ok, c2, Res.bind_exc] at e; cases e
    | ok ds2 μ3 =>
      simp only [Res.bind_ok, c2] at e
      cases e
      simp [h ρ μ2 ds2 _ c2]
end
end DL

/-! ### the order of lists of ints -/
namespace DL
open HT
theorem lexLt_irr : ∀ x : List Int, lexLt x x = false
  | [] => rfl
  | a :: x => by rw [lexLt_cons, if_pos rfl]; exact lexLt_irr x
theorem lexLt_asym : ∀ x y : List Int, lexLt x y = true → lexLt y x = false
  | [], [], h => rfl
  | [], _ :: _, _ => rfl
  | _ :: _, [], h => by cases h
  | a :: x, b :: y, h => by
    rw [lexLt_cons] at h ⊢
    by_cases e : a = b
    · rw [if_pos e] at h
      rw [if_pos e.symm]
      exact lexLt_asym x y h
    · rw [if_neg e] at h
      rw [if_neg (fun z => e z.symm)]
      have := of_decide_eq_true h
      exact decide_eq_false (by omega)
/-- not below: transitive -/
theorem lexLt_tr : ∀ x y z : List Int, lexLt y x = false → lexLt z y = false → lexLt z x = false
  | [], _, z, _, _ => by cases z <;> rfl
  | _ :: _, [], _, h, _ => by cases h
  | _ :: _, _ :: _, [], _, h => by cases h
  | a :: x, b :: y, c :: z, h1, h2 => by
    rw [lexLt_cons] at h1 h2 ⊢
    by_cases e1 : b = a
    · rw [if_pos e1] at h1
      by_cases e2 : c = b
      · rw [if_pos e2] at h2
        rw [if_pos (e2.trans e1)]
        exact lexLt_tr x y z h1 h2
      · rw [if_neg e2] at h2
        have := of_decide_eq_false h2
        rw [if_neg (by omega)]
        exact decide_eq_false (by omega)
    · rw [if_neg e1] at h1
      have q1 := of_decide_eq_false h1
      by_cases e2 : c = b
      · rw [if_neg (by omega)]
        exact decide_eq_false (by omega)
      · rw [if_neg e2] at h2
        have q2 := of_decide_eq_false h2
        rw [if_neg (by omega)]
        exact decide_eq_false (by omega)
theorem lexLt_anti : ∀ x y : List Int, lexLt x y = false → lexLt y x = false → x = y
  | [], [], _, _ => rfl
  | [], _ :: _, h, _ => by cases h
  | _ :: _, [], _, h => by cases h
  | a :: x, b :: y, h1, h2 => by
    rw [lexLt_cons] at h1 h2
    by_cases e : a = b
    · rw [if_pos e] at h1
      rw [if_pos e.symm] at h2
      rw [e, lexLt_anti x y h1 h2]
    · rw [if_neg e] at h1
      rw [if_neg (fun z => e z.symm)] at h2
      have := of_decide_eq_false h1
      have := of_decide_eq_false h2
      omega
theorem lexLt_zip (p : Int → Int → Bool) (hp : ∀ a b, p a b = decide (a < b)) : ∀ x y : List Int, lexZ p (decide (x.length < y.length)) x y = lexLt x y
  | [], [] => rfl
  | [], _ :: _ => by simp [lexZ, lexLt_nil_cons]
  | _ :: _, [] => by simp [lexZ, lexLt_cons_nil]
  | a :: x, b :: y => by
    rw [lexLt_cons, lexZ, hp, show decide ((a :: x).length < (b :: y).length) = decide (x.length < y.length) by simp, lexLt_zip p hp x y]
/-- sorted lists of lists of ints -/
def insL (x : List Int) : List (List Int) → List (List Int)
  | [] => [x]
  | y :: ys => if lexLt y x = true then y :: insL x ys else x :: y :: ys
def sortL : List (List Int) → List (List Int)
  | [] => []
  | x :: xs => insL x (sortL xs)
def SortedL (l : List (List Int)) : Prop := l.Pairwise fun a b => lexLt b a = false
theorem insL_perm (x : List Int) : ∀ l : List (List Int), (insL x l).Perm (x :: l)
  | [] => List.Perm.refl _
  | y :: ys => by
    unfold insL
    split
    · exact ((insL_perm x ys).cons y).trans (List.Perm.swap ..)
    · exact List.Perm.refl _
theorem sortL_perm : ∀ l : List (List Int), (sortL l).Perm l
  | [] => List.Perm.refl _
  | x :: xs => (insL_perm x _).trans ((sortL_perm xs).cons x)
theorem insL_sorted (x : List Int) : ∀ {l : List (List Int)}, SortedL l → SortedL (insL x l)
  | [], _ => List.pairwise_singleton ..
  | y :: ys, h => by
    obtain ⟨h1, h2⟩ := List.pairwise_cons.mp h
    unfold insL
    split
    · next c =>
      refine List.pairwise_cons.mpr ⟨fun z hz => ?_, insL_sorted x h2⟩
      rcases List.mem_cons.mp ((insL_perm x ys).mem_iff.mp hz) with e | e
      · rw [e]
        exact lexLt_asym _ _ c
      · exact h1 z e
    · next c =>
      have c : lexLt y x = false := by simpa using c
      refine List.pairwise_cons.mpr ⟨fun z hz => ?_, h⟩
      rcases List.mem_cons.mp hz with e | e
      · rw [e]
        exact c
      · exact lexLt_tr x y z c (h1 z e)
theorem sortL_sorted : ∀ l : List (List Int), SortedL (sortL l)
  | [] => List.Pairwise.nil
  | x :: xs => insL_sorted x (sortL_sorted xs)
theorem sorted_uniq : ∀ {l m : List (List Int)}, SortedL l → SortedL m → l.Perm m → l = m
  | [], m, _, _, h => (List.Perm.eq_nil h.symm).symm
  | x :: l, [], _, _, h => absurd h.length_eq (by simp)
  | x :: l, y :: m, hl, hm, h => by
    obtain ⟨l1, l2⟩ := List.pairwise_cons.mp hl
    obtain ⟨m1, m2⟩ := List.pairwise_cons.mp hm
    have e : x = y := by
      rcases List.mem_cons.mp (h.mem_iff.mp (List.mem_cons_self (a := x) (l := l))) with e | hx
      · exact e
      rcases List.mem_cons.mp (h.mem_iff.mpr (List.mem_cons_self (a := y) (l := m))) with e | hy
      · exact e.symm
      exact lexLt_anti x y (m1 x hx) (l1 y hy)
    subst e
    rw [sorted_uniq l2 m2 h.cons_inv]
end DL

/-! ### sorted of tuples of ints, at the model -/
namespace SrtT
open PySem PyProof.Rows Srt SrtO
section
variable {prog : Program} {w : World} {A : Around} {E : Value → Shared → Prop} {s : Shared}
theorem kat_lex {b z : Bool} {Q : Bool → Shared → Prop} {xs ys : List Value} {ns ms : List Int} (i : Nat) (hx : IntsAre xs ns) (hy : IntsAre ys ms) (h : Q (DL.lexZ (fun a b => decide (a < b)) z ns ms) s) : PySem.W.KatLex prog w A b z Q (xs.zip ys) i s := by
  induction hx generalizing ys ms i with
  | nil => exact PySem.W.kat_nil (by cases ms <;> exact h)
  | @cons p t xs ns hx ih =>
    cases hy with
    | nil => exact PySem.W.kat_nil h
    | @cons q u ys ms hy =>
      show PySem.W.KatLex prog w A b z Q ((Value.int p t, Value.int q u) :: xs.zip ys) i s
      refine PySem.W.kat_cons (wpAny_eqBool_int ?_)
      rw [DL.lexZ] at h
      by_cases e : p = q
      · subst e
        rw [if_pos rfl] at h
        rw [beq_self_eq_true]
        exact PySem.W.kat_yes (ih (i + 1) hy h)
      · rw [if_neg e] at h
        rw [show (p == q) = false from beq_eq_false_iff_ne.mpr e]
        exact PySem.W.kat_no (TS.oneLt_ints _ h)
abbrev TI (h : Heap) (v : Value) (ns : List Int) : Prop := TS.TupInts h v ns
theorem tup_cmp {vs : List Value} {k : Value → List Int} (hp : ∀ v ∈ vs, TI s.heap v (k v)) : SrtO.Cmp prog w A s (tuples' true) (fun p => p.1 ∈ vs) (lt2 fun v u => HT.lexLt (k v) (k u)) := by
  intro p q hm hm'
  obtain ⟨a, xs, e1, ⟨o, ho, hc, n, hd⟩, i1⟩ := hp _ hm
  obtain ⟨a', ys, e2, ⟨o', ho', hc', n', hd'⟩, i2⟩ := hp _ hm'
  show wpAny (model prog w) A (keyLt' (tuples' true) p.1 q.1) (fun r s' => s' = s ∧ r = HT.lexLt (k p.1) (k q.1)) (fun _ _ => False) s
  generalize k p.1 = ns at i1 ⊢
  generalize k q.1 = ms at i2 ⊢
  rw [e1, e2]
  refine PySem.W.kat_lt ho hd ho' hd' (kat_lex 0 i1 i2 ⟨rfl, ?_⟩)
  have l1 := i1.length
  have l2 := i2.length
  rw [Array.length_toList] at l1 l2
  rw [l1, l2]
  exact DL.lexLt_zip _ (fun _ _ => rfl) ns ms
theorem swo_lexLt (k : Value → List Int) : Swo fun v u => HT.lexLt (k v) (k u) := ⟨fun x y h => DL.lexLt_asym _ _ h, fun x y z h1 h2 => DL.lexLt_tr _ _ _ h1 h2⟩
theorem firsts {h : Heap} : ∀ {vs : List Value} {k : Value → List Int}, (∀ v ∈ vs, TI h v (k v) ∧ k v ≠ []) → ∃ fs, PySem.W.KatTups h vs fs ∧ fs.length = vs.length ∧ ∀ f, f ∈ fs → ∃ n t, f = Value.int n t
  | [], _, _ => ⟨[], PySem.W.KatTups.nil, rfl, fun f hf => by simp at hf⟩
  | v :: vs, k, x => by
    obtain ⟨fs, kt, hl, hi⟩ := firsts (vs := vs) (k := k) fun u hu => x u (List.mem_cons_of_mem _ hu)
    obtain ⟨⟨a, xs, e0, ⟨o, ho, hc, n, hdt⟩, i⟩, hn⟩ := x v (List.mem_cons_self ..)
    obtain ⟨y, ys, e⟩ : ∃ y ys, xs.toList = y :: ys := by
      cases q : xs.toList with
      | nil =>
        rw [q] at i
        exact absurd (List.eq_nil_of_length_eq_zero i.length.symm) hn
      | cons y ys => exact ⟨y, ys, rfl⟩
    obtain ⟨m, t, hy⟩ := i.all y (by rw [e]; exact List.mem_cons_self ..)
    subst e0
    refine ⟨y :: fs, PySem.W.KatTups.cons ho hc hdt ?_ kt, by simp [hl], ?_⟩
    · have z := congrArg (fun l : List Value => l[0]?) e
      simpa using z
    · intro f hf
      rcases List.mem_cons.mp hf with rfl | hf
      · exact ⟨m, t, hy⟩
      · exact hi f hf
theorem tups_sortable {a : Addr} {vs : List Value} {k : Value → List Int} (h0 : 0 < vs.length) (hp : ∀ v ∈ vs, TI s.heap v (k v) ∧ k v ≠ []) (ha : ∀ o, s.heap.get? a = some o → o.cls ≠ .type "tuple") : SortableO prog w A s a vs fun v u => HT.lexLt (k v) (k u) := by
  intro h' keep
  have hp' : ∀ v ∈ vs, TI h' v (k v) ∧ k v ≠ [] := fun v hm => ⟨(hp v hm).1.keeps fun b o e c => keep b o (fun z => by subst z; exact ha o e c) e, (hp v hm).2⟩
  obtain ⟨fs, h1, h2, h3⟩ := firsts hp'
  refine ⟨tuples' true, fun Q E hq => ?_, tup_cmp fun v hm => (hp' v hm).1⟩
  refine PySem.W.kat_kind (T := .type "int") h1 (by omega) (fun f hm => ?_) (by rfl) ?_
  · obtain ⟨x, t, rfl⟩ := h3 f hm
    exact PySem.W.Looks.now
  · have e : (Value.type "int" != Value.type "tuple") = true := by first | decide +kernel | rfl | decide
    rw [e]
    exact hq
theorem sorted_tups {l : Addr} {vs : List Value} {k : Value → List Int} {Q : Value → Shared → Prop} (hl : s.heap.IsList l vs.toArray) (hz : vs.length ≤ sizeLine) (hp : ∀ v ∈ vs, TI s.heap v (k v) ∧ k v ≠ [])
    (h : ∀ (h' : Heap) (d : Addr) (out : List Value), Srtd (fun v u => HT.lexLt (k v) (k u)) out → Stb (fun v u => HT.lexLt (k v) (k u)) out vs → (∀ b o, s.heap.get? b = some o → h'.get? b = some o) → s.heap.objs.size ≤ d → (∃ n, h'.get? d = some (seqObj "list" out.toArray n)) → Q (.ref d) { s with heap := h' }) :
    wpAny (model prog w) A (call (.builtin "sorted") [.ref l]) Q E s := by
  refine sorted_ord (swo_lexLt k) hl hz (fun h2 h₁ a ha kk => ?_) fun out hs hb => ?_
  · refine tups_sortable (s := { s with heap := h₁ }) (by omega) (fun v hm => ⟨(hp v hm).1.keeps fun b o e _ => (kk b o e).2, (hp v hm).2⟩) fun o e => ?_
    have e' : some o = some (seqObj "list" vs.toArray 0) := e.symm.trans ha
    cases e'
    intro c
    exact absurd (Value.type.inj c) (by decide)
  · exact h _ _ out hs hb (fun b o e => sortedAll_old e) (Nat.le_succ _) (sortedAll_at s.heap vs out.toArray)
end
end SrtT

namespace DL
open PySem PySem.Spec PyProof.Rows L2
variable [Tbs]
/-- sorted(xs), xs a list of tuples of ints (none empty) -/
def rSortT (K : PySem.W.Frag) : List V → Hp → VK → Prop := fun vs H Q => ∃ (a : Addr) (xs : List V) (k : V → List Int), vs = [V.ref a] ∧ SqL K H a xs ∧ (∀ x ∈ xs, ∃ t, x = V.ref t ∧ H t = some (.tup ((k x).map V.int)) ∧ k x ≠ []) ∧
  ∀ ys p, ys.Perm xs → (ys.map k).Pairwise (fun a b => HT.lexLt b a = false) → H p = none → Q (.ref p) (upd H p (.lst ys))
section
variable {X : Cx}
theorem cr_sortTI : CallR X (.builtin "sorted") (rSortT X.K) := by
  intro pins s σ H vs us Q I r h
  obtain ⟨a, xs, k, rfl, hs, hx, q⟩ := h
  obtain ⟨its, rv, hl, hz⟩ := I.list hs
  obtain ⟨u, rfl, ru⟩ := vals1 r
  obtain rfl : u = Value.ref a := ru
  obtain ⟨e1, e2⟩ := refs_back rv fun x m => by
    obtain ⟨t, e, _⟩ := hx x m
    exact ⟨t, e⟩
  refine SrtT.sorted_tups (k := fun u => k (backV u)) hl.isList (by rw [← rv.length]; exact hz) (fun v hv => ?_) fun h' d out h1 h2 kp hd hn => ?_
  · obtain ⟨t, rfl⟩ := e2 v hv
    have hm : V.ref t ∈ xs := by rw [e1]; exact List.mem_map.mpr ⟨_, hv, rfl⟩
    obtain ⟨t', e, ht, hne⟩ := hx _ hm
    cases e
    obtain ⟨_, its2, r2, pt⟩ := I.hok _ _ ht
    exact ⟨⟨t, its2.toArray, rfl, pt, (show IntsAre its2.toArray.toList (k (V.ref t)) by rw [List.toList_toArray]; exact Vals.ints r2)⟩, hne⟩
  · have h3 : ∀ u ∈ out, ∃ a, u = Value.ref a := fun u hu => e2 u (h2.perm.mem_iff.mp hu)
    obtain ⟨n, hn⟩ := hn
    have hb : (out.map backV).Perm xs := by
      rw [e1]
      exact h2.perm.map backV
    refine ⟨.ref d, upd H d (.lst (out.map backV)), I.laid (t' := s.toks) kp hd ⟨?_, out, n, vals_back h3, hn⟩, rfl, q _ d hb ?_ (I.hok.fresh hd)⟩
    · rw [hb.length_eq]
      exact hz
    · rw [List.pairwise_map, List.pairwise_map]
      exact h1
end
def D.intss : List D → Option (List (List Int))
  | [] => some []
  | .tup ds :: r => (D.ints ds).bind fun ns => if ns = [] then none else (D.intss r).map (ns :: ·)
  | _ :: _ => none
def intsD (ns : List Int) : D := .tup (ns.map .int)
def insI (x : Int) : List Int → List Int
  | [] => [x]
  | y :: ys => if y < x then y :: insI x ys else x :: y :: ys
def sortI : List Int → List Int
  | [] => []
  | x :: xs => insI x (sortI xs)
theorem insI_perm (x : Int) : ∀ l : List Int, (insI x l).Perm (x :: l)
  | [] => List.Perm.refl _
  | y :: ys => by
    unfold insI
    split
    · exact ((insI_perm x ys).cons y).trans (List.Perm.swap ..)
    · exact List.Perm.refl _
theorem sortI_perm : ∀ l : List Int, (sortI l).Perm l
  | [] => List.Perm.refl _
  | x :: xs => (insI_perm x _).trans ((sortI_perm xs).cons x)
theorem insI_sorted (x : Int) : ∀ {l : List Int}, l.Pairwise (· ≤ ·) → (insI x l).Pairwise (· ≤ ·)
  | [], _ => List.pairwise_singleton ..
  | y :: ys, h => by
    obtain ⟨h1, h2⟩ := List.pairwise_cons.mp h
    unfold insI
    split
    · next c =>
      refine List.pairwise_cons.mpr ⟨fun z hz => ?_, insI_sorted x h2⟩
      rcases List.mem_cons.mp ((insI_perm x ys).mem_iff.mp hz) with e | e
      · omega
      · exact h1 z e
    · next c =>
      refine List.pairwise_cons.mpr ⟨fun z hz => ?_, h⟩
      rcases List.mem_cons.mp hz with e | e
      · omega
      · have := h1 z e
        omega
theorem sortI_sorted : ∀ l : List Int, (sortI l).Pairwise (· ≤ ·)
  | [] => List.Pairwise.nil
  | x :: xs => insI_sorted x (sortI_sorted xs)
theorem sortI_uniq : ∀ {l m : List Int}, l.Pairwise (· ≤ ·) → m.Pairwise (· ≤ ·) → l.Perm m → l = m
  | [], m, _, _, h => (List.Perm.eq_nil h.symm).symm
  | x :: l, [], _, _, h => absurd h.length_eq (by simp)
  | x :: l, y :: m, hl, hm, h => by
    obtain ⟨l1, l2⟩ := List.pairwise_cons.mp hl
    obtain ⟨m1, m2⟩ := List.pairwise_cons.mp hm
    have e : x = y := by
      rcases List.mem_cons.mp (h.mem_iff.mp (List.mem_cons_self (a := x) (l := l))) with e | hx
      · exact e
      rcases List.mem_cons.mp (h.mem_iff.mpr (List.mem_cons_self (a := y) (l := m))) with e | hy
      · exact e.symm
      have := m1 x hx
      have := l1 y hy
      omega
    subst e
    rw [sortI_uniq l2 m2 h.cons_inv]
/-- keys that are ints -/
def keyInts : List Key → Option (List Int)
  | [] => some []
  | .inl i :: r => (keyInts r).map (i :: ·)
  | .inr _ :: _ => none
def fSorted : List Vw → Option Rv
  | [.ob (.lst ds)] => match D.ints ds with
    | some ns => some (.own (.lst ((sortI ns).map .int)))
    | none => (D.intss ds).map fun nss => .own (.lst ((sortL nss).map intsD))
  | [.ob (.dK kvs)] => (keyInts (kvs.map (·.1))).bind fun ns => if ns.length < 64 then some (.own (.lst ((sortI ns).map .int))) else none
  | _ => none
def rSortA (K : PySem.W.Frag) : List V → Hp → VK → Prop := fun vs H Q => rSortedI K vs H Q ∨ rSortT K vs H Q ∨ (∃ (a : Addr) (kvs : List (Key × V)) (ks : List Int), vs = [.ref a] ∧ Rd H a (.dK kvs) ∧ kvs.map (·.1) = ks.map Sum.inl ∧ ks.length < 64 ∧
    ∀ (ys : List Int) (p : Addr), ys.Perm ks → ys.Pairwise (· ≤ ·) → H p = none → Q (.ref p) (upd H p (.lst (ys.map V.int))))
theorem cr_sortA {X : Cx} (hc : X.calm = true) : CallR X (.builtin "sorted") (rSortA X.K) := cr_sortedI.or (cr_sortTI.or (call_sortedDI hc))
section
variable {K : PySem.W.Frag} {cad : Str → Addr} {F H : Hp} {ι : List Addr} {μ : Store}
theorem ints_D : ∀ {ns : List Int}, VRs K cad ι F (ns.map .int) (ns.map V.int)
  | [] => rfl
  | _ :: ns => ⟨_, _, rfl, VR.int_.mpr rfl, ints_D (ns := ns)⟩
/-- each item's ints, by its address -/
theorem intss_k (rs : RS K cad F ι μ H) : ∀ {ds : List D} {vs : List V} {nss : List (List Int)}, VRs K cad ι F ds vs → D.intss ds = some nss → ∃ k : V → List Int, vs.map k = nss ∧ ∀ x ∈ vs, ∃ t, x = V.ref t ∧ F t = some (.tup ((k x).map V.int)) ∧ k x ≠ []
  | [], _, _, h, e => by
    cases h
    cases e
    exact ⟨fun _ => [], rfl, fun x hx => by simp at hx⟩
  | d :: ds, _, nss, h, e => by
    obtain ⟨v, vs, rfl, r, t⟩ := h
    cases d with
    | tup es =>
      have e : ((D.ints es).bind fun ns => if ns = [] then none else (D.intss ds).map (ns :: ·)) = some nss := e
      cases c : D.ints es with
      | none => rw [c] at e; cases e
      | some ns =>
        rw [c] at e
        have e : (if ns = [] then none else (D.intss ds).map (ns :: ·)) = some nss := e
        by_cases hn : ns = []
        · rw [if_pos hn] at e; cases e
        · rw [if_neg hn] at e
          cases c2 : D.intss ds with
          | none => rw [c2] at e; cases e
          | some nss' =>
            rw [c2] at e
            cases e
            obtain ⟨a, us, rfl, e1, ru⟩ := VR.tup_.mp r
            rw [ints_vals ru c] at e1
            obtain ⟨k, k1, k2⟩ := intss_k rs t c2
            refine ⟨fun x => if x = .ref a then ns else k x, ?_, fun x hx => ?_⟩
            · have : (if V.ref a = V.ref a then ns else k (.ref a)) = ns := if_pos rfl
              rw [List.map_cons, this, ← k1]
              congr 1
              refine List.map_congr_left fun x hx => ?_
              by_cases hxa : x = .ref a
              · rw [if_pos hxa]
                obtain ⟨t, e2, e3, _⟩ := k2 x hx
                rw [hxa] at e2
                cases e2
                rw [e1] at e3
                have e4 := HO.tup.inj (Option.some.inj e3)
                have inj : ∀ {l m : List Int}, l.map V.int = m.map V.int → l = m := fun {l m} h => by
                  induction l generalizing m with
                  | nil => cases m with
                    | nil => rfl
                    | cons _ _ => cases h
                  | cons x l ih => cases m with
                    | nil => cases h
                    | cons y m =>
                      rw [List.map_cons, List.map_cons] at h
                      injection h with h1 h2
                      rw [V.int.inj h1, ih h2]
                exact inj e4
              · rw [if_neg hxa]
            · dsimp only
              by_cases hxa : x = .ref a
              · rw [if_pos hxa]
                exact ⟨a, hxa, e1, hn⟩
              · rw [if_neg hxa]
                rcases List.mem_cons.mp hx with z | z
                · exact absurd z hxa
                · exact k2 x z
    | _ => cases e
theorem keyInts_ok : ∀ {ks : List Key} {ns : List Int}, keyInts ks = some ns → ks = ns.map Sum.inl
  | [], _, e => by cases e; rfl
  | .inl i :: ks, ns, e => by
    have e : (keyInts ks).map (i :: ·) = some ns := e
    cases c : keyInts ks with
    | none => rw [c] at e; cases e
    | some ms => rw [c] at e; cases e; rw [keyInts_ok c]; rfl
  | .inr _ :: _, _, e => by cases e
theorem perm_VRs {k : V → List Int} : ∀ {ys : List V}, (∀ x ∈ ys, ∃ t, x = V.ref t ∧ F t = some (.tup ((k x).map V.int)) ∧ k x ≠ []) → VRs K cad ι F ((ys.map k).map intsD) ys
  | [], _ => rfl
  | y :: ys, h => by
    obtain ⟨t, e1, e2, _⟩ := h y List.mem_cons_self
    refine ⟨y, ys, rfl, VR.tup_.mpr ⟨t, _, e1, e2, ints_D⟩, perm_VRs fun x hx => h x (List.mem_cons_of_mem _ hx)⟩
theorem sd_sorted : SdB K cad (rSortA K) fSorted := by
  intro F ι μ H ws vs rv Q rs hw e q
  match ws, hw, e with
  | [.ob (.lst ds)], hw, e =>
    obtain ⟨v, rfl, a, rfl, us, e1, r⟩ := pr1 hw
    have e : (match D.ints ds with | some ns => some (Rv.own (.lst ((sortI ns).map .int))) | none => (D.intss ds).map fun nss => .own (.lst ((sortL nss).map intsD))) = some rv := e
    cases c : D.ints ds with
    | some ns =>
      rw [c] at e
      cases e
      rw [ints_vals r c] at e1
      refine .inl ⟨a, ns, rfl, SqL.of e1, fun ns' p h1 h2 hp => ?_⟩
      have : ns' = sortI ns := sortI_uniq h2 (sortI_sorted ns) (h1.trans (sortI_perm ns).symm)
      rw [this]
      exact fin_own rs q hp ⟨_, rfl, ints_D⟩
    | none =>
      rw [c] at e
      cases c2 : D.intss ds with
      | none => rw [c2] at e; cases e
      | some nss =>
        rw [c2] at e
        cases e
        obtain ⟨k, k1, k2⟩ := intss_k rs r c2
        refine .inr (.inl ⟨a, us, k, rfl, SqL.of e1, fun x hx => ?_, fun ys p h1 h2 hp => ?_⟩)
        · obtain ⟨t, f1, f2, f3⟩ := k2 x hx
          exact ⟨t, f1, rs.sub _ _ f2, f3⟩
        · have e3 : ys.map k = sortL nss := sorted_uniq h2 (sortL_sorted nss) (((h1.map k).trans (by rw [k1])).trans (sortL_perm nss).symm)
          dsimp only at q
          rw [← e3] at q
          exact fin_own rs q hp ⟨ys, rfl, perm_VRs fun x hx => k2 x (h1.mem_iff.mp hx)⟩
  | [.ob (.dK kvs)], hw, e =>
    obtain ⟨v, rfl, a, rfl, us, e1, r⟩ := pr1 hw
    have e : ((keyInts (kvs.map (·.1))).bind fun ns => if ns.length < 64 then some (Rv.own (.lst ((sortI ns).map .int))) else none) = some rv := e
    cases c : keyInts (kvs.map (·.1)) with
    | none => rw [c] at e; cases e
    | some ns =>
      rw [c] at e
      have e : (if ns.length < 64 then some (Rv.own (.lst ((sortI ns).map .int))) else none) = some rv := e
      by_cases hl : ns.length < 64
      · rw [if_pos hl] at e
        cases e
        have lk : (kvs.map (·.1)).length = us.length := by
          have := r.len
          rw [List.length_map] at this ⊢
          exact this
        refine .inr (.inr ⟨a, _, ns, rfl, e1, ?_, hl, fun ys p h1 h2 hp => ?_⟩)
        · rw [List.map_fst_zip (by omega)]
          exact keyInts_ok c
        · have : ys = sortI ns := sortI_uniq h2 (sortI_sorted ns) (h1.trans (sortI_perm ns).symm)
          rw [this]
          exact fin_own rs q hp ⟨_, rfl, ints_D⟩
      · rw [if_neg hl] at e
        cases e
end
end DL

/-! ### a name's own thing never changes from now on; several names at once -/
namespace DL
open PySem PySem.Spec PyProof.Rows L2
variable [Tbs]
def frzD : Ob → Option D
  | .lst xs => some (.lst xs)
  | .dK kvs => some (.dK (kvs.map (·.1)) (kvs.map (·.2)))
  | .dT kvs => some (.dT (kvs.map (·.1)) (kvs.map (·.2)))
  | .ins c fs => some (.ins c (fs.map (·.1)) (fs.map (·.2)))
  | _ => none
def mFrz (i : Nat) : MS := fun ρ μ => match ρ[i]? with
  | some (.own o) => (match frzD o with
    | some d => .ok (.nx, ρ.set i (.sh d)) μ
    | none => .stk)
  | some (.sh _) => .ok (.nx, ρ) μ
  | _ => .stk
theorem upd_eq {H : Hp} {a : Addr} {o : HO} (h : H a = some o) : upd H a o = H := by
  funext b
  by_cases e : b = a
  · rw [e, upd_same, h]
  · rw [upd_ne e]
section
variable {K : PySem.W.Frag} {cad : Str → Addr} {E : Ent} {F F' H H' H0 : Hp} {ι ι' : List Addr} {μ μ' : Store} {ρ : Ev} {σ : L2.St}
theorem R0.frz (r : R0 K cad E F ι μ ρ σ H) {i : Nat} {o : Ob} {a : Addr} {ho : HO} {d : D} (e1 : ρ[i]? = some (.own o)) (e2 : σ[i]? = some (some (.ref a))) (q : VR K cad ι (upd F a ho) d (.ref a)) (nt : ∀ ps, ho ≠ .tbl ps) : R0 K cad E (upd F a ho) ι μ (ρ.set i (.sh d)) σ (upd H a ho) := by
  obtain ⟨a', ho', e3, e4, e5, e6, z⟩ := r.r.own i o e1
  rw [e2] at e3
  cases e3
  have sm : Same F (upd F a ho) := same_new e4
  have hE : E.H a = none := r.fr i o a e1 e2
  refine ⟨⟨?_, by rw [List.length_set]; exact r.r.len, fun j d' ej => ?_, fun j o' ej => ?_, fun j k o1 o2 b ej ek e7 e8 => ?_⟩, ?_, fun j o' b ej e7 => ?_⟩
  · refine r.r.rs.grow sm (same_upd2 r.r.rs.sub) (fun b hb o' s => ?_) (fun b hb => ?_) (r.r.rs.tb.put e6 z.notbl.1 z.notbl.2) (ft_upd r.r.rs.ft nt)
    · rw [upd_ne (show b ≠ a from fun w => e5 (w ▸ hb))]
      exact s
    · rw [upd_ne (show b ≠ a from fun w => e5 (w ▸ hb))]
      exact r.r.rs.sep b hb
  · rcases get_set ej with ⟨hj, e', _⟩ | ⟨hj, ej⟩
    · cases e'
      rw [hj]
      exact ⟨_, e2, q⟩
    · obtain ⟨v, e7, q7⟩ := r.r.sh j d' ej
      exact ⟨v, e7, VR.mono sm List.prefix_rfl _ _ q7⟩
  · rcases get_set ej with ⟨_, e', _⟩ | ⟨hj, ej⟩
    · cases e'
    · obtain ⟨b, hb, e7, e8, e9, e10, z2⟩ := r.r.own j o' ej
      have hne : b ≠ a := fun w => hj (r.r.dis j i o' o a ej e1 (w ▸ e7) e2)
      exact ⟨b, hb, e7, by rw [upd_ne hne]; exact e8, e9, by rw [upd_ne hne]; exact e10, z2.mono sm List.prefix_rfl⟩
  · rcases get_set ej with ⟨_, e', _⟩ | ⟨hj, ej⟩
    · cases e'
    rcases get_set ek with ⟨_, e', _⟩ | ⟨hk, ek⟩
    · cases e'
    exact r.r.dis j k o1 o2 b ej ek e7 e8
  · have x1 : Ext E.F E.ι E.H (upd F a ho) ι H := r.x.frz e4 hE e5
    exact x1.upd_of (fun _ => hE) fun o u z => by rw [hE] at z; cases z
  · rcases get_set ej with ⟨_, e', _⟩ | ⟨hj, ej⟩
    · cases e'
    · exact r.fr j o' b ej e7
end
section
variable {X : Cx} {cad : Str → Addr} {W : WX} {E : Ent} {rest : List Stmt} {n : MS}
theorem dss_frz (i : Nat) (h : PSs X rest (tS X.K cad W E n)) : PSs X rest (tS X.K cad W E (mSeq (mFrz i) n)) := by
  refine ⟨fun pins s σ H D I hh => ?_⟩
  obtain ⟨F, ι, μ, ρ, r, p⟩ := hh
  unfold mSeq seqR mFrz at p
  cases c : ρ[i]? with
  | none => rw [c] at p; exact p.elim
  | some sl =>
    rw [c] at p
    cases sl with
    | no => exact p.elim
    | sh d => exact h.run pins s σ H D I ⟨F, ι, μ, ρ, r, p⟩
    | own o =>
      obtain ⟨a, ho, e3, e4, e5, e6, z⟩ := r.r.own i o c
      have fin : ∀ {H' : Hp} {d : DL.D} {ho' : HO}, frzD o = some d → Inv X pins σ H' s → H' = upd H a ho' → (∀ ps, ho' ≠ .tbl ps) → VR X.K cad ι (upd F a ho') d (.ref a) → wpAny (model X.prog X.w) X.A (execs rest X.env) (SP X pins D) X.xe s := fun {H' d ho'} ed I' eH nt q => by
        simp only [ed] at p
        subst eH
        exact h.run pins s σ _ D I' ⟨_, ι, μ, _, r.frz c e3 q nt, PostS.ext (same_new e4) List.prefix_rfl p⟩
      cases o with
      | lst xs =>
        obtain ⟨vs, rfl, rv⟩ := z
        exact fin rfl I (upd_eq e6).symm (by intro _ z; cases z) (VR.lst_.mpr ⟨a, vs, rfl, upd_same, VRs.mono (same_new e4) List.prefix_rfl _ _ rv⟩)
      | dK kvs =>
        obtain ⟨vs, rfl, rv⟩ := z
        obtain ⟨od, I'⟩ := I.lock e6 trivial
        refine fin rfl I' rfl (by intro _ z; cases z) ?_
        unfold VR
        exact ⟨a, od, vs, rfl, upd_same, by have := rv.len; rw [List.length_map] at this ⊢; exact this, VRs.mono (same_new e4) List.prefix_rfl _ _ rv⟩
      | dT kvs =>
        obtain ⟨vs, rfl, rv⟩ := z
        obtain ⟨od, I'⟩ := I.lock e6 trivial
        refine fin rfl I' rfl (by intro _ z; cases z) ?_
        unfold VR
        exact ⟨a, od, vs, rfl, upd_same, by have := rv.len; rw [List.length_map] at this ⊢; exact this, VRs.mono (same_new e4) List.prefix_rfl _ _ rv⟩
      | ins cc fs =>
        obtain ⟨dx, vs, rfl, rv⟩ := z
        refine fin rfl I (upd_eq e6).symm (by intro _ z; cases z) ?_
        unfold VR
        exact ⟨a, dx, vs, rfl, upd_same, by have := rv.len; rw [List.length_map] at this ⊢; exact this, VRs.mono (same_new e4) List.prefix_rfl _ _ rv⟩
      | lkK _ => exact p.elim
      | lkT _ => exact p.elim
      | dead => exact p.elim
      | dN _ => exact p.elim
/-- a, b = x, y; a, b, c = x, y, z -/
def mPar (is : List Nat) (as : MA) : MS := fun ρ μ => (as ρ μ).bind fun ds μ1 => if ds.length = is.length then .ok (.nx, setsE is ds ρ) μ1 else .stk
theorem ds_par2 (i j : Nat) {x y : Str} {a b : Expr} {as : MA} {px py pt pos : Pos} {kt k2 pt2} (hc : X.calm = true) (hN : X.N.Nodup) (ha : PA X [a, b] (tDs X.K cad W as)) (hij : i ≠ j) (hx : X.env.scope.names.lookup x = some .local) (hy : X.env.scope.names.lookup y = some .local)
    (hw : swappedStores [.Tuple [.Name x px, .Name y py] kt pt] (.Tuple [a, b] k2 pt2) X.env = pure (some [x, y])) (hi : X.N[i]? = some x := by rfl) (hj : X.N[j]? = some y := by rfl)
    (hs : swapsWithSole [.Tuple [.Name x px, .Name y py] kt pt] (.Tuple [a, b] k2 pt2) pos.line X.env = pure false := by rfl) : PS X (.Assign [.Tuple [.Name x px, .Name y py] kt pt] (.Tuple [a, b] k2 pt2) pos) (tS X.K cad W E (mPar [i, j] as)) := by
  refine ps_imp (ps_par hc hN hi hj hij hx hy ha hw hs) fun D σ H ⟨F, ι, μ, ρ, r, h⟩ => ?_
  refine ⟨F, ι, μ, ρ, r.r, h.bind r.x fun ds μ1 F1 ι1 H1 vs _ x1 s1 q1 h1 => ?_⟩
  have r1 := r.ext x1 s1
  have q1 : VRs X.K cad ι1 F1 ds vs := q1
  match ds, q1, h1 with
  | [d, d'], q1, h1 =>
    obtain ⟨v, _, rfl, v1, q2⟩ := q1
    obtain ⟨v', _, rfl, v2, q3⟩ := q2
    cases q3
    exact ⟨v, v', rfl, h1 F1 ι1 _ H1 x1.f x1.i ((r1.set v1).set v2)⟩
  | [], _, h1 => exact h1.elim
  | [_], _, h1 => exact h1.elim
  | _ :: _ :: _ :: l, _, h1 => rw [if_neg (by simp)] at h1; exact h1.elim
theorem ds_par3 (i j l : Nat) {x y z : Str} {a b c : Expr} {as : MA} {px py pz pt pos : Pos} {kt k2 pt2} (hc : X.calm = true) (hN : X.N.Nodup) (ha : PA X [a, b, c] (tDs X.K cad W as)) (hij : i ≠ j) (hil : i ≠ l) (hjl : j ≠ l) (hx : X.env.scope.names.lookup x = some .local) (hy : X.env.scope.names.lookup y = some .local) (hz : X.env.scope.names.lookup z = some .local)
    (hw : swappedStores [.Tuple [.Name x px, .Name y py, .Name z pz] kt pt] (.Tuple [a, b, c] k2 pt2) X.env = pure (some [x, y, z])) (hi : X.N[i]? = some x := by rfl) (hj : X.N[j]? = some y := by rfl) (hl : X.N[l]? = some z := by rfl)
    (hs : swapsWithSole [.Tuple [.Name x px, .Name y py, .Name z pz] kt pt] (.Tuple [a, b, c] k2 pt2) pos.line X.env = pure false := by rfl) : PS X (.Assign [.Tuple [.Name x px, .Name y py, .Name z pz] kt pt] (.Tuple [a, b, c] k2 pt2) pos) (tS X.K cad W E (mPar [i, j, l] as)) := by
  refine ps_imp (ps_par3 hc hN hi hj hl hij hil hjl hx hy hz ha hw hs) fun D σ H ⟨F, ι, μ, ρ, r, h⟩ => ?_
  refine ⟨F, ι, μ, ρ, r.r, h.bind r.x fun ds μ1 F1 ι1 H1 vs _ x1 s1 q1 h1 => ?_⟩
  have r1 := r.ext x1 s1
  have q1 : VRs X.K cad ι1 F1 ds vs := q1
  match ds, q1, h1 with
  | [d, d', d''], q1, h1 =>
    obtain ⟨v, _, rfl, v1, q2⟩ := q1
    obtain ⟨v', _, rfl, v2, q3⟩ := q2
    obtain ⟨v'', _, rfl, v3, q4⟩ := q3
    cases q4
    exact ⟨v, v', v'', rfl, h1 F1 ι1 _ H1 x1.f x1.i (((r1.set v1).set v2).set v3)⟩
  | [], _, h1 => exact h1.elim
  | [_], _, h1 => exact h1.elim
  | [_, _], _, h1 => exact h1.elim
  | _ :: _ :: _ :: _ :: l, _, h1 => rw [if_neg (by simp)] at h1; exact h1.elim
/-- a tuple taken apart: (a, b) = e -/
def mUnp (is : List Nat) (a : ME) : MS := fun ρ μ => (toD a ρ μ).bind fun d μ1 => match gT is d ρ with
  | some ρ' => .ok (.nx, ρ') μ1
  | none => .stk
theorem ds_unp {is : List Nat} {es : List Expr} {e : Expr} {k : Nat} {tp pos : Pos} {ma : ME} (he : PE X e (tE X.K cad W ma)) (hg : PG X (.Tuple es k tp) (gTup X.K is.length (gNames is))) (hs : swapsWithSole [.Tuple es k tp] e pos.line X.env = pure false := by rfl) (hw : swappedStores [.Tuple es k tp] e X.env = pure none := by rfl)
    (h1 : (assignEach [.Tuple es k tp] X.env).map (·.2) = [assign (.Tuple es k tp) X.env] := by rfl) : PS X (.Assign [.Tuple es k tp] e pos) (tS X.K cad W E (mUnp is ma)) := by
  refine ps_imp (ps_asg (de_toD he) hg hs hw h1) fun D σ H ⟨F, ι, μ, ρ, r, h⟩ => ?_
  refine ⟨F, ι, μ, ρ, r.r, h.bind r.x fun d μ1 F1 ι1 H1 v _ x1 s1 q1 h1 => ?_⟩
  have r1 := r.ext x1 s1
  cases c : gT is d ρ with
  | none => rw [c] at h1; exact h1.elim
  | some ρ' =>
    rw [c] at h1
    exact g_tup is rfl r1.r q1 c fun σ' r' _ _ g' => h1 F1 ι1 σ' H1 x1.f x1.i (r1.of_g r' g')
end
end DL

namespace DL
open PySem PySem.Spec PyProof.Rows L2
variable [Tbs]
/-! ### a def by its name -/
def Def0 (P : Program) (w : World) (K : PySem.W.Frag) (mg : Str → Option Value) (base : Heap) (cad : Str → Addr) (x : Str) (j np : Nat) (m : List D → Store → Res Rv) : Prop :=
  ∃ f fd ps, ps.length = np ∧ FnOk P w K mg base (L2.CX P w) j f fd ps (spM K cad np m) ∧ mg x = some (.ref f) ∧ PySem.W.keepIn K (.ref f) = true ∧ Binds K fd ps []
theorem hU_of {A : Around} {k : Nat} (hr : Room k A) : A.units + 100 < cLine := by
  have := hr.un
  omega
theorem mk0 {P : Program} {w : World} {K : PySem.W.Frag} {mg : Str → Option Value} {base : Heap} {cad : Str → Addr} {x qual : Str} {st : Stmt} {f : Addr} {fd : FuncData} {N ps : List Str} {k : Nat} {b : MS} (F : Fun K x qual st f fd) (S : FnScope N ps (defScope st)) (hm : mg x = some (.ref f)) (hb : Binds K fd ps [])
    (hB : ∀ (cdv : Value) (A : Around) (outer : List Env) (s : Shared) (H : Hp) (E : XK) (E0 : Ent), CodeAt K f cdv → Room k (A.deeper (envOfC qual (defScope st) s.heap.objs.size f cdv)) → Takes (cxOf (L2.CX P w) P w K mg base N qual (defScope st) f cdv A outer s H E) (WK E) →
      PassesOwn (model P w) (A.deeper (envOfC qual (defScope st) s.heap.objs.size f cdv)) (envOfC qual (defScope st) s.heap.objs.size f cdv) (cxOf (L2.CX P w) P w K mg base N qual (defScope st) f cdv A outer s H E).xe → PSs (cxOf (L2.CX P w) P w K mg base N qual (defScope st) f cdv A outer s H E) (defBody st) (tS K cad (WK E) E0 b)) :
    Def0 P w K mg base cad x (k + 1) ps.length (runB N.length ps.length b) := ⟨f, fd, ps, rfl, fnX F S hB, hm, F.kp, hb⟩
section
variable {X : Cx} {cad : Str → Addr} {W : WX} {pos p : Pos} {e : Expr} {es : List Expr} {j k np : Nat} {m : List D → Store → Res Rv} {x : Str} {as : MA}
theorem de_callD (d : Def0 X.prog X.w X.K X.mg X.base cad x j np m) (hr : Room k X.A) (hj : j ≤ k) (hg : Gl X x) (ha : PA X (e :: es) (tDs X.K cad W as)) (hl : ∀ ρ μ ds μ1, as ρ μ = .ok ds μ1 → ds.length = np)
    (hdb : (x == ("__debug__" : Str)) = false := by decide) (he : starEach (e :: es) X.env = (false, eval e X.env) :: starEach es X.env := by rfl) (hpl : (backTo pos (starEach es X.env)).any (·.1) = false := by rfl) : PE X (.Call (.Name x p) (e :: es) [] pos) (tE X.K cad W (eCall (noX m) as)) := by
  obtain ⟨f, fd, ps, hn, G, hm, hk, hb⟩ := d
  exact pe_imp (pe_call G (hr.mono hj) hg hm hk hb .nil passN ha hdb he hpl) fun σ H Q h => eCall_okN (ps := ps) hn.symm h hl
theorem de_callD0 (d : Def0 X.prog X.w X.K X.mg X.base cad x j 0 m) (hr : Room k X.A) (hj : j ≤ k) (hg : Gl X x) (hdb : (x == ("__debug__" : Str)) = false := by decide) : PE X (.Call (.Name x p) [] [] pos) (tE X.K cad W (eCall (noX m) aNil)) := by
  obtain ⟨f, fd, ps, hn, G, hm, hk, hb⟩ := d
  refine pe_imp (pe_call0 G (hr.mono hj) hg hm hk hb .nil passN hdb) fun σ H Q h => ?_
  obtain ⟨F, ι, μ, ρ, r, z⟩ := eCall_okN (ps := ps) hn.symm h fun ρ μ ds μ1 e => by cases e; rfl
  exact z F ι H [] (Ext.refl _ _ _) r.rs rfl
/-- a call that may let an exception out -/
theorem de_callX {E : XK} (tk : Takes X (WK E)) (d : Def0 X.prog X.w X.K X.mg X.base cad x j np m) (hr : Room k X.A) (hj : j ≤ k) (hg : Gl X x) (ha : PA X (e :: es) (tDs X.K cad (WK E) as)) (hl : ∀ ρ μ ds μ1, as ρ μ = .ok ds μ1 → ds.length = np)
    (hdb : (x == ("__debug__" : Str)) = false := by decide) (he : starEach (e :: es) X.env = (false, eval e X.env) :: starEach es X.env := by rfl) (hpl : (backTo pos (starEach es X.env)).any (·.1) = false := by rfl) : PE X (.Call (.Name x p) (e :: es) [] pos) (tE X.K cad (WK E) (eCall m as)) := by
  obtain ⟨f, fd, ps, hn, G, hm, hk, hb⟩ := d
  exact pe_imp (pe_call G (hr.mono hj) hg hm hk hb .nil (passes_call tk fun _ _ _ _ h => h) ha hdb he hpl) fun σ H Q h => eCall_ok (ps := ps) hn.symm h hl
end
/-- all but the tables -/
def noTbl (H : Hp) : Hp := fun a => match H a with
  | some (.tbl _) => none
  | o => o
theorem noTbl_of {H : Hp} {a : Addr} {o : HO} (h : H a = some o) (n : ∀ ps, o ≠ .tbl ps) : noTbl H a = some o := by
  unfold noTbl
  rw [h]
  cases o <;> first | rfl | exact (n _ rfl).elim
theorem noTbl_sub {H : Hp} : Same (noTbl H) H := fun a o h => by
  unfold noTbl at h
  split at h
  · cases h
  · exact h
theorem noTbl_ft {H : Hp} : ∀ a ps, noTbl H a ≠ some (.tbl ps) := fun a ps z => by
  unfold noTbl at z
  split at z
  · cases z
  · next n => exact n ps z
theorem noTbl_seq {K : PySem.W.Frag} {H : Hp} {a : Addr} {vs : List V} (h : SqL K H a vs) : SqL K (noTbl H) a vs := by
  rcases h with (h | ⟨o, h⟩) | h
  · exact .inl (.inl (noTbl_of h fun ps z => by cases z))
  · exact .inl (.inr ⟨o, noTbl_of h fun ps z => by cases z⟩)
  · exact .inr h
/-- the law's promise from its function -/
theorem law_sp {K : PySem.W.Frag} {cad : Str → Addr} {m : List D → Store → Res Rv} {H : Hp} {a : Addr} {ns : List Int} (hS : SqL K H a (ns.map V.int)) (tb : Tb H) (h : ∃ μ, m [.scr ns] [] = .ok (.sh (.bl true)) μ) : spM K cad 1 m [.ref a] H (fun v _ => v = .bl true) fun _ _ _ => False := by
  obtain ⟨μ, e⟩ := h
  refine ⟨noTbl H, [], [], [.scr ns], ⟨noTbl_sub, rfl, List.nodup_nil, fun a h => by simp at h, fun n o a h => by simp at h, tb, noTbl_ft⟩, ⟨.ref a, [], rfl, VR.scr_.mpr ⟨a, rfl, noTbl_seq hS⟩, rfl⟩, rfl, ?_⟩
  rw [e]
  exact fun F' ι' H' v x s q => VR.bl_.mp (show VR K cad ι' F' (.bl true) v from q)
theorem bb_len : bootBuiltins "len" = some (.builtin "len") := by decide +kernel
theorem bb_max : bootBuiltins "max" = some (.builtin "max") := by decide +kernel
theorem bb_min : bootBuiltins "min" = some (.builtin "min") := by decide +kernel
theorem bb_sum : bootBuiltins "sum" = some (.builtin "sum") := by decide +kernel
theorem bb_sorted : bootBuiltins "sorted" = some (.builtin "sorted") := by decide +kernel
theorem bb_int : bootBuiltins "int" = some (.type "int") := by decide +kernel
theorem bb_list : bootBuiltins "list" = some (.type "list") := by decide +kernel
theorem bb_tuple : bootBuiltins "tuple" = some (.type "tuple") := by decide +kernel
end DL

namespace DL
open PySem PySem.Spec PyProof.Rows L2
variable [Tbs]
/-! ### isinstance(x, T), T a built-in class -/
def Vw.ty : Vw → Option String
  | .d .non => some "NoneType"
  | .d (.bl _) => some "bool"
  | .d (.int _) => some "int"
  | .d (.str _) => some "str"
  | .d (.tup _) => some "tuple"
  | .ob (.lst _) => some "list"
  | _ => none
def isiB (a T : String) : Bool := a == T || (a == "bool" && T == "int")
def tysB : List String := ["NoneType", "bool", "int", "str", "tuple", "list"]
def clsB : List String := ["bool", "int", "str", "tuple", "list"]
theorem isi_tab : (tysB.all fun a => clsB.all fun T => decide (kitB a T = some (isiB a T))) = true := by decide +kernel
theorem isi_ok {a T : String} (h1 : a ∈ tysB) (h2 : T ∈ clsB) : kitB a T = some (isiB a T) := of_decide_eq_true (List.all_eq_true.mp (List.all_eq_true.mp isi_tab a h1) T h2)
theorem ty_mem {w : Vw} {a : String} (h : w.ty = some a) : a ∈ tysB := by
  unfold Vw.ty at h
  split at h <;> first | (cases h; decide) | cases h
def fIsi (T : String) (w : Vw) : Option Rv := w.ty.map fun a => .sh (.bl (isiB a T))
def eIsi (T : String) (m : ME) : ME := e1 (fIsi T) m
section
variable {K : PySem.W.Frag} {cad : Str → Addr} {F H : Hp} {ι : List Addr} {μ : Store}
theorem ty_ok (rs : RS K cad F ι μ H) {w : Vw} {v : V} {a : String} (h : VwR K cad F ι H w v) (e : w.ty = some a) : TyOf K H v (.type a) := by
  unfold Vw.ty at e
  split at e
  · cases e; rw [vw_non h]; exact .non
  · cases e; rw [vw_bl h]; exact .bl _
  · cases e; rw [vw_int h]; exact .int _
  · cases e; rw [vw_str h]; exact .str _
  · cases e; obtain ⟨a, vs, rfl, e1, _⟩ := vw_tup h; exact .tup (rs.sub _ _ e1)
  · cases e; obtain ⟨a, rfl, vs, e1, _⟩ := h; exact .lst e1
  · cases e
end
section
variable {X : Cx} {cad : Str → Addr} {W : WX} {pos p p2 : Pos} {e : Expr} {me : ME} {x : Str} {T : String}
theorem de_isi (hT : T ∈ clsB) (hg : Gl X "isinstance") (hm : X.mg "isinstance" = none) (hg2 : Gl X x) (hm2 : X.mg x = none) (hv : bootBuiltins x = some (.type T)) (he : PE X e (tE X.K cad W me)) (hn : x ≠ "__name__" := by decide) (hdb : (x == ("__debug__" : Str)) = false := by decide)
    (hs : starEach [e, .Name x p2] X.env = (false, eval e X.env) :: starEach [.Name x p2] X.env := by rfl) (hs2 : starEach [.Name x p2] X.env = (false, eval (.Name x p2) X.env) :: starEach [] X.env := by rfl) (hpl : (backTo pos (starEach [.Name x p2] X.env)).any (·.1) = false := by rfl) :
    PE X (.Call (.Name "isinstance" p) [e, .Name x p2] [] pos) (tE X.K cad W (eIsi T me)) := by
  refine pe_imp (pe_callB call_isi hg hm (by decide +kernel) (pa_cons he (pa_cons (pe_bltn (v := .ty T) hg2 hm2 hv rfl hn hdb) pa_nil hs2) hs) (by decide) (by decide) hs hpl) fun σ H Q h => ?_
  obtain ⟨F, ι, μ, ρ, rr, q⟩ := h
  refine ⟨F, ι, μ, ρ, rr, q.bind fun o μ1 F1 ι1 H1 v x1 s1 q1 h1 => ?_⟩
  obtain ⟨o2, e1, k⟩ := Post.of h1
  cases cx : deref ρ μ1 o with
  | none => rw [cx] at e1; cases e1
  | some w =>
    rw [cx] at e1
    unfold fIsi at e1
    cases ct : w.ty with
    | none => simp [ct] at e1
    | some a =>
      simp [ct] at e1
      subst e1
      have vw := OpV.view (rr.ext x1 s1) q1 cx
      refine ⟨v, .ty T, .type a, .type T, isiB a T, rfl, .ty T, .base (ty_ok s1 vw ct), kit_ty (isi_ok (ty_mem ct) hT), ?_⟩
      exact k F1 ι1 H1 (.bl (isiB a T)) (Ext.refl _ _ _) s1 (show VR X.K cad ι1 F1 (.bl _) _ from VR.bl_.mpr rfl)
theorem bb_bool : bootBuiltins "bool" = some (.type "bool") := by decide +kernel
theorem bb_str : bootBuiltins "str" = some (.type "str") := by decide +kernel
theorem bb_dict : bootBuiltins "dict" = some (.type "dict") := by decide +kernel
end
end DL

/-! ### sorted(d), the keys of d tuples of ints -/
namespace SrtT
open PySem PyProof.Rows Srt SrtO
section
variable {prog : Program} {w : World} {A : Around} {E : Value → Shared → Prop} {s : Shared}
/-- sorted(x) of whatever is collected to tuples of ints -/
theorem sorted_coll {x : Value} {vs : List Value} {k : Value → List Int} {Q : Value → Shared → Prop} (hz : vs.length ≤ sizeLine) (hp : ∀ v ∈ vs, TI s.heap v (k v) ∧ k v ≠ [])
    (hc : ∀ (R : List Value → Shared → Prop), (∀ (h1 : Heap) (tk : Nat), (∀ b o, s.heap.get? b = some o → h1.get? b = some o) → R vs { s with heap := h1, toks := tk }) → wpAny (model prog w) A.in1 (collect x) R (fun e s' => E e s') s)
    (h : ∀ (h1 h' : Heap) (tk : Nat) (d : Addr) (out : List Value), Srtd (fun v u => HT.lexLt (k v) (k u)) out → Stb (fun v u => HT.lexLt (k v) (k u)) out vs → (∀ b o, s.heap.get? b = some o → h1.get? b = some o) → (∀ b o, h1.get? b = some o → h'.get? b = some o) → h1.objs.size ≤ d → (∃ n, h'.get? d = some (seqObj "list" out.toArray n)) → Q (.ref d) { s with heap := h', toks := tk }) :
    wpAny (model prog w) A (call (.builtin "sorted") [x]) Q E s := by
  refine Calls.call_function_entry kind_sorted plain_sorted entry_sorted (args_sorted1 _) ?_
  unfold Builtin.«sorted»
  refine wpAny_bind (m := checkCount "sorted" 1 1 _) (wpAny_pure (wpAny_bind (hc _ fun h1 tk kp => wpAny_bind (wpAny_newList ?_ hz))))
  have ho : (h1.push (seqObj "list" vs.toArray 0)).get? h1.objs.size = some (seqObj "list" vs.toArray 0) := Heap.get?_push_size _ rfl
  have kp2 : ∀ b o, h1.get? b = some o → b ≠ h1.objs.size ∧ (h1.push (seqObj "list" vs.toArray 0)).get? b = some o := fun b o e => ⟨Nat.ne_of_lt (Heap.lt_size e), Heap.get?_push_of_some _ e⟩
  refine wpAny_bind (wpAny_holding (wpAny_call_entry slot_list_sort ⟨_, ho, rfl⟩ entry_list_sort (list_sort_ord (swo_lexLt k) ho hz (fun h2 => ?_) fun out hs hb => ⟨_, rfl, ?_⟩) (args_list_sort _)))
  · refine tups_sortable (by omega) (fun v hm => ⟨(hp v hm).1.keeps fun b o e _ => (kp2 b o (kp b o e)).2, (hp v hm).2⟩) fun o e => ?_
    have e' : some o = some (seqObj "list" vs.toArray 0) := e.symm.trans ho
    cases e'
    intro c
    exact absurd (Value.type.inj c) (by decide)
  · refine wpAny_pure ⟨_, rfl, h h1 _ _ h1.objs.size out hs hb kp (fun b o e => ?_) (Nat.le_refl _) (sortedHeap_at ho)⟩
    have hlt : b < h1.objs.size := Heap.lt_size e
    refine (sortedHeap_old (kp2 b o e).1 ?_).trans (kp2 b o e).2
    rw [size_push']
    exact Nat.lt_succ_of_lt hlt
end
end SrtT
namespace DL
open PySem PySem.Spec PyProof.Rows L2
variable [Tbs]
/-- sorted(d): a new list of the keys' own tuples -/
def rSortDT (K : PySem.W.Frag) : List V → Hp → VK → Prop := fun vs H Q => ∃ (a : Addr) (kvs : List (List Key × V)) (nss : List (List Int)), vs = [V.ref a] ∧ Rd H a (.dT kvs) ∧ kvs.map (·.1) = nss.map (fun ns => ns.map Sum.inl) ∧ (∀ ns ∈ nss, ns ≠ []) ∧
  ∀ (ys : List V) (k : V → List Int) (p : Addr), (∀ y ∈ ys, ∃ t, y = V.ref t ∧ H t = some (.tup ((k y).map V.int))) → (ys.map k).Perm nss → (ys.map k).Pairwise (fun a b => HT.lexLt b a = false) → H p = none → Q (.ref p) (upd H p (.lst ys))
theorem kint_map (ns : List Int) : (ns.map (Sum.inl (β := Str))).map kV = ns.map V.int := by
  rw [List.map_map]
  rfl
/-- the ints of a tuple that is tracked -/
noncomputable def tupI (H : Hp) (u : Value) : List Int := open Classical in if h : ∃ (t : Addr) (ns : List Int), u = Value.ref t ∧ H t = some (.tup (ns.map V.int)) then h.choose_spec.choose else []
theorem map_int_inj : ∀ {l m : List Int}, l.map V.int = m.map V.int → l = m
  | [], [], _ => rfl
  | [], _ :: _, h => by cases h
  | _ :: _, [], h => by cases h
  | x :: l, y :: m, h => by
    rw [List.map_cons, List.map_cons] at h
    injection h with h1 h2
    rw [V.int.inj h1, map_int_inj h2]
theorem tupI_eq {H : Hp} {t : Addr} {ns : List Int} (e : H t = some (.tup (ns.map V.int))) : tupI H (.ref t) = ns := by
  have hh : ∃ (t' : Addr) (ns' : List Int), Value.ref t = Value.ref t' ∧ H t' = some (.tup (ns'.map V.int)) := ⟨t, ns, rfl, e⟩
  unfold tupI
  rw [dif_pos hh]
  obtain ⟨e1, e2⟩ := hh.choose_spec.choose_spec
  have e1 : t = hh.choose := Value.ref.inj e1
  have e3 := e.symm.trans ((congrArg H e1).trans e2)
  exact (map_int_inj (HO.tup.inj (Option.some.inj e3))).symm
theorem kt_all {H : Hp} : ∀ {kvs : List (List Key × V)} {xs : List (List Key × Addr × Value)} {nss : List (List Int)}, KT H kvs xs → kvs.map (·.1) = nss.map (fun ns => ns.map Sum.inl) → (xs.map fun x => tupI H (.ref x.2.1)) = nss ∧ ∀ x ∈ xs, H x.2.1 = some (.tup ((tupI H (.ref x.2.1)).map V.int))
  | [], _, [], .nil, _ => ⟨rfl, fun x hx => by simp at hx⟩
  | [], _, _ :: _, .nil, e => by cases e
  | _ :: _, _, [], .cons _ _, e => by cases e
  | p :: kvs, q :: xs, ns :: nss, .cons h t, e => by
    rw [List.map_cons, List.map_cons] at e
    injection e with e1 e2
    obtain ⟨i1, i2⟩ := kt_all t e2
    have e3 : H q.2.1 = some (.tup (ns.map V.int)) := by
      rw [← kint_map, ← e1]
      exact h.2.1
    refine ⟨by rw [List.map_cons, tupI_eq e3, i1], fun x hx => ?_⟩
    rcases List.mem_cons.mp hx with z | z
    · rw [z, tupI_eq e3]
      exact e3
    · exact i2 x z
section
variable {X : Cx}
theorem cr_sortDT (hcalm : X.calm = true) : CallR X (.builtin "sorted") (rSortDT X.K) := by
  intro pins s σ H vs us Q I r h
  obtain ⟨a, kvs, nss, rfl, hd, hk, hne, q⟩ := h
  obtain ⟨u, rfl, ru⟩ := vals1 r
  obtain rfl : u = Value.ref a := ru
  obtain ⟨z, lo, xs, rel, o, es, ep, d1, d2, d3, d4, d5, d6⟩ := dt_rd I.hok hd
  obtain ⟨k1, k2⟩ := kt_all rel hk
  let ks : List Value := xs.map fun x => Value.ref x.2.1
  have hes : es.size = ks.length := by
    rw [← Array.length_toList, d4, List.length_map, List.length_map]
  have hln : ks.length ≤ sizeLine := by
    rw [List.length_map, ← Paired.length rel]
    exact z
  refine SrtT.sorted_coll (vs := ks) (k := tupI H) hln (fun v hv => ?_) (fun R hR => ?_) fun h1 h' tk d out s1 s2 kp1 kp2 hle hat => ?_
  · obtain ⟨x, hx, rfl⟩ := List.mem_map.mp hv
    have e := k2 x hx
    obtain ⟨_, its, r2, pt⟩ := I.hok _ _ e
    refine ⟨⟨x.2.1, its.toArray, rfl, pt, (show IntsAre its.toArray.toList _ by rw [List.toList_toArray]; exact Vals.ints r2)⟩, hne _ ?_⟩
    rw [← k1]
    exact List.mem_map.mpr ⟨x, hx, rfl⟩
  · refine PySem.W.kdu_collect (KdlSrc.rawDict (es := es) (ep := ep) lo) (I.ok.hd hcalm) ⟨o, d1, d2, d3⟩ (by rw [hes]; exact hln) fun h1 tk acc kp hacc => ?_
    have : acc.toList = ks := by
      refine List.ext_getElem? fun j => ?_
      have hl : acc.size = ks.length := hacc.1.trans hes
      by_cases hj : j < acc.size
      · have e1 : acc[j]? = some acc[j] := Array.getElem?_eq_getElem hj
        obtain ⟨hi, e2⟩ := hacc.2 j _ e1
        have e3 : es.toList[j]? = some es[j] := by rw [Array.getElem?_toList]; exact Array.getElem?_eq_getElem hi
        rw [d4, List.getElem?_map] at e3
        cases c : xs[j]? with
        | none => rw [c] at e3; cases e3
        | some x =>
          rw [c] at e3
          have e4 : es[j].key = Value.ref x.2.1 := by
            rw [← Option.some.inj e3]
            rfl
          rw [Array.getElem?_toList, e1, e2, e4]
          show _ = (xs.map fun x => Value.ref x.2.1)[j]?
          rw [List.getElem?_map, c]
          rfl
      · rw [Array.getElem?_toList, Array.getElem?_eq_none (by omega), List.getElem?_eq_none (by omega)]
    rw [this]
    exact hR h1 tk kp
  · have I1 : Inv X pins σ H { s with heap := h1, toks := tk } := I.kept kp1
    have hm : ∀ u ∈ out, ∃ x ∈ xs, u = Value.ref x.2.1 := fun u hu => by
      obtain ⟨x, hx, e⟩ := List.mem_map.mp (s2.perm.mem_iff.mp hu)
      exact ⟨x, hx, e.symm⟩
    have hb : ∀ u ∈ out, ∃ a, u = Value.ref a := fun u hu => by
      obtain ⟨x, _, e⟩ := hm u hu
      exact ⟨_, e⟩
    obtain ⟨n, hat⟩ := hat
    let kk : V → List Int := fun v => match v with | .ref t => tupI H (.ref t) | _ => []
    have ek : (out.map backV).map kk = out.map (tupI H) := by
      rw [List.map_map]
      refine List.map_congr_left fun u hu => ?_
      obtain ⟨x, _, rfl⟩ := hm u hu
      rfl
    refine ⟨.ref d, upd H d (.lst (out.map backV)), I1.laid (t' := tk) kp2 hle ⟨?_, out, n, vals_back hb, hat⟩, rfl, q _ kk d (fun y hy => ?_) ?_ ?_ (I1.hok.fresh hle)⟩
    · rw [List.length_map, s2.perm.length_eq]
      exact hln
    · obtain ⟨u, hu, rfl⟩ := List.mem_map.mp hy
      obtain ⟨x, hx, rfl⟩ := hm u hu
      exact ⟨x.2.1, rfl, k2 x hx⟩
    · rw [ek, ← k1]
      have := s2.perm.map (tupI H)
      rwa [List.map_map] at this
    · rw [ek, List.pairwise_map]
      exact s1
end
/-! several tuples come to be known -/
theorem know_tups {K : PySem.W.Frag} {cad : Str → Addr} {ι : List Addr} {μ : Store} {H : Hp} {k : V → List Int} : ∀ {ys : List V} {F : Hp}, RS K cad F ι μ H → (∀ y ∈ ys, ∃ t, y = V.ref t ∧ H t = some (.tup ((k y).map V.int))) →
    ∃ F2, Ext F ι H F2 ι H ∧ RS K cad F2 ι μ H ∧ ∀ y ∈ ys, ∃ t, y = V.ref t ∧ F2 t = some (.tup ((k y).map V.int))
  | [], F, rs, _ => ⟨F, Ext.refl _ _ _, rs, fun y hy => by simp at hy⟩
  | y :: ys, F, rs, h => by
    obtain ⟨F1, x1, r1, h1⟩ := know_tups rs fun z hz => h z (List.mem_cons_of_mem _ hz)
    obtain ⟨t, e1, e2⟩ := h y List.mem_cons_self
    obtain ⟨F2, x2, r2, e3, sm⟩ := know_tup r1 e2
    refine ⟨F2, x1.trans x2, r2, fun z hz => ?_⟩
    rcases List.mem_cons.mp hz with w | w
    · rw [w]
      exact ⟨t, e1, e3⟩
    · obtain ⟨t', f1, f2⟩ := h1 z w
      exact ⟨t', f1, sm _ _ f2⟩
end DL

namespace DL
open PySem PySem.Spec PyProof.Rows L2
variable [Tbs]
/-! ### dict(pairs), the keys tuples -/
def mergeT (kvs more : List (List Key × V)) : List (List Key × V) := more.foldl (fun acc kv => putK acc kv.1 kv.2) kvs
def PairT (H : Hp) (p : Addr) (kv : List Key × V) : Prop := ∃ b, H p = some (.tup [.ref b, kv.2]) ∧ H b = some (.tup (kv.1.map kV))
def rDictT (K : PySem.W.Frag) : List V → Hp → VK → Prop := fun xs H Q => ∃ (a : Addr) (ps : List Addr) (kvs : List (List Key × V)), xs = [.ref a] ∧ SqL K H a (ps.map V.ref) ∧ Paired (PairT H) ps kvs ∧ ∀ p, H p = none → Q (.ref p) (upd H p (.dT (mergeT [] kvs)))
theorem mergeT_len : ∀ (more kvs : List (List Key × V)), (mergeT kvs more).length ≤ kvs.length + more.length
  | [], kvs => Nat.le_refl _
  | kv :: more, kvs => by
    have h1 := mergeT_len more (putK kvs kv.1 kv.2)
    have h2 := length_putK kvs kv.1 kv.2
    show (mergeT (putK kvs kv.1 kv.2) more).length ≤ _
    rw [List.length_cons]
    omega
theorem merge_KT {H : Hp} : ∀ {more : List (List Key × V)} {ms : List (List Key × Addr × Value)} {kvs : List (List Key × V)} {xs : List (List Key × Addr × Value)}, KT H more ms → KT H kvs xs → KT H (mergeT kvs more) (storedAllH xs ms)
  | [], _, kvs, xs, .nil, h => h
  | kv :: more, m :: ms, kvs, xs, .cons hm t, h => by
    obtain ⟨e1, e2, e3⟩ := hm
    show KT H (mergeT (putK kvs kv.1 kv.2) more) (storedAllH (storedH xs m.1 m.2.1 m.2.2) ms)
    rw [← e1]
    exact merge_KT t (h.put kv.1 e2 e3)
section
variable {X : Cx}
theorem pairs_T {pins : List (Addr × Obj)} {σ : L2.St} {H : Hp} {s : Shared} (I : Inv X pins σ H s) : ∀ {ps : List Addr} {kvs : List (List Key × V)}, Paired (PairT H) ps kvs → ∃ ms : List (List Key × Addr × Value), KT H kvs ms ∧ Paired (fun (p : Addr) (m : List Key × Addr × Value) => IsTup s.heap p #[.ref m.2.1, m.2.2]) ps ms
  | [], _, .nil => ⟨[], .nil, .nil⟩
  | p :: ps, kv :: kvs, .cons h t => by
    obtain ⟨ms, r1, r2⟩ := pairs_T I t
    obtain ⟨b, e1, e2⟩ := h
    obtain ⟨_, its, rv, pt⟩ := I.hok _ _ e1
    obtain ⟨u1, u2, rfl, q1, q2⟩ := rv.two
    cases (show u1 = Value.ref b from q1)
    exact ⟨(kv.1, b, u2) :: ms, .cons ⟨rfl, e2, q2⟩ r1, .cons pt r2⟩
theorem paired_at {α β : Type} {P : α → β → Prop} : ∀ {l : List α} {m : List β} {j : Nat} {b : β}, Paired P l m → m[j]? = some b → ∃ a, l[j]? = some a ∧ P a b
  | [], _, j, b, .nil, e => by simp at e
  | a :: l, c :: m, 0, b, .cons h t, e => by
    simp at e
    subst e
    exact ⟨a, rfl, h⟩
  | a :: l, c :: m, j + 1, b, .cons h t, e => by
    simp only [List.getElem?_cons_succ] at e ⊢
    exact paired_at t e
theorem cr_dictT (hcalm : X.calm = true) (hu : X.A.units + 100 < cLine) : CallR X (.type "dict") (rDictT X.K) := by
  intro pins s σ H vs us Q I r h
  obtain ⟨a, ps, kvs, rfl, hs, hp, q⟩ := h
  obtain ⟨u, rfl, ru⟩ := vals1 r
  obtain rfl : u = Value.ref a := ru
  obtain ⟨its, rv, pl, hz⟩ := I.list hs
  obtain ⟨ms, r1, r2⟩ := pairs_T I hp
  have el : ps.length = ms.length := Paired.length r2
  have ek : kvs.length = ms.length := Paired.length r1
  rw [List.length_map] at hz
  have hits : its = ps.map Value.ref := by
    have key : ∀ {ps : List Addr} {its : List Value}, Vals (ps.map V.ref) its → its = ps.map Value.ref := fun {ps its} h => by
      induction ps generalizing its with
      | nil => cases h; rfl
      | cons p ps ih =>
        cases h with
        | cons h t =>
          rw [ih t, List.map_cons]
          congr 1
    exact key rv
  let prs : List (Value × Value) := ms.map fun m => (Value.ref m.2.1, m.2.2)
  have hpl : prs.length = ms.length := List.length_map ..
  have arg := PairArg.list (prog := X.prog) (w := X.w) a its.toArray (fun j => ps.getD j 0) prs
  refine call_dict_pairsH (knd := tupleKind (mixKind X.prog X.w)) (ps := ms) arg (I.ok.hd hcalm) (tupleKind_room_in1 (show X.A.in1.units + 1 < cLine from ?_)) ⟨pl, ?_, fun j k v e => ?_⟩ ⟨hpl.symm, fun i key v e => ?_⟩ (fun h' kp x hx => ?_) (by rw [hpl, ← el]; exact hz) fun h' tk dd kp => ?_
  · have : X.A.in1.units ≤ X.A.units + 1 := by first | exact Nat.le_refl _ | (show X.A.units + 1 ≤ X.A.units + 1; exact Nat.le_refl _)
    omega
  · rw [List.size_toArray, hits, List.length_map, hpl, el]
  · rw [List.getElem?_map] at e
    cases c : ms[j]? with
    | none => rw [c] at e; cases e
    | some m =>
      rw [c] at e
      cases e
      obtain ⟨p, e1, e2⟩ := paired_at r2 c
      have e3 : ps.getD j 0 = p := by rw [List.getD_eq_getElem?_getD, e1]; rfl
      refine ⟨?_, .inl ?_⟩
      · show its.toArray[j]? = some (Value.ref (ps.getD j 0))
        rw [e3, List.getElem?_toArray, hits, List.getElem?_map, e1]
        rfl
      · show s.heap.IsTuple (ps.getD j 0) _
        rw [e3]
        exact e2
  · have e : (ms.map fun m => (Value.ref m.2.1, m.2.2))[i]? = some (key, v) := e
    rw [List.getElem?_map] at e
    cases c : ms[i]? with
    | none => rw [c] at e; cases e
    | some m =>
      rw [c] at e
      cases e
      exact ⟨m.1, m.2.1, rfl, rfl⟩
  · obtain ⟨j, hj, e⟩ := List.getElem_of_mem hx
    obtain ⟨kv, e1, e2, e3, _⟩ := paired_at r1 (by rw [List.getElem?_eq_getElem hj, e])
    obtain ⟨o, its2, n, k1, k2, k3, k4⟩ := key_of I.hok e3
    rw [← e2]
    exact ⟨o, its2, n, kp _ _ (Nat.ne_of_lt (Heap.lt_size k1)) (by simp) k1, k2, k3, k4⟩
  · obtain ⟨o, es, ep, d1, d2, d3, d4, d5, d6⟩ := dd
    have hm : (s.heap.objs.size == sysModules) = false := beq_eq_false_iff_ne.mpr (Nat.ne_of_gt I.big)
    have hn := I.hok.fresh (Nat.le_refl s.heap.objs.size)
    refine ⟨.ref s.heap.objs.size, upd H s.heap.objs.size (.dT (mergeT [] kvs)), I.laid (t' := tk) (fun b o e => kp b o (by simp) e) (Nat.le_refl _) ⟨?_, hm, _, (merge_KT r1 .nil).keeps fun c ys ec => ?_, o, es, ep, d1, d2, d3, d4, d6⟩, rfl, q _ hn⟩
    · have := mergeT_len kvs []
      rw [List.length_nil, Nat.zero_add] at this
      exact Nat.le_trans this (by rw [ek, ← el]; exact hz)
    · rw [upd_ne (ne_of_none ec hn)]
      exact ec
end
end DL

namespace DL
open PySem PySem.Spec PyProof.Rows L2
variable [Tbs]
/-! ### d != {}, the keys of d tuples -/
section
variable {prog : Program} {w : World} {A : Around} {E : Value → Shared → Prop} {s : Shared}
theorem pairs_none {nm : String} {a b : Addr} {oa ob : Obj} {es : Array DictEntry} {ep ep' : Nat} {Q : Bool → Shared → Prop} (ha : (a == sysModules) = false) (hb : (b == sysModules) = false) (e1 : s.heap.get? a = some oa) (e2 : oa.data = .dict es ep) (e3 : s.heap.get? b = some ob) (e4 : ob.data = .dict #[] ep')
    (h : Q (decide (es.size = 0)) s) : wpAny (model prog w) A (Builtin.Dict.samePairs nm a b) Q E s := by
  unfold Builtin.Dict.samePairs Builtin.Dict.showsAll
  rw [if_neg (by rw [ha]; exact Bool.false_ne_true), if_neg (by rw [hb]; exact Bool.false_ne_true)]
  refine wpAny_bind (wpAny_pure (wpAny_bind (wpAny_pure (wpAny_bind (wpAny_dictEntries e1 e2 ?_)))))
  dsimp only
  refine wpAny_bind (wpAny_dictEntries e3 e4 ?_)
  by_cases hz : es.size = 0
  · rw [decide_eq_true hz] at h
    rw [if_neg (by rw [hz]; simp)]
    refine wpAny_bind (wpAny_dictEpoch e1 e2 (wpAny_bind ?_))
    rw [Std.Legacy.Range.forIn_eq_forIn_range']
    simp only [Std.Legacy.Range.size, Nat.sub_zero, Nat.add_sub_cancel, Nat.div_one, hz]
    exact wpAny_pure (wpAny_pure h)
  · rw [decide_eq_false hz] at h
    rw [if_pos (by simpa using hz)]
    exact wpAny_bind (wpAny_rule (wpAny_pure h))
end
def rNe0 : R2 := fun x y H Q => ∃ (a b : Addr) (kvs : List (List Key × V)), x = .ref a ∧ y = .ref b ∧ Rd H a (.dT kvs) ∧ Rd H b (.dK []) ∧ Q (.bl (!kvs.isEmpty)) H
theorem op_ne0 {X : Cx} (hu : X.A.units + 100 < cLine) : OpR X (compareOp .NotEq) rNe0 := by
  intro pins s σ H x y v u Q I rx ry h
  obtain ⟨a, b, kvs, rfl, rfl, ea, eb, q⟩ := h
  obtain rfl : v = Value.ref a := rx
  obtain rfl : u = Value.ref b := ry
  obtain ⟨z, ya, xs, rel, da⟩ := dt_rd I.hok ea
  obtain ⟨_, yb, vb, rb, db⟩ := dk_rd I.hok eb
  obtain ⟨o, es, ep, d1, d2, d3, d4, d5, d6⟩ := id da
  obtain ⟨o', es', ep', f1, f2, f3, f4, f5, f6⟩ := id db
  have hes : es.size = kvs.length := by rw [← Array.length_toList, d4, List.length_map, ← Paired.length rel]
  have hvb : vb = [] := List.eq_nil_of_length_eq_zero (by rw [← rb.length]; rfl)
  have hes' : es' = #[] := by
    have : es'.toList = [] := by
      have := f5.length
      rw [hvb] at this
      exact List.eq_nil_of_length_eq_zero this
    exact Array.toList_eq_nil_iff.mp this
  subst hes'
  refine wpAny_richCompare_same_room (op := .NotEq) da.typeIs db.typeIs PySem.F.slot_dict_ne (wpAny_call_entry PySem.F.slot_dict_ne da.typeIs PySem.F.entry_dict_ne ?_ (PySem.F.args_dict_ne_2 _ _)) (by omega)
  show wpAny _ _ (Builtin.Dict.dictSlotArgs "__ne__" ⟨[.ref a, .ref b], []⟩ >>= _) _ _ s
  refine wpAny_bind ?_
  unfold Builtin.Dict.dictSlotArgs
  refine wpAny_bind (wpAny_notOrdered_dict da.typeIs (wpAny_pure (wpAny_bind (wpAny_isInstance (T := "dict") db.typeIs PySem.F.sub_dict_dict ?_))))
  simp only [Bool.not_true, Bool.false_eq_true, if_false]
  refine wpAny_bind (wpAny_pure (wpAny_bind (wpAny_pure (wpAny_bind (pairs_none ya yb d1 d3 f1 f3 ?_)))))
  refine wpAny_pure ⟨_, rfl, fun x => (nomatch x), ?_⟩
  have e : (decide (es.size = 0) == false) = !kvs.isEmpty := by
    rw [hes]
    cases kvs <;> simp
  rw [e]
  exact ⟨.bl _, H, I, rfl, q⟩
def fNeB : Vw → Vw → Option Rv
  | .ob (.dT kvs), .ob (.dK []) => some (.sh (.bl (!kvs.isEmpty)))
  | x, y => fNe x y
def rNeB (K : PySem.W.Frag) : R2 := fun x y H Q => rNeD K x y H Q ∨ rNe0 x y H Q
theorem op_neB {X : Cx} (hu : X.A.units + 100 < cLine) : OpR X (compareOp .NotEq) (rNeB X.K) := (op_neA hu).or (op_ne0 hu)
section
variable {K : PySem.W.Frag} {cad : Str → Addr}
theorem sd_neB : Sd2 K cad (rNeB K) fNeB := by
  intro F ι μ H wx wy vx vy rv Q rs hx hy e k
  unfold fNeB at e
  split at e
  · next kvs =>
    cases e
    obtain ⟨a, rfl, us, e1, r1⟩ := hx
    obtain ⟨b, rfl, ws, e2, r2⟩ := hy
    refine .inr ⟨a, b, _, rfl, rfl, e1, e2, ?_⟩
    have : ((kvs.map (·.1)).zip us).isEmpty = kvs.isEmpty := by
      cases kvs with
      | nil => rfl
      | cons p kvs =>
        obtain ⟨u, us, rfl, _, _⟩ := r1
        rfl
    rw [this]
    exact fin_bl rs k
  · exact .inl (sd_ne rs hx hy e k)
end
/-! ### len, sorted: dicts with tuple keys too -/
def fLenB : List Vw → Option Rv
  | [.ob (.dT kvs)] => some (.sh (.int kvs.length))
  | ws => fLen ws
def rLenB (K : PySem.W.Frag) : List V → Hp → VK → Prop := fun xs H Q => rLenA K xs H Q ∨ ∃ a kvs, xs = [.ref a] ∧ Rd H a (.dT kvs) ∧ Q (.int kvs.length) H
theorem call_lenB {X : Cx} : CallR X (.builtin "len") (rLenB X.K) := call_lenA.or (by
  intro pins s σ H xs us Q I r h
  obtain ⟨p, kvs, rfl, hp, q⟩ := h
  obtain ⟨u, rfl, rx⟩ := vals1 r
  obtain rfl : u = .ref p := rx
  obtain ⟨z, hd, ys, rel, dd⟩ := dt_rd I.hok hp
  have hl : kvs.length = ys.length := Paired.length rel
  refine call_len_dictH hd dd (by rw [← hl]; rw [sizeLine_eq] at z; omega) ?_
  rw [← hl]
  exact ⟨.int kvs.length, H, I.tok _, ⟨_, rfl⟩, q⟩)
/-- the ints of keys -/
def keyIntss : List (List Key) → Option (List (List Int))
  | [] => some []
  | k :: r => (keyInts k).bind fun ns => if ns = [] then none else (keyIntss r).map (ns :: ·)
def fSrt : List Vw → Option Rv
  | [.ob (.dT kvs)] => (keyIntss (kvs.map (·.1))).map fun nss => .own (.lst ((sortL nss).map intsD))
  | ws => fSorted ws
def rSrt (K : PySem.W.Frag) : List V → Hp → VK → Prop := fun vs H Q => rSortA K vs H Q ∨ rSortDT K vs H Q
theorem cr_srt {X : Cx} (hc : X.calm = true) : CallR X (.builtin "sorted") (rSrt X.K) := (cr_sortA hc).or (cr_sortDT hc)
theorem keyIntss_ok : ∀ {ks : List (List Key)} {nss : List (List Int)}, keyIntss ks = some nss → ks = nss.map (fun ns => ns.map Sum.inl) ∧ ∀ ns ∈ nss, ns ≠ []
  | [], _, e => by cases e; exact ⟨rfl, fun ns h => by simp at h⟩
  | k :: ks, nss, e => by
    have e : ((keyInts k).bind fun ns => if ns = [] then none else (keyIntss ks).map (ns :: ·)) = some nss := e
    cases c : keyInts k with
    | none => rw [c] at e; cases e
    | some ns =>
      rw [c] at e
      have e : (if ns = [] then none else (keyIntss ks).map (ns :: ·)) = some nss := e
      by_cases hn : ns = []
      · rw [if_pos hn] at e; cases e
      · rw [if_neg hn] at e
        cases c2 : keyIntss ks with
        | none => rw [c2] at e; cases e
        | some nss' =>
          rw [c2] at e
          cases e
          obtain ⟨i1, i2⟩ := keyIntss_ok c2
          refine ⟨by rw [List.map_cons, ← i1, ← keyInts_ok c], fun x hx => ?_⟩
          rcases List.mem_cons.mp hx with z | z
          · rw [z]; exact hn
          · exact i2 x z
section
variable {K : PySem.W.Frag} {cad : Str → Addr}
theorem sd_lenB : SdB K cad (rLenB K) fLenB := by
  intro F ι μ H ws vs rv Q rs hw e q
  unfold fLenB at e
  split at e
  · next kvs =>
    cases e
    obtain ⟨v, rfl, a, rfl, us, e1, r⟩ := pr1 hw
    refine .inr ⟨a, _, rfl, e1, ?_⟩
    rw [zip_len r]
    exact fin_int rs q
  · exact .inl (sd_len rs hw e q)
theorem sd_srt : SdB K cad (rSrt K) fSrt := by
  intro F ι μ H ws vs rv Q rs hw e q
  unfold fSrt at e
  split at e
  · next kvs =>
    cases c : keyIntss (kvs.map (·.1)) with
    | none => simp [c] at e
    | some nss =>
      simp [c] at e
      subst e
      obtain ⟨v, rfl, a, rfl, us, e1, r⟩ := pr1 hw
      obtain ⟨k1, k2⟩ := keyIntss_ok c
      have lk : (kvs.map (·.1)).length = us.length := by
        have := r.len
        rw [List.length_map] at this ⊢
        exact this
      refine .inr ⟨a, _, nss, rfl, e1, by rw [List.map_fst_zip (by omega)]; exact k1, k2, fun ys k p h1 h2 h3 hp => ?_⟩
      obtain ⟨F2, x2, r2, h4⟩ := know_tups rs h1
      have e3 : ys.map k = sortL nss := sorted_uniq h3 (sortL_sorted nss) (h2.trans (sortL_perm nss).symm)
      have h5 : VRs K cad ι F2 ((ys.map k).map intsD) ys := by
        clear e3 h2 h3
        induction ys with
        | nil => rfl
        | cons y ys ih =>
          obtain ⟨t, f1, f2⟩ := h4 y List.mem_cons_self
          exact ⟨y, ys, rfl, VR.tup_.mpr ⟨t, _, f1, f2, ints_D⟩, ih (fun z hz => h1 z (List.mem_cons_of_mem _ hz)) fun z hz => h4 z (List.mem_cons_of_mem _ hz)⟩
      rw [e3] at h5
      refine q F2 ι _ _ (x2.trans (Ext.newH hp)) (r2.newH hp) ⟨p, _, rfl, (r2.fresh hp).1, (r2.fresh hp).2, hp, upd_same, _, rfl, h5⟩
  · exact .inl (sd_sorted rs hw e q)
end
/-! ### dict(pairs) -/
def pairsT : List D → Option (List (List Key × D))
  | [] => some []
  | .tup [.tup ks, v] :: r => (D.keys ks).bind fun k => (pairsT r).map ((k, v) :: ·)
  | _ => none
def mergeD {κ : Type} [DecidableEq κ] (kvs more : List (κ × D)) : List (κ × D) := more.foldl (fun acc kv => putD acc kv.1 kv.2) kvs
def fDictT : List Vw → Option Rv
  | [.ob (.lst ds)] => (pairsT ds).map fun ps => .own (.dT (mergeD [] ps))
  | _ => none
section
variable {K : PySem.W.Frag} {cad : Str → Addr} {F H : Hp} {ι : List Addr} {μ : Store}
theorem pairsT_ok (hs : Same F H) : ∀ {ds : List D} {vs : List V} {ps : List (List Key × D)}, VRs K cad ι F ds vs → pairsT ds = some ps → ∃ (as : List Addr) (us : List V), vs = as.map V.ref ∧ VRs K cad ι F (ps.map (·.2)) us ∧ Paired (PairT H) as ((ps.map (·.1)).zip us)
  | [], _, _, h, e => by
    cases e
    cases h
    exact ⟨[], [], rfl, rfl, .nil⟩
  | d :: ds, _, ps, h, e => by
    obtain ⟨v, vs, rfl, r, t⟩ := h
    unfold pairsT at e
    split at e
    · next heq => cases heq
    · next ks d' r' heq =>
      cases heq
      cases c : D.keys ks with
      | none => rw [c] at e; cases e
      | some k =>
        cases c2 : pairsT ds with
        | none => simp [c, c2] at e
        | some ps' =>
          simp [c, c2] at e
          subst e
          obtain ⟨as, us, rfl, i2, i3⟩ := pairsT_ok hs t c2
          obtain ⟨p, ws, rfl, e1, rw'⟩ := VR.tup_.mp r
          obtain ⟨w1, _, rfl, q1, rw'⟩ := rw'
          obtain ⟨w2, _, rfl, q2, rw'⟩ := rw'
          cases rw'
          obtain ⟨b, zs, rfl, e2, rz⟩ := VR.tup_.mp q1
          rw [keys_VRs rz c] at e2
          exact ⟨p :: as, w2 :: us, rfl, ⟨w2, us, rfl, q2, i2⟩, .cons ⟨b, hs _ _ e1, hs _ _ e2⟩ i3⟩
    · cases e
theorem merge_zip : ∀ {more kvs : List (List Key × D)} {us ws : List V}, VRs K cad ι F (kvs.map (·.2)) us → VRs K cad ι F (more.map (·.2)) ws → ∃ us', mergeT ((kvs.map (·.1)).zip us) ((more.map (·.1)).zip ws) = ((mergeD kvs more).map (·.1)).zip us' ∧ VRs K cad ι F ((mergeD kvs more).map (·.2)) us'
  | [], kvs, us, ws, h, t => by
    cases t
    exact ⟨us, rfl, h⟩
  | kv :: more, kvs, us, ws, h, t => by
    obtain ⟨w, ws, rfl, q, t⟩ := t
    obtain ⟨us1, e1, r1⟩ := zip_put kv.1 q h
    obtain ⟨us2, e2, r2⟩ := merge_zip r1 t
    refine ⟨us2, ?_, r2⟩
    show mergeT (putK ((kvs.map (·.1)).zip us) kv.1 w) ((more.map (·.1)).zip ws) = _
    rw [e1]
    exact e2
theorem sd_dictT : SdB K cad (rDictT K) fDictT := by
  intro F ι μ H ws vs rv Q rs hw e q
  match ws, hw, e with
  | [.ob (.lst ds)], hw, e =>
    obtain ⟨v, rfl, a, rfl, us, e1, r⟩ := pr1 hw
    have e : (pairsT ds).map (fun ps => Rv.own (.dT (mergeD [] ps))) = some rv := e
    cases c : pairsT ds with
    | none => rw [c] at e; cases e
    | some ps =>
      rw [c] at e
      cases e
      obtain ⟨as, ws, rfl, i2, i3⟩ := pairsT_ok rs.sub r c
      refine ⟨a, as, _, rfl, SqL.of e1, i3, fun p hp => ?_⟩
      obtain ⟨us', e2, r2⟩ := merge_zip (kvs := []) (us := []) rfl i2
      have e2 : mergeT [] ((ps.map (·.1)).zip ws) = _ := e2
      rw [e2]
      exact fin_own rs q hp ⟨us', rfl, r2⟩
end
end DL

namespace DL
open PySem PySem.Spec PyProof.Rows L2
variable [Tbs]
/-! ### d.get(k), d.get(k, x) -/
def Vw.isD : Vw → Bool
  | .ob (.dK _) => true
  | .ob (.dT _) => true
  | _ => false
def isDat (ρ : Ev) (μ : Store) (o : Op) : Bool := match deref ρ μ o with
  | some w => w.isD
  | none => false
def getAt (ρ : Ev) (μ : Store) (o : Op) (k : D) : Option (Option D) := (deref ρ μ o).bind fun w => (k.vw μ).bind fun wk => fGet w wk
def getR (μ : Store) (dx : D) : Option (Option D) → Res Op
  | some r => .ok (.sh (r.getD dx)) μ
  | none => .stk
def eGet1 (o k : ME) : ME := fun ρ μ => (o ρ μ).bind fun oo μ1 => if isDat ρ μ1 oo = true then (toD k ρ μ1).bind fun dk μ2 => getR μ2 .non (getAt ρ μ2 oo dk) else .stk
def eGet2 (o k x : ME) : ME := fun ρ μ => (o ρ μ).bind fun oo μ1 => if isDat ρ μ1 oo = true then (toD k ρ μ1).bind fun dk μ2 => (toD x ρ μ2).bind fun dx μ3 => getR μ3 dx (getAt ρ μ3 oo dk) else .stk
section
variable {X : Cx} {cad : Str → Addr} {W : WX} {apos cpos : Pos} {o e f : Expr} {mo me mf : ME}
theorem isDat_ok {K : PySem.W.Frag} {F H H0 : Hp} {ι : List Addr} {μ : Store} {ρ : Ev} {σ : L2.St} (r : R K cad F ι μ ρ σ H) {oo : Op} {v : V} (q : OpV K cad ρ σ H0 F ι H oo v) (h : isDat ρ μ oo = true) : ∃ a, v = .ref a ∧ IsD H a := by
  unfold isDat at h
  cases c : deref ρ μ oo with
  | none => rw [c] at h; cases h
  | some w =>
    rw [c] at h
    have vw := q.view r c
    cases w with
    | d x => cases h
    | ob ob =>
      obtain ⟨a, rfl, z⟩ := vw
      cases ob with
      | dK kvs => obtain ⟨vs, e1, _⟩ := z; exact ⟨a, rfl, .inl ⟨_, e1⟩⟩
      | dT kvs => obtain ⟨vs, e1, _⟩ := z; exact ⟨a, rfl, .inr ⟨_, e1⟩⟩
      | _ => cases h
theorem getAt_ok {K : PySem.W.Frag} {F H H0 : Hp} {ι : List Addr} {μ : Store} {ρ : Ev} {σ : L2.St} (r : R K cad F ι μ ρ σ H) {oo : Op} {v vk : V} {k : D} {g : Option D} (q : OpV K cad ρ σ H0 F ι H oo v) (qk : VR K cad ι F k vk) (h : getAt ρ μ oo k = some g) : ∃ a u, v = .ref a ∧ DGet H a vk u ∧ OptR K cad ι F g u := by
  unfold getAt at h
  cases c : deref ρ μ oo with
  | none => rw [c] at h; cases h
  | some w =>
    cases c2 : k.vw μ with
    | none => simp [c, c2] at h
    | some wk =>
      simp only [c, c2, Option.bind_some] at h
      exact fGet_ok r.rs (q.view r c) (VR.view r.rs qk c2) h
theorem OptR.getD {K : PySem.W.Frag} {F : Hp} {ι : List Addr} {g : Option D} {u : Option V} {d : D} {v : V} (h : OptR K cad ι F g u) (q : VR K cad ι F d v) : VR K cad ι F (g.getD d) (u.getD v) := by
  cases g <;> cases u <;> first | exact q | exact h | exact h.elim
theorem de_get1 (hu : X.A.units + 100 < cLine) (ho : PE X o (tE X.K cad W mo)) (he : PE X e (tE X.K cad W me)) (m : M1 X o "get" apos e cpos := by exact ⟨rfl, rfl, rfl, rfl⟩) : PE X (.Call (.Attribute o "get" apos) [e] [] cpos) (tE X.K cad W (eGet1 mo me)) := by
  refine pe_imp (pe_dget1 (by omega) ho (de_toD he) m) fun σ H Q ⟨F, ι, μ, ρ, r, q⟩ => ?_
  refine ⟨F, ι, μ, ρ, r, q.bind fun oo μ1 F1 ι1 H1 v x1 s1 q1 h1 => ?_⟩
  have r1 := r.ext x1 s1
  by_cases c : isDat ρ μ1 oo = true
  · rw [if_pos c] at h1
    obtain ⟨a, rfl, z⟩ := isDat_ok r1 q1 c
    refine ⟨a, rfl, z, F1, ι1, μ1, ρ, r1, h1.bind fun dk μ2 F2 ι2 H2 vk x2 s2 q2 h2 => ?_⟩
    have r2 := r1.ext x2 s2
    have q2 : VR X.K cad ι2 F2 dk vk := q2
    cases cg : getAt ρ μ2 oo dk with
    | none => rw [cg] at h2; exact h2.elim
    | some g =>
      rw [cg] at h2
      obtain ⟨a', u, e1, g1, g2⟩ := getAt_ok r2 (OpV.mono (H1 := H1) x2 q1) q2 cg
      cases e1
      exact ⟨u, g1, h2 F2 ι2 H2 _ (Ext.refl _ _ _) s2 (show VR X.K cad ι2 F2 _ _ from g2.getD (VR.non_.mpr rfl))⟩
  · rw [if_neg c] at h1
    exact h1.elim
theorem de_get2 (hu : X.A.units + 100 < cLine) (ho : PE X o (tE X.K cad W mo)) (he : PE X e (tE X.K cad W me)) (hf : PE X f (tE X.K cad W mf)) (m : M2 X o "get" apos e f cpos := by exact ⟨rfl, rfl, rfl, rfl⟩) : PE X (.Call (.Attribute o "get" apos) [e, f] [] cpos) (tE X.K cad W (eGet2 mo me mf)) := by
  refine pe_imp (pe_dget2 (by omega) ho (de_toD he) (de_toD hf) m) fun σ H Q ⟨F, ι, μ, ρ, r, q⟩ => ?_
  refine ⟨F, ι, μ, ρ, r, q.bind fun oo μ1 F1 ι1 H1 v x1 s1 q1 h1 => ?_⟩
  have r1 := r.ext x1 s1
  by_cases c : isDat ρ μ1 oo = true
  · rw [if_pos c] at h1
    obtain ⟨a, rfl, z⟩ := isDat_ok r1 q1 c
    refine ⟨a, rfl, z, F1, ι1, μ1, ρ, r1, h1.bind fun dk μ2 F2 ι2 H2 vk x2 s2 q2 h2 => ?_⟩
    have r2 := r1.ext x2 s2
    have q2 : VR X.K cad ι2 F2 dk vk := q2
    refine ⟨F2, ι2, μ2, ρ, r2, h2.bind fun dx μ3 F3 ι3 H3 vx x3 s3 q3 h3 => ?_⟩
    have r3 := r2.ext x3 s3
    have q3 : VR X.K cad ι3 F3 dx vx := q3
    cases cg : getAt ρ μ3 oo dk with
    | none => rw [cg] at h3; exact h3.elim
    | some g =>
      rw [cg] at h3
      obtain ⟨a', u, e1, g1, g2⟩ := getAt_ok r3 (OpV.mono (H1 := H1) x3 (OpV.mono (H1 := H1) x2 q1)) (VR.mono x3.f x3.i _ _ q2) cg
      cases e1
      exact ⟨u, g1, h3 F3 ι3 H3 _ (Ext.refl _ _ _) s3 (show VR X.K cad ι3 F3 _ _ from g2.getD q3)⟩
  · rw [if_neg c] at h1
    exact h1.elim
end
/-! ### xs[::-1] -/
def fRev : Vw → Option Rv
  | .ob (.lst ds) => some (.own (.lst ds.reverse))
  | _ => none
def eRev (a : ME) : ME := e1 fRev a
section
variable {X : Cx} {cad : Str → Addr} {W : WX} {pos p1 p2 p3 : Pos} {e : Expr} {me : ME} {k : Nat}
theorem de_rev (he : PE X e (tE X.K cad W me)) : PE X (.Subscript e (.Slice none none (some (.UnaryOp .USub (.Constant (.int 1) k p1) p2)) p3) pos) (tE X.K cad W (eRev me)) := by
  refine pe_imp (pe_revL he) fun σ H Q ⟨F, ι, μ, ρ, rr, q⟩ => ?_
  refine ⟨F, ι, μ, ρ, rr, q.bind fun o μ1 F1 ι1 H1 v x1 s1 q1 h1 => ?_⟩
  obtain ⟨o2, e1, k⟩ := Post.of h1
  cases cx : deref ρ μ1 o with
  | none => rw [cx] at e1; cases e1
  | some w =>
    rw [cx] at e1
    have vw := OpV.view (rr.ext x1 s1) q1 cx
    cases cf : fRev w with
    | none => simp [cf] at e1
    | some rv =>
      simp [cf] at e1
      subst e1
      unfold fRev at cf
      split at cf
      · cases cf
        obtain ⟨a, rfl, vs, e2, r⟩ := vw
        exact ⟨a, vs, rfl, SqL.of e2, fun p hp => fin_own s1 (fun F' ι' H' v x s z => k F' ι' H' v x s (RvR.op (ρ := ρ) (σ := σ) z)) hp ⟨_, rfl, r.rev⟩⟩
      · cases cf
end
/-! ### xs.pop(i), xs.pop(), xs a thing of the store -/
def popR (μ : Store) (n : Nat) (i : Int) : Res Op := match μ[n]? with
  | some (.lst xs) => if 0 ≤ i ∧ i < 9223372036854775808 then (match xs[i.toNat]? with
    | some d => .ok (.sh d) (μ.set n (.lst (xs.eraseIdx i.toNat)))
    | none => .stk) else .stk
  | _ => .stk
def isLst (μ : Store) (n : Nat) : Bool := match μ[n]? with
  | some (.lst _) => true
  | _ => false
def ePop (rcv a : ME) : ME := fun ρ μ => (rcv ρ μ).bind fun o μ1 => match o with
  | .sh (.loc n) => if isLst μ1 n = true then (toD a ρ μ1).bind fun d μ2 => (match d with
    | .int i => popR μ2 n i
    | _ => .stk) else .stk
  | _ => .stk
def ePop0 (rcv : ME) : ME := fun ρ μ => (rcv ρ μ).bind fun o μ1 => match o with
  | .sh (.loc n) => (match μ1[n]? with
    | some (.lst xs) => (match xs[xs.length - 1]? with
      | some d => .ok (.sh d) (μ1.set n (.lst xs.dropLast))
      | none => .stk)
    | _ => .stk)
  | _ => .stk
theorem VRs.erase {K : PySem.W.Frag} {cad : Str → Addr} {ι : List Addr} {F : Hp} : ∀ {ds : List D} {vs : List V} (i : Nat), VRs K cad ι F ds vs → VRs K cad ι F (ds.eraseIdx i) (vs.eraseIdx i)
  | [], _, i, h => by cases h; rfl
  | d :: ds, _, 0, h => by obtain ⟨v, vs, rfl, _, t⟩ := h; exact t
  | d :: ds, _, i + 1, h => by
    obtain ⟨v, vs, rfl, r, t⟩ := h
    exact ⟨v, _, rfl, r, VRs.erase i t⟩
section
variable {X : Cx} {cad : Str → Addr} {W : WX} {apos p : Pos} {o e : Expr} {mo me : ME}
theorem de_pop (ho : PE X o (tE X.K cad W mo)) (he : PE X e (tE X.K cad W me)) (mb : MB X o "pop" apos e [] p := by exact ⟨rfl, rfl, rfl, rfl, rfl⟩) : PE X (.Call (.Attribute o "pop" apos) [e] [] p) (tE X.K cad W (ePop mo me)) := by
  refine pe_imp (pe_bm PySem.F.plainAttrs_list PySem.F.slot_list_pop PySem.F.type_list_pop mt_popAt ho (pa_cons (de_toD he) pa_nil mb.hs) mb.hbase mb.hfew mb.hline mb.hs mb.hplain) fun σ H Q ⟨F, ι, μ, ρ, r, q⟩ => ?_
  refine ⟨F, ι, μ, ρ, r, q.bind fun oo μ1 F1 ι1 H1 v x1 s1 q1 h1 => ?_⟩
  have r1 := r.ext x1 s1
  cases oo with
  | own _ => exact h1.elim
  | slot _ => exact h1.elim
  | sh d =>
    cases d with
    | loc n =>
      dsimp only at h1
      by_cases c : isLst μ1 n = true
      · rw [if_pos c] at h1
        obtain ⟨a, rfl, e1⟩ := VR.loc_.mp (show VR X.K cad ι1 F1 (.loc n) v from q1)
        have hty : tyV X.K "list" (.ref a) H1 := by
          unfold isLst at c
          split at c
          · next xs ex =>
            obtain ⟨ho, e2, vs, rfl, _⟩ := s1.obj n _ a ex e1
            exact .inl ⟨rfl, vs, SqL.of e2⟩
          · cases c
        refine ⟨hty, F1, ι1, μ1, ρ, r1, h1.bind fun dk μ2 F2 ι2 H2 vk x2 s2 q2 h2 => ?_⟩
        have q2 : VR X.K cad ι2 F2 dk vk := q2
        have e1' : ι2[n]? = some a := pre_get x2.i e1
        cases dk with
        | int i =>
          obtain rfl := VR.int_.mp q2
          have h2 : Post X.K cad W (rlE X.K cad ρ σ) F2 ι2 H2 σ (popR μ2 n i) Q := h2
          unfold popR at h2
          cases cm : μ2[n]? with
          | none => rw [cm] at h2; exact h2.elim
          | some ob =>
            rw [cm] at h2
            cases ob with
            | lst xs =>
              dsimp only at h2
              by_cases hb : 0 ≤ i ∧ i < 9223372036854775808
              · rw [if_pos hb] at h2
                obtain ⟨ho, e2, vs, rfl, rv⟩ := s2.obj n _ a cm e1'
                cases cd : xs[i.toNat]? with
                | none => rw [cd] at h2; exact h2.elim
                | some d =>
                  rw [cd] at h2
                  obtain ⟨y, ey, qy⟩ := rv.get cd
                  have hl : i.toNat < vs.length := (List.getElem?_eq_some_iff.mp ey).1
                  refine ⟨a, vs, i, i.toNat, y, rfl, rfl, e2, by omega, by omega, ?_, ey, ?_⟩
                  · have ej : (if i < 0 then i + (vs.length : Int) else i) = i := if_neg (by omega)
                    show (if (decide (0 ≤ (if i < 0 then i + (vs.length : Int) else i)) && decide ((if i < 0 then i + (vs.length : Int) else i) < vs.length)) = true then some (if i < 0 then i + (vs.length : Int) else i).toNat else none) = _
                    rw [ej, if_pos (by rw [Bool.and_eq_true, decide_eq_true_eq, decide_eq_true_eq]; omega)]
                  · exact h2 F2 ι2 _ y (Ext.put e1' fun o u z => by rw [e2] at z; cases z) (s2.put e1' ⟨_, rfl, rv.erase _⟩) (show VR X.K cad ι2 F2 d y from qy)
              · rw [if_neg hb] at h2
                exact h2.elim
            | _ => exact h2.elim
        | _ => exact h2.elim
      · rw [if_neg c] at h1
        exact h1.elim
    | _ => exact h1.elim
end
end DL

namespace DL
open PySem PySem.Spec PyProof.Rows L2
variable [Tbs]
/-! ### for x in xs, xs a list of the store -/
def forLoc (g : D → Ev → Option Ev) (b : MS) (n : Nat) : Nat → Nat → MS
  | 0, _, _, _ => .stk
  | f + 1, i, ρ, μ => match μ[n]? with
    | some (.lst xs) => (match xs[i]? with
      | none => .ok (.nx, ρ) μ
      | some x => (match g x ρ with
        | none => .stk
        | some ρ1 => loopR (b ρ1 μ) (forLoc g b n f (i + 1))))
    | _ => .stk
def mForLoc (e : ME) (g : D → Ev → Option Ev) (b : MS) : MS := fun ρ μ => (toD e ρ μ).bind fun d μ1 => match d with
  | .loc n => if isLst μ1 n = true then forLoc g b n 16777300 0 ρ μ1 else .stk
  | _ => .stk
section
variable {X : Cx} {cad : Str → Addr} {W : WX} {E : Ent} {pos : Pos} {tg iter : Expr} {body : List Stmt} {me : ME} {t : TG} {g : D → Ev → Option Ev} {b : MS} {ws : List Nat}
theorem ds_forLoc (hp : PassesOwn (model X.prog X.w) X.A X.env X.xe) (hc : X.calm = true) (hi : PE X iter (tE X.K cad W me)) (hg : PG X tg t) (gk : GOk X.K cad t g ws) (hb : PSs X body (tS X.K cad W E b)) (hs : ∀ x, foldedSetIterable iter X.env x = pure x := by intro _; rfl) :
    PS X (.For tg iter body [] pos) (tS X.K cad W E (mForLoc me g b)) := by
  refine ps_imp (ps_for hp hc (pi_list (de_toD hi)) hg hb hs) fun D σ H ⟨F, ι, μ, ρ, r, h⟩ => ?_
  refine ⟨F, ι, μ, ρ, r.r, h.bind r.x fun d μ1 F1 ι1 H1 v _ x1 s1 q1 h1 => ?_⟩
  have q1 : VR X.K cad ι1 F1 d v := q1
  cases d with
  | loc n =>
    dsimp only at h1
    by_cases c : isLst μ1 n = true
    · rw [if_pos c] at h1
      obtain ⟨a, rfl, e1⟩ := VR.loc_.mp q1
      have hq : ∃ vs, SqL X.K H1 a vs := by
        unfold isLst at c
        split at c
        · next xs ex =>
          obtain ⟨ho, e2, vs, rfl, _⟩ := s1.obj n _ a ex e1
          exact ⟨vs, SqL.of e2⟩
        · cases c
      have h1 : PostS X.K cad W E F1 ι1 (forLoc g b n 16777300 0 ρ μ1) D := PostS.ext x1.f x1.i h1
      let P : Nat → Nat → L2.St → Hp → Prop := fun i m σ H => ∃ F2 ι2 μ2 ρ2, Same F1 F2 ∧ ι1 <+: ι2 ∧ R0 X.K cad E F2 ι2 μ2 ρ2 σ H ∧ PostS X.K cad W E F1 ι1 (forLoc g b n m i ρ2 μ2) D
      refine ⟨a, rfl, hq, P, ⟨16777300, F1, ι1, μ1, ρ, Same.refl _, List.prefix_rfl, r.ext x1 s1, h1⟩, ?_⟩
      rintro i m σ2 H2 ⟨F2, ι2, μ2, ρ2, hf, hi2, r2, h2⟩
      cases m with
      | zero => exact h2.elim
      | succ m =>
        unfold forLoc at h2
        have e1' : ι2[n]? = some a := pre_get hi2 e1
        cases cm : μ2[n]? with
        | none => rw [cm] at h2; exact h2.elim
        | some ob =>
          rw [cm] at h2
          cases ob with
          | lst xs =>
            dsimp only at h2
            obtain ⟨ho, e2, vs, rfl, rv⟩ := r2.r.rs.obj n _ a cm e1'
            cases cx : xs[i]? with
            | none =>
              rw [cx] at h2
              refine .inl ⟨⟨vs, SqL.of e2, ?_⟩, h2 F2 ι2 σ2 H2 hf hi2 r2⟩
              rw [← rv.len]
              exact List.getElem?_eq_none_iff.mp cx
            | some d =>
              rw [cx] at h2
              dsimp only at h2
              obtain ⟨v, ev, qv⟩ := rv.get cx
              refine .inr ⟨⟨vs, v, SqL.of e2, ev⟩, P (i + 1) m, fun σ' H' p => ⟨m, Nat.lt_succ_self _, p⟩, fun x H3 y => ?_⟩
              obtain ⟨rfl, y⟩ := y
              have ex := y vs (SqL.of e2)
              rw [ev] at ex
              cases ex
              cases cg : g d ρ2 with
              | none => rw [cg] at h2; exact h2.elim
              | some ρ4 =>
                rw [cg] at h2
                dsimp only at h2
                unfold loopR at h2
                refine gk r2.r qv cg fun σ4 r4 _ _ h4 => ?_
                have r4 := r2.of_g r4 h4
                refine ⟨F2, ι2, μ2, ρ4, r4, ?_⟩
                cases cb : b ρ4 μ2 with
                | stk => rw [cb] at h2; exact h2
                | exc x μ5 => rw [cb] at h2; exact h2
                | ok p μ5 =>
                  rw [cb] at h2
                  obtain ⟨f, ρ5⟩ := p
                  cases f with
                  | nx => exact fun F5 ι5 σ5 H5 a5 b5 r5 => ⟨F5, ι5, μ5, ρ5, hf.trans a5, hi2.trans b5, r5, h2⟩
                  | ct => exact fun F5 ι5 σ5 H5 a5 b5 r5 => ⟨F5, ι5, μ5, ρ5, hf.trans a5, hi2.trans b5, r5, h2⟩
                  | bk => exact fun F5 ι5 σ5 H5 a5 b5 r5 => h2 F5 ι5 σ5 H5 (hf.trans a5) (hi2.trans b5) r5
                  | rt rv => exact h2
          | _ => exact h2.elim
    · rw [if_neg c] at h1
      exact h1.elim
  | _ => exact h1.elim
end
/-! ### a dict of the store is locked while an expression runs -/
def whichLoc (it : ME) (ρ : Ev) (μ : Store) : Option Nat := match it ρ μ with
  | .ok (.sh (.loc n)) _ => some n
  | _ => none
def lockR (n : Nat) (r : Res Op) : Res Op := match r with
  | .ok o μ => (match μ[n]? with
    | some (.lkT kvs) => .ok o (μ.set n (.dT kvs))
    | some (.lkK kvs) => .ok o (μ.set n (.dK kvs))
    | _ => .stk)
  | _ => .stk
def eLk (it m : ME) : ME := fun ρ μ => match whichLoc it ρ μ with
  | none => .stk
  | some n => (match μ[n]? with
    | some (.dT kvs) => lockR n (m ρ (μ.set n (.lkT kvs)))
    | some (.dK kvs) => lockR n (m ρ (μ.set n (.lkK kvs)))
    | _ => .stk)
section
variable {X : Cx} {cad : Str → Addr} {W : WX} {e : Expr} {it m : ME}
theorem OpV.lock {K : PySem.W.Frag} {F H H0 H' : Hp} {ι : List Addr} {ρ : Ev} {σ : L2.St} {n : Nat} {a : Addr} {u : HO} {o : Op} {v : V} (e1 : ι[n]? = some a) (h0 : ∀ p, H p = none → H0 p = none) (q : OpV K cad ρ σ H F ι H' o v) : OpV K cad ρ σ H0 F ι (upd H' a u) o v := by
  cases o with
  | sh d => exact q
  | slot i => exact q
  | own ob =>
    obtain ⟨p, ho, e2, e3, e4, e5, e6, z⟩ := q
    refine ⟨p, ho, e2, e3, e4, h0 p e5, ?_, z⟩
    rw [upd_ne (show p ≠ a from fun w => e4 (w ▸ List.mem_of_getElem? e1))]
    exact e6
theorem lock_ok {K : PySem.W.Frag} {F H : Hp} {ι : List Addr} {μ : Store} {ρ : Ev} {σ : L2.St} {n : Nat} {a : Addr} {u : HO} {ob lk : Ob} {Q : VK} (r : R K cad F ι μ ρ σ H) (e1 : ι[n]? = some a) (e2 : H a = some u) (hu : ∀ o w, u ≠ .frz o w) (z : OR K cad ι F a ob u)
    (hl : ∀ od, OR K cad ι F a lk (.frz od u)) (hk : ∀ (F' : Hp) (ι' : List Addr) (ob' : Ob) (od : Obj), OR K cad ι' F' a ob' (.frz od u) → (∃ kvs, ob' = .lkT kvs ∧ OR K cad ι' F' a (.dT kvs) u) ∨ (∃ kvs, ob' = .lkK kvs ∧ OR K cad ι' F' a (.dK kvs) u))
    (q : Post K cad W (rlE K cad ρ σ) F ι H σ (lockR n (m ρ (μ.set n lk))) Q) (od : Obj) : tE K cad WT m σ (upd H a (.frz od u)) fun v H' => H' a = some (.frz od u) ∧ Q v (upd H' a u) := by
  have x0 : Ext F ι H F ι (upd H a (.frz od u)) := Ext.put e1 fun o w y => hu o w (Option.some.inj (e2.symm.trans y))
  have s0 : RS K cad F ι (μ.set n lk) (upd H a (.frz od u)) := r.rs.put e1 (hl od)
  refine ⟨F, ι, _, ρ, r.ext x0 s0, ?_⟩
  unfold lockR at q
  cases cm : m ρ (μ.set n lk) with
  | stk => rw [cm] at q; exact q
  | exc x μ1 => exact fun _ _ _ _ _ _ _ => trivial
  | ok o μ1 =>
    rw [cm] at q
    dsimp only at q
    intro F' ι' H' v x s q'
    have ha : H' a = some (.frz od u) := x.lk _ _ _ upd_same
    have e1' : ι'[n]? = some a := pre_get x.i e1
    refine ⟨ha, ?_⟩
    have x3 : Ext F ι H F' ι' (upd H' a u) := (x0.trans x).upd_of (fun w => absurd (List.mem_of_getElem? e1) w) fun o w y => hu o w (Option.some.inj (e2.symm.trans y))
    have fin : ∀ ob', OR K cad ι' F' a ob' u → RS K cad F' ι' (μ1.set n ob') (upd H' a u) := fun ob' z' => s.put e1' z'
    have q2 : OpV K cad ρ σ H F' ι' (upd H' a u) o v := OpV.lock e1' x0.dom q'
    cases c2 : μ1[n]? with
    | none => rw [c2] at q; exact q.elim
    | some ob' =>
      rw [c2] at q
      obtain ⟨ho, f1, f2⟩ := s.obj n ob' a c2 e1'
      rw [ha] at f1
      cases f1
      rcases hk F' ι' ob' od f2 with ⟨kvs, rfl, z'⟩ | ⟨kvs, rfl, z'⟩
      · exact q F' ι' _ v x3 (fin _ z') q2
      · exact q F' ι' _ v x3 (fin _ z') q2
theorem eLk_ok {K : PySem.W.Frag} {σ : L2.St} {H : Hp} {Q : VK} (h : tE K cad W (eLk it m) σ H Q) : tLockE (tE K cad WT m) σ H Q := by
  obtain ⟨F, ι, μ, ρ, r, q⟩ := h
  unfold eLk at q
  cases c : whichLoc it ρ μ with
  | none => rw [c] at q; exact q.elim
  | some n =>
    rw [c] at q
    dsimp only at q
    cases c2 : μ[n]? with
    | none => rw [c2] at q; exact q.elim
    | some ob =>
      rw [c2] at q
      obtain ⟨a, e1, _⟩ := r.rs.addr c2
      obtain ⟨u, e2, z⟩ := r.rs.obj n ob a c2 e1
      cases ob with
      | dT kvs =>
        obtain ⟨vs, rfl, rv⟩ := z
        refine ⟨a, _, e2, trivial, fun od => lock_ok (ob := .dT kvs) (lk := .lkT kvs) r e1 e2 (fun o w y => by cases y) ⟨vs, rfl, rv⟩ (fun od => ⟨od, vs, rfl, rv⟩) (fun F' ι' ob' od z => ?_) q od⟩
        cases ob' with
        | lkT kvs' =>
          obtain ⟨o, vs', e3, rv'⟩ := z
          injection e3 with e4 e5
          exact .inl ⟨kvs', rfl, vs', e5, rv'⟩
        | lst _ => obtain ⟨_, y, _⟩ := z; cases y
        | dK _ => obtain ⟨_, y, _⟩ := z; cases y
        | dT _ => obtain ⟨_, y, _⟩ := z; cases y
        | ins _ _ => obtain ⟨_, _, y, _⟩ := z; cases y
        | lkK _ => obtain ⟨_, _, y, _⟩ := z; injection y with y1 y2; cases y2
        | dead => exact z.elim
        | dN _ => obtain ⟨_, _, y, _⟩ := z; cases y
      | dK kvs =>
        obtain ⟨vs, rfl, rv⟩ := z
        refine ⟨a, _, e2, trivial, fun od => lock_ok (ob := .dK kvs) (lk := .lkK kvs) r e1 e2 (fun o w y => by cases y) ⟨vs, rfl, rv⟩ (fun od => ⟨od, vs, rfl, rv⟩) (fun F' ι' ob' od z => ?_) q od⟩
        cases ob' with
        | lkK kvs' =>
          obtain ⟨o, vs', e3, rv'⟩ := z
          injection e3 with e4 e5
          exact .inr ⟨kvs', rfl, vs', e5, rv'⟩
        | lst _ => obtain ⟨_, y, _⟩ := z; cases y
        | dK _ => obtain ⟨_, y, _⟩ := z; cases y
        | dT _ => obtain ⟨_, y, _⟩ := z; cases y
        | ins _ _ => obtain ⟨_, _, y, _⟩ := z; cases y
        | lkT _ => obtain ⟨_, _, y, _⟩ := z; injection y with y1 y2; cases y2
        | dead => exact z.elim
        | dN _ => obtain ⟨_, _, y, _⟩ := z; cases y
      | lst _ => exact q.elim
      | ins _ _ => exact q.elim
      | lkK _ => exact q.elim
      | lkT _ => exact q.elim
      | dead => exact q.elim
      | dN _ => exact q.elim
theorem de_lk (h : PE X e (tE X.K cad WT m)) : PE X e (tE X.K cad W (eLk it m)) := pe_imp (pe_lock h) fun σ H Q h => eLk_ok h
end
/-! ### [.. for k in d ..], d a locked dict of the store -/
def keysAt (μ : Store) (n : Nat) : Option (List D) := match μ[n]? with
  | some (.lkK kvs) => some (kvs.map fun kv => keyD kv.1)
  | some (.lkT kvs) => some (kvs.map fun kv => .tup (kv.1.map keyD))
  | _ => none
def eLcK (m : ME) (g : D → Ev → Option Ev) (ws : List Nat) (t : MT) (e : ME) : ME := fun ρ μ => (toD m ρ μ).bind fun d μ1 => match d with
  | .loc n => (match keysAt μ1 n with
    | some xs => (lcL g t e (wipeE ρ ws) xs μ1 []).bind fun ds μ2 => .ok (.own (.lst ds)) μ2
    | none => .stk)
  | _ => .stk
/-- what is walked, as long as what is locked stays -/
structure ItL (K : PySem.W.Frag) (cad : Str → Addr) (H : Hp) (J : It) (xs : List D) : Prop where
  go : ∀ {i : Nat} {H1 : Hp}, (∀ a o u, H a = some (.frz o u) → H1 a = some (.frz o u)) → i < xs.length → J.go i H1
  yl : ∀ {i : Nat} {d : D} {F1 : Hp} {ι1 : List Addr} {μ1 : Store} {H1 : Hp} {x : V} {H2 : Hp}, RS K cad F1 ι1 μ1 H1 → xs[i]? = some d → J.yld i H1 x H2 → ∃ F2, Ext F1 ι1 H1 F2 ι1 H2 ∧ RS K cad F2 ι1 μ1 H2 ∧ VR K cad ι1 F2 d x
  st : ∀ {i : Nat} {H1 : Hp}, (∀ a o u, H a = some (.frz o u) → H1 a = some (.frz o u)) → xs.length ≤ i → J.stop i H1
section
variable {K : PySem.W.Frag} {cad : Str → Addr} {F H : Hp} {ι : List Addr} {μ : Store}
theorem itl_dK {a : Addr} {o : Obj} {ks : List Key} {vs : List V} (e : H a = some (.frz o (.dK (ks.zip vs)))) (hl : ks.length = vs.length) : ItL K cad H (Itk a o (ks.zip vs)) (ks.map keyD) := by
  have zl : (ks.zip vs).length = ks.length := by rw [List.length_zip, ← hl, Nat.min_self]
  refine ⟨fun {i H1} lk h => ?_, fun {i d F1 ι1 μ1 H1 x H2} rs ed y => ?_, fun {i H1} lk h => ?_⟩
  · rw [List.length_map] at h
    exact ⟨lk _ _ _ e, by rw [zl]; exact h⟩
  · obtain ⟨rfl, k, v, e1, rfl⟩ := y
    have e2 : ks[i]? = some k := by
      have := congrArg (Option.map Prod.fst) e1
      rw [← List.getElem?_map, List.map_fst_zip (by omega)] at this
      exact this
    rw [List.getElem?_map, e2] at ed
    cases ed
    exact ⟨F1, Ext.refl _ _ _, rs, VR.keyD⟩
  · rw [List.length_map] at h
    exact ⟨lk _ _ _ e, by rw [zl]; exact h⟩
theorem itl_dT {a : Addr} {o : Obj} {ks : List (List Key)} {vs : List V} (e : H a = some (.frz o (.dT (ks.zip vs)))) (hl : ks.length = vs.length) : ItL K cad H (Itkt a o (ks.zip vs)) (ks.map fun k => .tup (k.map keyD)) := by
  have zl : (ks.zip vs).length = ks.length := by rw [List.length_zip, ← hl, Nat.min_self]
  refine ⟨fun {i H1} lk h => ?_, fun {i d F1 ι1 μ1 H1 x H2} rs ed y => ?_, fun {i H1} lk h => ?_⟩
  · rw [List.length_map] at h
    exact ⟨lk _ _ _ e, by rw [zl]; exact h⟩
  · obtain ⟨rfl, k, v, q, e1, rfl, eq⟩ := y
    have e2 : ks[i]? = some k := by
      have := congrArg (Option.map Prod.fst) e1
      rw [← List.getElem?_map, List.map_fst_zip (by omega)] at this
      exact this
    rw [List.getElem?_map, e2] at ed
    cases ed
    obtain ⟨F2, x2, r2, e3, _⟩ := know_tup rs eq
    exact ⟨F2, x2, r2, VR.tup_.mpr ⟨q, _, rfl, e3, VRs.keyD⟩⟩
  · rw [List.length_map] at h
    exact ⟨lk _ _ _ e, by rw [zl]; exact h⟩
end
section
variable {X : Cx} {cad : Str → Addr} {W : WX} {E : Ent} {pos : Pos} {elt tg iter : Expr} {ifs : List Expr} {scope : Scope} {own : List (Str × Nat)} {mi : ME} {t : TG} {g : D → Ev → Option Ev} {mt : MT} {me : ME}
theorem lcK_ok {K : PySem.W.Frag} {ws : List Nat} (gk : GOk K cad t g ws) {σ : L2.St} {ρ : Ev} {F1 H1 : Hp} {ι1 : List Addr} {μ1 : Store} {xs : List D} {J : It} {Q : VK} (r : R K cad F1 ι1 μ1 ρ σ H1) (q1 : ItL K cad H1 J xs)
    (h1 : Post K cad W (rlE K cad ρ σ) F1 ι1 H1 σ ((lcL g mt me (wipeE ρ ws) xs μ1 []).bind fun ds μ2 => .ok (.own (.lst ds)) μ2) Q) (D : Addr) (hD : H1 D = none) :
    ∃ W : Nat → Nat → Hp → Prop, (∃ m, W 0 m (upd H1 D (.lst []))) ∧ ∀ i m H, W i m H → (J.stop i H ∧ Q (.ref D) H) ∨ (J.go i H ∧ ∃ Nx : Hp → Prop, (∀ H', Nx H' → ∃ m', m' < m ∧ W (i + 1) m' H') ∧ ∀ x H', J.yld i H x H' → t x (wipe σ ws) H' fun σ2 H2 => wipe σ2 ws = wipe σ ws ∧ tT K cad WT mt σ2 H2 fun b H3 =>
      if b = true then tD K cad WT (toD me) σ2 H3 fun y H4 => ∃ acc, H4 D = some (.lst acc) ∧ acc.length < sizeLine ∧ Nx (upd H4 D (.lst (acc ++ [y]))) else Nx H3) := by
  have rw1 := r.wipe ws
  have s1 := r.rs
  let P : Nat → Hp → Prop := fun i H => ∃ F2 ι2 μ2 acc vs, Ext F1 ι1 H1 F2 ι2 H ∧ RS K cad F2 ι2 μ2 H ∧ H D = some (.lst vs) ∧ F2 D = none ∧ D ∉ ι2 ∧ VRs K cad ι2 F2 acc vs ∧
    Post K cad W (rlE K cad ρ σ) F1 ι1 H1 σ ((lcL g mt me (wipeE ρ ws) (xs.drop i) μ2 acc).bind fun ds μ3 => .ok (.own (.lst ds)) μ3) Q
  have hx0 : Ext F1 ι1 H1 F1 ι1 (upd H1 D (.lst [])) := Ext.newH hD
  refine ⟨fun i m H => i ≤ xs.length ∧ m = xs.length - i ∧ P i H, ⟨xs.length, Nat.zero_le _, rfl, F1, ι1, μ1, [], [], hx0, s1.newH hD, upd_same, (s1.fresh hD).1, (s1.fresh hD).2, rfl, h1⟩, ?_⟩
  rintro i m H2 ⟨hl, rfl, F2, ι2, μ2, acc, vs, x2, s2, e2, f2, n2, rv, h2⟩
  by_cases hlt : i < xs.length
  · refine .inr ⟨q1.go x2.lk hlt, P (i + 1), fun H' p => ⟨xs.length - (i + 1), by omega, hlt, rfl, p⟩, fun x H3 y => ?_⟩
    obtain ⟨F3, x3, s3, v3⟩ := q1.yl s2 (List.getElem?_eq_getElem hlt) y
    have orl : OR K cad ι2 F2 D (.lst acc) (.lst vs) := ⟨vs, rfl, rv⟩
    have x13 := x2.trans x3
    have e3 := x3.kept D _ n2 e2 (by intro _ z; cases z)
    have f3 := x3.apart f2 e2 orl
    have ed : xs.drop i = xs[i] :: xs.drop (i + 1) := List.drop_eq_getElem_cons hlt
    rw [ed] at h2
    unfold lcL at h2
    cases cg : g xs[i] (wipeE ρ ws) with
    | none => rw [cg] at h2; exact h2.elim
    | some ρ4 =>
      rw [cg] at h2
      dsimp only at h2
      refine gk (rw1.ext x13 s3) v3 cg fun σ4 r4 l4 g4 _ => ?_
      refine ⟨wipe_same (by rw [l4, wipe_length]) g4, F3, ι2, μ2, ρ4, r4, ?_⟩
      cases ct : mt ρ4 μ2 with
      | stk => rw [ct] at h2; exact h2
      | exc x μ5 => exact fun _ _ _ _ _ _ _ => trivial
      | ok c μ5 =>
        rw [ct] at h2
        intro F5 ι5 H5 c' x5 s5 q5
        have q5 : c = c' := q5
        subst q5
        have orl3 : OR K cad ι2 F3 D (.lst acc) (.lst vs) := orl.mono x3.f List.prefix_rfl
        have e5 := x5.kept D _ n2 e3 (by intro _ z; cases z)
        have f5 := x5.apart f3 e3 orl3
        have n5 : D ∉ ι5 := fun z => by have := x5.ni D z n2; rw [e3] at this; cases this
        have orl5 : OR K cad ι5 F5 D (.lst acc) (.lst vs) := orl3.mono x5.f x5.i
        have x15 := x13.trans x5
        cases c with
        | false =>
          rw [if_neg Bool.false_ne_true]
          obtain ⟨_, ev, rv5⟩ := orl5
          cases ev
          exact ⟨F5, ι5, μ5, acc, vs, x15, s5, e5, f5, n5, rv5, h2⟩
        | true =>
          rw [if_pos rfl]
          refine ⟨F5, ι5, μ5, ρ4, r4.ext x5 s5, ?_⟩
          have h2 : Post K cad W (rlE K cad ρ σ) F1 ι1 H1 σ (((toD me ρ4 μ5).bind fun d μ2 => if acc.length < 16777216 then lcL g mt me (wipeE ρ ws) (xs.drop (i + 1)) μ2 (acc ++ [d]) else .stk).bind fun ds μ3 => .ok (.own (.lst ds)) μ3) Q := h2
          cases cd : toD me ρ4 μ5 with
          | stk => rw [cd] at h2; exact h2
          | exc x μ6 => exact fun _ _ _ _ _ _ _ => trivial
          | ok d μ6 =>
            rw [cd] at h2
            intro F6 ι6 H6 v x6 s6 q6
            have q6 : VR K cad ι6 F6 d v := q6
            have e6 := x6.kept D _ n5 e5 (by intro _ z; cases z)
            have f6 := x6.apart f5 e5 orl5
            have n6 : D ∉ ι6 := fun z => by have := x6.ni D z n5; rw [e5] at this; cases this
            obtain ⟨_, ev, rv6⟩ := orl5.mono x6.f x6.i
            cases ev
            have h2 : Post K cad W (rlE K cad ρ σ) F1 ι1 H1 σ ((if acc.length < 16777216 then lcL g mt me (wipeE ρ ws) (xs.drop (i + 1)) μ6 (acc ++ [d]) else .stk).bind fun ds μ3 => .ok (.own (.lst ds)) μ3) Q := h2
            by_cases hz : acc.length < 16777216
            · rw [if_pos hz] at h2
              refine ⟨vs, e6, by rw [← rv6.len, sizeLine_eq]; exact hz, F6, ι6, μ6, acc ++ [d], vs ++ [v], (x15.trans x6).upd_of (fun _ => hD) (fun o u z => by rw [hD] at z; cases z), ?_, upd_same, f6, n6, rv6.app (VRs.cons q6 VRs.nil), h2⟩
              refine s6.grow (Same.refl _) (fun b o' z => ?_) (fun b hb o' z => ?_) s6.sep (s6.tb.put e6 (by intro _ z; cases z) (by intro _ _ z; cases z)) s6.ft
              · rw [upd_ne (fun w => by rw [w, f6] at z; cases z)]
                exact s6.sub b o' z
              · rw [upd_ne (show b ≠ D from fun w => n6 (w ▸ hb))]
                exact z
            · rw [if_neg hz] at h2
              exact h2.elim
  · have e : i = xs.length := by omega
    subst e
    rw [List.drop_length] at h2
    refine .inl ⟨q1.st x2.lk (Nat.le_refl _), ?_⟩
    exact h2 F2 ι2 H2 (.ref D) x2 s2 ⟨D, .lst vs, rfl, f2, n2, hD, e2, vs, rfl, rv⟩
theorem eLcK_ok {K : PySem.W.Frag} (gk : GOk K cad t g (own.map (·.2))) {σ : L2.St} {H : Hp} {Q : VK} (h : tE K cad W (eLcK mi g (own.map (·.2)) mt me) σ H Q) : tLc (iKeys (tD K cad W (toD mi))) t (tT K cad WT mt) (tD K cad WT (toD me)) (own.map (·.2)) σ H Q := by
  generalize own.map (·.2) = ws at gk h ⊢
  obtain ⟨F, ι, μ, ρ, r, h⟩ := h
  refine ⟨F, ι, μ, ρ, r, h.bind fun d μ1 F1 ι1 H1 v x1 s1 q1 h1 => ?_⟩
  have q1 : VR K cad ι1 F1 d v := q1
  have r1 := r.ext x1 s1
  cases d with
  | loc n =>
    dsimp only at h1
    obtain ⟨a, rfl, e1⟩ := VR.loc_.mp q1
    cases ck : keysAt μ1 n with
    | none => rw [ck] at h1; exact h1.elim
    | some xs =>
      rw [ck] at h1
      dsimp only at h1
      unfold keysAt at ck
      cases cm : μ1[n]? with
      | none => rw [cm] at ck; cases ck
      | some ob =>
        rw [cm] at ck
        obtain ⟨ho, e2, z⟩ := s1.obj n ob a cm e1
        cases ob with
        | lkK kvs =>
          have ck : kvs.map (fun kv => keyD kv.1) = xs := Option.some.inj ck
          obtain ⟨o, vs, rfl, rv⟩ := z
          have hl : (kvs.map (·.1)).length = vs.length := by have := rv.len; rw [List.length_map] at this ⊢; exact this
          refine ⟨a, o, rfl, .inl ⟨_, e2, fun D hD => lcK_ok gk r1 (J := Itk a o ((kvs.map (·.1)).zip vs)) (xs := xs) ?_ h1 D hD⟩⟩
          rw [← ck, show (kvs.map fun kv => keyD kv.1) = (kvs.map (·.1)).map keyD by rw [List.map_map]; rfl]
          exact itl_dK e2 hl
        | lkT kvs =>
          have ck : kvs.map (fun kv => D.tup (kv.1.map keyD)) = xs := Option.some.inj ck
          obtain ⟨o, vs, rfl, rv⟩ := z
          have hl : (kvs.map (·.1)).length = vs.length := by have := rv.len; rw [List.length_map] at this ⊢; exact this
          refine ⟨a, o, rfl, .inr ⟨_, e2, fun D hD => lcK_ok gk r1 (J := Itkt a o ((kvs.map (·.1)).zip vs)) (xs := xs) ?_ h1 D hD⟩⟩
          rw [← ck, show (kvs.map fun kv => DL.D.tup (kv.1.map keyD)) = (kvs.map (·.1)).map (fun k => DL.D.tup (k.map keyD)) by rw [List.map_map]; rfl]
          exact itl_dT e2 hl
        | _ => cases ck
  | _ => exact h1.elim
theorem de_lcK (hc : X.calm = true) (hN : X.N.Nodup) (hi : PE X iter (tE X.K cad W mi)) (ok : BlkOk X.N X.env.scope scope own)
    (hg : ∀ (s : Shared) (H : Hp) (C : Addr) (cl : List (Str × Addr)) (fp : List Addr), PG (X.blk s H scope (compEnvC scope cl C X.env) fp) tg t) (gk : GOk X.K cad t g (own.map (·.2)))
    (ht : ∀ (s : Shared) (H : Hp) (C : Addr) (cl : List (Str × Addr)) (fp : List Addr), PTs (X.blk s H scope (compEnvC scope cl C X.env) fp) ifs (tT X.K cad WT mt))
    (he : ∀ (s : Shared) (H : Hp) (C : Addr) (cl : List (Str × Addr)) (fp : List Addr), PE (X.blk s H scope (compEnvC scope cl C X.env) fp) elt (tE X.K cad WT me)) (hs : ∀ x, foldedSetIterable iter X.env x = pure x := by intro _; rfl) :
    PE X (.ListComp elt [⟨tg, iter, ifs, 0⟩] scope pos) (tE X.K cad W (eLcK mi g (own.map (·.2)) mt me)) :=
  pe_imp (pe_lc hc hN (pi_keys (de_toD hi)) ok hg ht (fun s H C cl fp => de_toD (he s H C cl fp)) hs) fun σ H Q h => eLcK_ok gk h
end
end DL

namespace DL
open PySem PySem.Spec PyProof.Rows L2
variable [Tbs]
/-! ### o.f -/
def fFld (c f : Str) : Vw → Option Rv
  | .ob (.ins c' fs) => if c' = c then (fs.lookup f).map .sh else none
  | _ => none
def eFld (c f : Str) (a : ME) : ME := e1 (fFld c f) a
theorem lookup_VRs {K : PySem.W.Frag} {cad : Str → Addr} {ι : List Addr} {F : Hp} (f : Str) : ∀ {fs : List (Str × D)} {vs : List V} {d : D}, VRs K cad ι F (fs.map (·.2)) vs → fs.lookup f = some d → ∃ v, ((fs.map (·.1)).zip vs).lookup f = some v ∧ VR K cad ι F d v
  | [], _, _, _, e => by cases e
  | (g, d') :: fs, _, d, h, e => by
    obtain ⟨v, vs, rfl, r, t⟩ := h
    rw [List.map_cons, List.zip_cons_cons]
    rw [List.lookup_cons] at e ⊢
    cases c : f == g with
    | true =>
      rw [c] at e
      cases e
      exact ⟨v, rfl, r⟩
    | false =>
      rw [c] at e
      exact lookup_VRs f t e
theorem lookup_none {f : Str} : ∀ {fs : List (Str × D)} {vs : List V}, fs.length = vs.length → fs.lookup f = none → ((fs.map (·.1)).zip vs).lookup f = none
  | [], vs, _, _ => rfl
  | (g, d') :: fs, [], h, _ => by cases h
  | (g, d') :: fs, v :: vs, h, e => by
    rw [List.map_cons, List.zip_cons_cons]
    rw [List.lookup_cons] at e ⊢
    cases c : f == g with
    | true => rw [c] at e; cases e
    | false =>
      rw [c] at e
      exact lookup_none (by simpa using h) e
section
variable {X : Cx} {cad : Str → Addr} {W : WX} {pos : Pos} {e : Expr} {me : ME} {c f : Str}
theorem de_fld (hC : Cls X.K (cad c)) (hN : NoAttr X.K (cad c) f) (he : PE X e (tE X.K cad W me)) (hb : attributeBase e f X.env (eval e X.env) = eval e X.env := by rfl) : PE X (.Attribute e f pos) (tE X.K cad W (eFld c f me)) := by
  refine pe_imp (pe_fld he hb) fun σ H Q ⟨F, ι, μ, ρ, rr, q⟩ => ?_
  refine ⟨F, ι, μ, ρ, rr, q.bind fun o μ1 F1 ι1 H1 v x1 s1 q1 h1 => ?_⟩
  obtain ⟨o2, e1, k⟩ := Post.of h1
  cases cx : deref ρ μ1 o with
  | none => rw [cx] at e1; cases e1
  | some w =>
    rw [cx] at e1
    have vw := OpV.view (rr.ext x1 s1) q1 cx
    cases cf : fFld c f w with
    | none => simp [cf] at e1
    | some rv =>
      simp [cf] at e1
      subst e1
      unfold fFld at cf
      split at cf
      · next c' fs =>
        split at cf
        · next hc =>
          subst hc
          obtain ⟨a, rfl, dx, vs, e2, r⟩ := vw
          cases cl : fs.lookup f with
          | none => rw [cl] at cf; cases cf
          | some d =>
            rw [cl] at cf
            cases cf
            obtain ⟨v, e3, q3⟩ := lookup_VRs f r cl
            exact ⟨a, _, dx, _, v, rfl, e2, hC, hN, e3, k F1 ι1 H1 v (Ext.refl _ _ _) s1 q3⟩
        · cases cf
      · cases cf
end
/-! ### o.f = e, o an instance of the store -/
def putFD (f : Str) (d : D) : List (Str × D) → List (Str × D)
  | [] => [(f, d)]
  | (g, x) :: r => if g = f then (g, d) :: r else (g, x) :: putFD f d r
def fldSet (c f : Str) (d : D) : Option Ob → Option Ob
  | some (.ins c' fs) => if c' = c ∧ fs.length < 1000 then some (.ins c (putFD f d fs)) else none
  | _ => none
def mFld (c f : Str) (o v : ME) : MS := fun ρ μ => (toD v ρ μ).bind fun d μ1 => (o ρ μ1).bind fun oo μ2 => match fldSet c f d (getOb ρ μ2 oo) with
  | some ob' => putRes ρ μ2 oo ob'
  | none => .stk
theorem putF_VRs {K : PySem.W.Frag} {cad : Str → Addr} {ι : List Addr} {F : Hp} {f : Str} {d : D} {v : V} (q : VR K cad ι F d v) : ∀ {fs : List (Str × D)} {vs : List V}, VRs K cad ι F (fs.map (·.2)) vs → ∃ us, putF f v ((fs.map (·.1)).zip vs) = ((putFD f d fs).map (·.1)).zip us ∧ VRs K cad ι F ((putFD f d fs).map (·.2)) us
  | [], _, h => by
    cases h
    exact ⟨[v], rfl, v, [], rfl, q, rfl⟩
  | (g, x) :: fs, _, h => by
    obtain ⟨u, vs, rfl, r, t⟩ := h
    rw [List.map_cons, List.zip_cons_cons]
    unfold putF putFD
    by_cases c : g = f
    · rw [if_pos c, if_pos c]
      exact ⟨v :: vs, rfl, v, vs, rfl, q, t⟩
    · rw [if_neg c, if_neg c]
      obtain ⟨us, e, z⟩ := putF_VRs q t
      exact ⟨u :: us, by rw [e]; rfl, u, us, rfl, r, z⟩
section
variable {X : Cx} {cad : Str → Addr} {W : WX} {E : Ent} {pos pos' : Pos} {o e : Expr} {mo me : ME} {c f : Str}
theorem ds_fld (hC : Cls X.K (cad c)) (hN : NoAttr X.K (cad c) f) (ho : PE X o (tE X.K cad W mo)) (he : PE X e (tE X.K cad W me)) (hs : swapsWith e (some (.Attribute o f pos')) pos.line X.env = pure false := by rfl) : PS X (.Assign [.Attribute o f pos'] e pos) (tS X.K cad W E (mFld c f mo me)) := by
  refine ps_imp (ps_fld ho (de_toD he) hs) fun D σ H ⟨F, ι, μ, ρ, r, h⟩ => ?_
  refine ⟨F, ι, μ, ρ, r.r, h.bind r.x fun d μ1 F1 ι1 H1 vd _ x1 s1 q1 h1 => ?_⟩
  have r1 := r.ext x1 s1
  refine ⟨F1, ι1, μ1, ρ, r1.r, h1.bind r1.x fun oo μ2 F2 ι2 H2 vo _ x2 s2 q2 h2 => ?_⟩
  have r2 := r1.ext x2 s2
  have q1 : VR X.K cad ι2 F2 d vd := VR.mono x2.f x2.i _ _ q1
  cases cg : getOb ρ μ2 oo with
  | none => rw [cg] at h2; exact h2.elim
  | some ob =>
    rw [cg] at h2
    cases ob with
    | ins c' fs =>
      by_cases hc : c' = c ∧ fs.length < 1000
      · have ef : fldSet c f d (some (.ins c' fs)) = some (.ins c (putFD f d fs)) := if_pos hc
        rw [ef] at h2
        obtain ⟨hc, hl⟩ := hc
        subst hc
        obtain ⟨a, ho, rfl, e1, ⟨dx, vs, rfl, rv⟩, kk⟩ := put_ok r2 q2 cg rfl
        refine ⟨a, _, dx, _, rfl, e1, hC, hN, by rw [zip_len rv]; exact hl, ?_⟩
        obtain ⟨us, e2, z2⟩ := putF_VRs (f := f) q1 rv
        rw [e2]
        exact h2 F2 ι2 σ _ (x1.f.trans x2.f) (x1.i.trans x2.i) (kk _ _ ⟨dx, us, rfl, z2⟩)
      · have ef : fldSet c f d (some (.ins c' fs)) = none := if_neg hc
        rw [ef] at h2
        exact h2.elim
    | _ => exact h2.elim
end
/-! ### methods, new instances -/
def DefM (P : Program) (w : World) (K : PySem.W.Frag) (mg : Str → Option Value) (base : Heap) (cad : Str → Addr) (c x : Str) (j np : Nat) (m : List D → Store → Res Rv) : Prop :=
  ∃ f fd ps, ps.length = np ∧ FnOk P w K mg base (L2.CX P w) j f fd ps (spM K cad np m) ∧ Meth K (cad c) x f ∧ Binds K fd ps []
def DefI (P : Program) (w : World) (K : PySem.W.Frag) (mg : Str → Option Value) (base : Heap) (cad : Str → Addr) (c : Str) (j np : Nat) (m : List D → Store → Res Rv) : Prop :=
  ∃ f fd ps, ps.length = np ∧ FnOk P w K mg base (L2.CX P w) j f fd ps (spM K cad np m) ∧ Mk K (cad c) f ∧ mg c = some (.ref (cad c)) ∧ Binds K fd ps []
theorem mkM {P : Program} {w : World} {K : PySem.W.Frag} {mg : Str → Option Value} {base : Heap} {cad : Str → Addr} {c x x' qual : Str} {st : Stmt} {f : Addr} {fd : FuncData} {N ps : List Str} {k : Nat} {b : MS} (F : Fun K x' qual st f fd) (S : FnScope N ps (defScope st)) (hm : Meth K (cad c) x f) (hb : Binds K fd ps [])
    (hB : ∀ (cdv : Value) (A : Around) (outer : List Env) (s : Shared) (H : Hp) (E : XK) (E0 : Ent), CodeAt K f cdv → Room k (A.deeper (envOfC qual (defScope st) s.heap.objs.size f cdv)) → Takes (cxOf (L2.CX P w) P w K mg base N qual (defScope st) f cdv A outer s H E) (WK E) →
      PassesOwn (model P w) (A.deeper (envOfC qual (defScope st) s.heap.objs.size f cdv)) (envOfC qual (defScope st) s.heap.objs.size f cdv) (cxOf (L2.CX P w) P w K mg base N qual (defScope st) f cdv A outer s H E).xe → PSs (cxOf (L2.CX P w) P w K mg base N qual (defScope st) f cdv A outer s H E) (defBody st) (tS K cad (WK E) E0 b)) :
    DefM P w K mg base cad c x (k + 1) ps.length (runB N.length ps.length b) := ⟨f, fd, ps, rfl, fnX F S hB, hm, hb⟩
theorem mkI {P : Program} {w : World} {K : PySem.W.Frag} {mg : Str → Option Value} {base : Heap} {cad : Str → Addr} {c x' qual : Str} {st : Stmt} {f : Addr} {fd : FuncData} {N ps : List Str} {k : Nat} {b : MS} (F : Fun K x' qual st f fd) (S : FnScope N ps (defScope st)) (hm : Mk K (cad c) f) (hg : mg c = some (.ref (cad c))) (hb : Binds K fd ps [])
    (hB : ∀ (cdv : Value) (A : Around) (outer : List Env) (s : Shared) (H : Hp) (E : XK) (E0 : Ent), CodeAt K f cdv → Room k (A.deeper (envOfC qual (defScope st) s.heap.objs.size f cdv)) → Takes (cxOf (L2.CX P w) P w K mg base N qual (defScope st) f cdv A outer s H E) (WK E) →
      PassesOwn (model P w) (A.deeper (envOfC qual (defScope st) s.heap.objs.size f cdv)) (envOfC qual (defScope st) s.heap.objs.size f cdv) (cxOf (L2.CX P w) P w K mg base N qual (defScope st) f cdv A outer s H E).xe → PSs (cxOf (L2.CX P w) P w K mg base N qual (defScope st) f cdv A outer s H E) (defBody st) (tS K cad (WK E) E0 b)) :
    DefI P w K mg base cad c (k + 1) ps.length (runB N.length ps.length b) := ⟨f, fd, ps, rfl, fnX F S hB, hm, hg, hb⟩
def insAt (c x : Str) (ρ : Ev) (μ : Store) (o : Op) : Bool := match deref ρ μ o with
  | some (.ob (.ins c' fs)) => decide (c' = c) && (fs.lookup x).isNone
  | _ => false
def selfD (o : Op) : Option D := match o with
  | .sh d => some d
  | _ => none
def methR (m : List D → Store → Res Rv) (o : Option D) (ds : List D) (μ : Store) : Res Op := match o with
  | some d => (m (d :: ds) μ).bind fun rv μ2 => .ok rv.op μ2
  | none => .stk
def eMeth (c x : Str) (m : List D → Store → Res Rv) (o : ME) (as : MA) : ME := fun ρ μ => (o ρ μ).bind fun oo μ1 => if insAt c x ρ μ1 oo = true then (as ρ μ1).bind fun ds μ2 => methR m (selfD oo) ds μ2 else .stk
def makeR (n : Nat) (r : Res Rv) : Res Op := match r with
  | .ok (.sh .non) μ => .ok (.sh (.loc n)) μ
  | .ok _ _ => .stk
  | .exc x μ => .exc x μ
  | .stk => .stk
def eMake (c : Str) (m : List D → Store → Res Rv) (as : MA) : ME := fun ρ μ => (as ρ μ).bind fun ds μ1 => makeR μ1.length (m (.loc μ1.length :: ds) (μ1 ++ [.ins c []]))
section
variable {X : Cx} {cad : Str → Addr} {W : WX} {pos p apos : Pos} {o e : Expr} {es : List Expr} {j k np : Nat} {m : List D → Store → Res Rv} {c x : Str} {as : MA} {mo : ME}
theorem insAt_ok {K : PySem.W.Frag} {F H H0 : Hp} {ι : List Addr} {μ : Store} {ρ : Ev} {σ : L2.St} (r : R K cad F ι μ ρ σ H) {oo : Op} {v : V} (q : OpV K cad ρ σ H0 F ι H oo v) (h : insAt c x ρ μ oo = true) : ∃ a dx fs, v = .ref a ∧ H a = some (.ins (cad c) dx fs) ∧ fs.lookup x = none := by
  unfold insAt at h
  split at h
  · next c' fs ed =>
    rw [Bool.and_eq_true] at h
    obtain ⟨h1, h2⟩ := h
    have h1 := of_decide_eq_true h1
    subst h1
    obtain ⟨a, rfl, dx, vs, e1, rv⟩ := q.view r ed
    have hl : fs.length = vs.length := by have := rv.len; rw [List.length_map] at this; exact this
    exact ⟨a, dx, _, rfl, e1, lookup_none hl (Option.isNone_iff_eq_none.mp h2)⟩
  · cases h
theorem eMeth_okN {K : PySem.W.Frag} {ta : TA} {σ : L2.St} {H : Hp} {Q : VK} (ht : ∀ σ H Q, tDs K cad W as σ H Q → ta σ H Q) (h : tE K cad W (eMeth c x (noX m) mo as) σ H Q) (hl : ∀ ρ μ ds μ1, as ρ μ = .ok ds μ1 → ds.length + 1 = np) : tMeth (cad c) x (spM K cad np m) [] E0 (tE K cad W mo) ta σ H Q := by
  obtain ⟨F, ι, μ, ρ, r, h⟩ := h
  refine ⟨F, ι, μ, ρ, r, h.bind fun oo μ1 F1 ι1 H1 v x1 s1 q1 h1 => ?_⟩
  have r1 := r.ext x1 s1
  by_cases ci : insAt c x ρ μ1 oo = true
  · rw [if_pos ci] at h1
    obtain ⟨a, dx, fs, rfl, e1, e2⟩ := insAt_ok r1 q1 ci
    refine ⟨a, dx, fs, rfl, e1, e2, ht _ _ _ ⟨F1, ι1, μ1, ρ, r1, ?_⟩⟩
    cases ca : as ρ μ1 with
    | stk => rw [ca] at h1; exact h1
    | exc y μ2 => rw [ca] at h1; exact h1
    | ok ds μ2 =>
      rw [ca] at h1
      intro F2 ι2 H2 vs x2 s2 q2
      have q2 : VRs K cad ι2 F2 ds vs := q2
      have h1 : Post K cad W (rlE K cad ρ σ) F1 ι1 H1 σ (methR (noX m) (selfD oo) ds μ2) Q := h1
      cases oo with
      | own _ => exact h1.elim
      | slot _ => exact h1.elim
      | sh d =>
        have qs : VR K cad ι2 F2 d (.ref a) := VR.mono x2.f x2.i _ _ q1
        refine ⟨F2, ι2, μ2, d :: ds, s2, ⟨_, _, rfl, qs, by rw [List.append_nil]; exact q2⟩, hl ρ μ1 ds μ2 ca, ?_⟩
        have h1 : Post K cad W (rlE K cad ρ σ) F1 ι1 H1 σ ((noX m (d :: ds) μ2).bind fun rv μ3 => .ok rv.op μ3) Q := h1
        cases cm : m (d :: ds) μ2 with
        | stk => rw [noX_stk (by rw [cm]; intro _ _ z; cases z)] at h1; exact h1.elim
        | exc y μ3 => rw [noX_stk (by rw [cm]; intro _ _ z; cases z)] at h1; exact h1.elim
        | ok rv μ3 =>
          have cn : noX m (d :: ds) μ2 = .ok rv μ3 := by unfold noX noXR; rw [cm]
          rw [cn] at h1
          intro F3 ι3 H3 v3 x3 s3 q3
          refine h1 F3 ι3 H3 v3 (x2.trans x3) s3 ?_
          exact (rlE K cad ρ σ).mono x2.dom (RvR.op q3)
  · rw [if_neg ci] at h1
    exact h1.elim
theorem eMeth_ok {K : PySem.W.Frag} {E : XK} {ta : TA} {σ : L2.St} {H : Hp} {Q : VK} (ht : ∀ σ H Q, tDs K cad (WK E) as σ H Q → ta σ H Q) (h : tE K cad (WK E) (eMeth c x m mo as) σ H Q) (hl : ∀ ρ μ ds μ1, as ρ μ = .ok ds μ1 → ds.length + 1 = np) : tMeth (cad c) x (spM K cad np m) [] E (tE K cad (WK E) mo) ta σ H Q := by
  obtain ⟨F, ι, μ, ρ, r, h⟩ := h
  refine ⟨F, ι, μ, ρ, r, h.bind fun oo μ1 F1 ι1 H1 v x1 s1 q1 h1 => ?_⟩
  have r1 := r.ext x1 s1
  by_cases ci : insAt c x ρ μ1 oo = true
  · rw [if_pos ci] at h1
    obtain ⟨a, dx, fs, rfl, e1, e2⟩ := insAt_ok r1 q1 ci
    refine ⟨a, dx, fs, rfl, e1, e2, ht _ _ _ ⟨F1, ι1, μ1, ρ, r1, ?_⟩⟩
    cases ca : as ρ μ1 with
    | stk => rw [ca] at h1; exact h1
    | exc y μ2 => rw [ca] at h1; exact h1
    | ok ds μ2 =>
      rw [ca] at h1
      intro F2 ι2 H2 vs x2 s2 q2
      have q2 : VRs K cad ι2 F2 ds vs := q2
      have h1 : Post K cad (WK E) (rlE K cad ρ σ) F1 ι1 H1 σ (methR m (selfD oo) ds μ2) Q := h1
      cases oo with
      | own _ => exact h1.elim
      | slot _ => exact h1.elim
      | sh d =>
        have qs : VR K cad ι2 F2 d (.ref a) := VR.mono x2.f x2.i _ _ q1
        refine ⟨F2, ι2, μ2, d :: ds, s2, ⟨_, _, rfl, qs, by rw [List.append_nil]; exact q2⟩, hl ρ μ1 ds μ2 ca, ?_⟩
        have h1 : Post K cad (WK E) (rlE K cad ρ σ) F1 ι1 H1 σ ((m (d :: ds) μ2).bind fun rv μ3 => .ok rv.op μ3) Q := h1
        cases cm : m (d :: ds) μ2 with
        | stk => rw [cm] at h1; exact h1
        | exc y μ3 => rw [cm] at h1; exact fun F3 ι3 H3 d3 x3 s3 q3 => h1 F3 ι3 H3 d3 (x2.trans x3) s3 q3
        | ok rv μ3 =>
          rw [cm] at h1
          intro F3 ι3 H3 v3 x3 s3 q3
          refine h1 F3 ι3 H3 v3 (x2.trans x3) s3 ?_
          exact (rlE K cad ρ σ).mono x2.dom (RvR.op q3)
  · rw [if_neg ci] at h1
    exact h1.elim
theorem de_meth (d : DefM X.prog X.w X.K X.mg X.base cad c x j np m) (hC : Cls X.K (cad c)) (hr : Room k X.A) (hj : j ≤ k) (ho : PE X o (tE X.K cad W mo)) (ha : PA X (e :: es) (tDs X.K cad W as)) (hl : ∀ ρ μ ds μ1, as ρ μ = .ok ds μ1 → ds.length + 1 = np) {pl : Sem Bool}
    (he : starEach (e :: es) X.env = (false, eval e X.env) :: starEach es X.env := by rfl) (hpl : (backTo pos (starEach es X.env)).any (·.1) = false := by rfl) (hev : eval (.Call (.Attribute o x apos) (e :: es) [] pos) X.env = (do
      let ov ← eval o X.env
      standAt apos.atName
      let (f, first) ← holding [ov] (getMethod ov x pl)
      callWith pos f first (backTo pos (starEach (e :: es) X.env)) (backToKw pos (keywordEach [] X.env))) := by rfl) :
    PE X (.Call (.Attribute o x apos) (e :: es) [] pos) (tE X.K cad W (eMeth c x (noX m) mo as)) := by
  obtain ⟨f, fd, ps, hn, G, hm, hb⟩ := d
  exact pe_imp (pe_meth ho hC hm G (hr.mono hj) hb .nil passN ha he hpl hev) fun σ H Q h => eMeth_okN (fun _ _ _ z => z) h hl
theorem de_methX {E : XK} (tk : Takes X (WK E)) (d : DefM X.prog X.w X.K X.mg X.base cad c x j np m) (hC : Cls X.K (cad c)) (hr : Room k X.A) (hj : j ≤ k) (ho : PE X o (tE X.K cad (WK E) mo)) (ha : PA X (e :: es) (tDs X.K cad (WK E) as)) (hl : ∀ ρ μ ds μ1, as ρ μ = .ok ds μ1 → ds.length + 1 = np) {pl : Sem Bool}
    (he : starEach (e :: es) X.env = (false, eval e X.env) :: starEach es X.env := by rfl) (hpl : (backTo pos (starEach es X.env)).any (·.1) = false := by rfl) (hev : eval (.Call (.Attribute o x apos) (e :: es) [] pos) X.env = (do
      let ov ← eval o X.env
      standAt apos.atName
      let (f, first) ← holding [ov] (getMethod ov x pl)
      callWith pos f first (backTo pos (starEach (e :: es) X.env)) (backToKw pos (keywordEach [] X.env))) := by rfl) :
    PE X (.Call (.Attribute o x apos) (e :: es) [] pos) (tE X.K cad (WK E) (eMeth c x m mo as)) := by
  obtain ⟨f, fd, ps, hn, G, hm, hb⟩ := d
  exact pe_imp (pe_meth ho hC hm G (hr.mono hj) hb .nil (passes_call tk fun _ _ _ _ h => h) ha he hpl hev) fun σ H Q h => eMeth_ok (fun _ _ _ z => z) h hl
theorem de_meth0 (d : DefM X.prog X.w X.K X.mg X.base cad c x j 1 m) (hC : Cls X.K (cad c)) (hr : Room k X.A) (hj : j ≤ k) (ho : PE X o (tE X.K cad W mo)) {pl : Sem Bool}
    (hev : eval (.Call (.Attribute o x apos) [] [] pos) X.env = (do
      let ov ← eval o X.env
      standAt apos.atName
      let (f, first) ← holding [ov] (getMethod ov x pl)
      callWith pos f first (backTo pos (starEach [] X.env)) (backToKw pos (keywordEach [] X.env))) := by rfl) :
    PE X (.Call (.Attribute o x apos) [] [] pos) (tE X.K cad W (eMeth c x (noX m) mo aNil)) := by
  obtain ⟨f, fd, ps, hn, G, hm, hb⟩ := d
  refine pe_imp (pe_meth0 ho hC hm G (hr.mono hj) hb .nil passN hev) fun σ H Q h => eMeth_okN (as := aNil) (fun σ H Q ⟨F, ι, μ, ρ, r, q⟩ => q F ι H [] (Ext.refl _ _ _) r.rs rfl) h fun ρ μ ds μ1 e => by cases e; rfl
theorem de_meth0X {E : XK} (tk : Takes X (WK E)) (d : DefM X.prog X.w X.K X.mg X.base cad c x j 1 m) (hC : Cls X.K (cad c)) (hr : Room k X.A) (hj : j ≤ k) (ho : PE X o (tE X.K cad (WK E) mo)) {pl : Sem Bool}
    (hev : eval (.Call (.Attribute o x apos) [] [] pos) X.env = (do
      let ov ← eval o X.env
      standAt apos.atName
      let (f, first) ← holding [ov] (getMethod ov x pl)
      callWith pos f first (backTo pos (starEach [] X.env)) (backToKw pos (keywordEach [] X.env))) := by rfl) :
    PE X (.Call (.Attribute o x apos) [] [] pos) (tE X.K cad (WK E) (eMeth c x m mo aNil)) := by
  obtain ⟨f, fd, ps, hn, G, hm, hb⟩ := d
  refine pe_imp (pe_meth0 ho hC hm G (hr.mono hj) hb .nil (passes_call tk fun _ _ _ _ h => h) hev) fun σ H Q h => eMeth_ok (as := aNil) (fun σ H Q ⟨F, ι, μ, ρ, r, q⟩ => q F ι H [] (Ext.refl _ _ _) r.rs rfl) h fun ρ μ ds μ1 e => by cases e; rfl
theorem eMake_okN {K : PySem.W.Frag} {ta : TA} {σ : L2.St} {H : Hp} {Q : VK} (ht : ∀ σ H Q, tDs K cad W as σ H Q → ta σ H Q) (h : tE K cad W (eMake c (noX m) as) σ H Q) (hl : ∀ ρ μ ds μ1, as ρ μ = .ok ds μ1 → ds.length + 1 = np) : tMake (cad c) (spM K cad np m) [] E0 ta σ H Q := by
  obtain ⟨F, ι, μ, ρ, r, h⟩ := h
  refine ht _ _ _ ⟨F, ι, μ, ρ, r, ?_⟩
  unfold eMake at h
  cases ca : as ρ μ with
  | stk => rw [ca] at h; exact h
  | exc y μ2 => rw [ca] at h; exact h
  | ok ds μ1 =>
    rw [ca] at h
    have h : Post K cad W (rlE K cad ρ σ) F ι H σ (makeR μ1.length (noX m (.loc μ1.length :: ds) (μ1 ++ [.ins c []]))) Q := h
    intro F1 ι1 H1 vs x1 s1 q1 y dy hy hdy hne
    have q1 : VRs K cad ι1 F1 ds vs := q1
    let H2 := upd H1 dy (.own y)
    have hy2 : H2 y = none := by
      show upd H1 dy (.own y) y = none
      rw [upd_ne (fun z => hne z.symm)]
      exact hy
    have x2 : Ext F1 ι1 H1 F1 ι1 H2 := Ext.newH hdy
    have s2 : RS K cad F1 ι1 μ1 H2 := s1.newH hdy
    have x3 : Ext F1 ι1 H2 F1 ι1 (upd H2 y (.ins (cad c) dy [])) := Ext.newH hy2
    have s3 : RS K cad F1 ι1 μ1 (upd H2 y (.ins (cad c) dy [])) := s2.newH hy2
    have s4 : RS K cad F1 (ι1 ++ [y]) (μ1 ++ [.ins c []]) (upd H2 y (.ins (cad c) dy [])) := s3.push upd_same (s2.fresh hy2).2 (s2.fresh hy2).1 ⟨dy, [], rfl, rfl⟩
    have x4 : Ext F1 ι1 H1 F1 (ι1 ++ [y]) (upd H2 y (.ins (cad c) dy [])) := by
      have z := x2.trans x3
      refine ⟨z.f, pre_snoc _ _, z.kept, z.dom, z.nf, fun b hb hn => ?_, z.lk⟩
      rcases List.mem_append.mp hb with w | w
      · exact absurd w hn
      · have : b = y := by simpa using w
        rw [this]
        exact hy
    have el : (ι1 ++ [y])[μ1.length]? = some y := by rw [← s1.len]; simp
    refine ⟨F1, ι1 ++ [y], μ1 ++ [.ins c []], .loc μ1.length :: ds, s4, ⟨_, _, rfl, VR.loc_.mpr ⟨y, rfl, el⟩, by rw [List.append_nil]; exact VRs.mono (Same.refl _) (pre_snoc _ _) _ _ q1⟩, hl ρ μ ds μ1 ca, ?_⟩
    unfold makeR at h
    cases cm : m (.loc μ1.length :: ds) (μ1 ++ [.ins c []]) with
    | stk => rw [noX_stk (by rw [cm]; intro _ _ z; cases z)] at h; exact h.elim
    | exc y μ3 => rw [noX_stk (by rw [cm]; intro _ _ z; cases z)] at h; exact h.elim
    | ok rv μ3 =>
      have cn : noX m (.loc μ1.length :: ds) (μ1 ++ [.ins c []]) = .ok rv μ3 := by unfold noX noXR; rw [cm]
      rw [cn] at h
      intro F5 ι5 H5 v5 x5 s5 q5
      cases rv with
      | own _ => exact h.elim
      | sh d =>
        cases d with
        | non =>
          refine ⟨VR.non_.mp (show VR K cad ι5 F5 .non v5 from q5), ?_⟩
          exact h F5 ι5 H5 (.ref y) (x1.trans (x4.trans x5)) s5 (show VR K cad ι5 F5 (.loc μ1.length) _ from VR.loc_.mpr ⟨y, rfl, pre_get x5.i el⟩)
        | _ => exact h.elim
theorem eMake_ok {K : PySem.W.Frag} {E : XK} {ta : TA} {σ : L2.St} {H : Hp} {Q : VK} (ht : ∀ σ H Q, tDs K cad (WK E) as σ H Q → ta σ H Q) (h : tE K cad (WK E) (eMake c m as) σ H Q) (hl : ∀ ρ μ ds μ1, as ρ μ = .ok ds μ1 → ds.length + 1 = np) : tMake (cad c) (spM K cad np m) [] E ta σ H Q := by
  obtain ⟨F, ι, μ, ρ, r, h⟩ := h
  refine ht _ _ _ ⟨F, ι, μ, ρ, r, ?_⟩
  unfold eMake at h
  cases ca : as ρ μ with
  | stk => rw [ca] at h; exact h
  | exc y μ2 => rw [ca] at h; exact h
  | ok ds μ1 =>
    rw [ca] at h
    have h : Post K cad (WK E) (rlE K cad ρ σ) F ι H σ (makeR μ1.length (m (.loc μ1.length :: ds) (μ1 ++ [.ins c []]))) Q := h
    intro F1 ι1 H1 vs x1 s1 q1 y dy hy hdy hne
    have q1 : VRs K cad ι1 F1 ds vs := q1
    let H2 := upd H1 dy (.own y)
    have hy2 : H2 y = none := by
      show upd H1 dy (.own y) y = none
      rw [upd_ne (fun z => hne z.symm)]
      exact hy
    have x2 : Ext F1 ι1 H1 F1 ι1 H2 := Ext.newH hdy
    have s2 : RS K cad F1 ι1 μ1 H2 := s1.newH hdy
    have x3 : Ext F1 ι1 H2 F1 ι1 (upd H2 y (.ins (cad c) dy [])) := Ext.newH hy2
    have s3 : RS K cad F1 ι1 μ1 (upd H2 y (.ins (cad c) dy [])) := s2.newH hy2
    have s4 : RS K cad F1 (ι1 ++ [y]) (μ1 ++ [.ins c []]) (upd H2 y (.ins (cad c) dy [])) := s3.push upd_same (s2.fresh hy2).2 (s2.fresh hy2).1 ⟨dy, [], rfl, rfl⟩
    have x4 : Ext F1 ι1 H1 F1 (ι1 ++ [y]) (upd H2 y (.ins (cad c) dy [])) := by
      have z := x2.trans x3
      refine ⟨z.f, pre_snoc _ _, z.kept, z.dom, z.nf, fun b hb hn => ?_, z.lk⟩
      rcases List.mem_append.mp hb with w | w
      · exact absurd w hn
      · have : b = y := by simpa using w
        rw [this]
        exact hy
    have el : (ι1 ++ [y])[μ1.length]? = some y := by rw [← s1.len]; simp
    refine ⟨F1, ι1 ++ [y], μ1 ++ [.ins c []], .loc μ1.length :: ds, s4, ⟨_, _, rfl, VR.loc_.mpr ⟨y, rfl, el⟩, by rw [List.append_nil]; exact VRs.mono (Same.refl _) (pre_snoc _ _) _ _ q1⟩, hl ρ μ ds μ1 ca, ?_⟩
    unfold makeR at h
    cases cm : m (.loc μ1.length :: ds) (μ1 ++ [.ins c []]) with
    | stk => rw [cm] at h; exact h
    | exc y' μ3 => rw [cm] at h; exact fun F5 ι5 H5 d5 x5 s5 q5 => h F5 ι5 H5 d5 (x1.trans (x4.trans x5)) s5 q5
    | ok rv μ3 =>
      rw [cm] at h
      intro F5 ι5 H5 v5 x5 s5 q5
      cases rv with
      | own _ => exact h.elim
      | sh d =>
        cases d with
        | non =>
          refine ⟨VR.non_.mp (show VR K cad ι5 F5 .non v5 from q5), ?_⟩
          exact h F5 ι5 H5 (.ref y) (x1.trans (x4.trans x5)) s5 (show VR K cad ι5 F5 (.loc μ1.length) _ from VR.loc_.mpr ⟨y, rfl, pre_get x5.i el⟩)
        | _ => exact h.elim
theorem de_make (d : DefI X.prog X.w X.K X.mg X.base cad c j np m) (hr : Room k X.A) (hj : j + 1 ≤ k) (hg : Gl X c) (ha : PA X (e :: es) (tDs X.K cad W as)) (hl : ∀ ρ μ ds μ1, as ρ μ = .ok ds μ1 → ds.length + 1 = np) (hdb : (c == ("__debug__" : Str)) = false := by decide)
    (he : starEach (e :: es) X.env = (false, eval e X.env) :: starEach es X.env := by rfl) (hpl : (backTo pos (starEach es X.env)).any (·.1) = false := by rfl) : PE X (.Call (.Name c p) (e :: es) [] pos) (tE X.K cad W (eMake c (noX m) as)) := by
  obtain ⟨f, fd, ps, hn, G, hm, hmg, hb⟩ := d
  exact pe_imp (pe_make hm G (hr.mono hj) hg hmg hb .nil passN ha hdb he hpl) fun σ H Q h => eMake_okN (fun _ _ _ z => z) h hl
theorem de_makeX {E : XK} (tk : Takes X (WK E)) (d : DefI X.prog X.w X.K X.mg X.base cad c j np m) (hr : Room k X.A) (hj : j + 1 ≤ k) (hg : Gl X c) (ha : PA X (e :: es) (tDs X.K cad (WK E) as)) (hl : ∀ ρ μ ds μ1, as ρ μ = .ok ds μ1 → ds.length + 1 = np) (hdb : (c == ("__debug__" : Str)) = false := by decide)
    (he : starEach (e :: es) X.env = (false, eval e X.env) :: starEach es X.env := by rfl) (hpl : (backTo pos (starEach es X.env)).any (·.1) = false := by rfl) : PE X (.Call (.Name c p) (e :: es) [] pos) (tE X.K cad (WK E) (eMake c m as)) := by
  obtain ⟨f, fd, ps, hn, G, hm, hmg, hb⟩ := d
  exact pe_imp (pe_make hm G (hr.mono hj) hg hmg hb .nil (passes_call tk fun _ _ _ _ h => h) ha hdb he hpl) fun σ H Q h => eMake_ok (fun _ _ _ z => z) h hl
theorem de_make0 (d : DefI X.prog X.w X.K X.mg X.base cad c j 1 m) (hr : Room k X.A) (hj : j + 1 ≤ k) (hg : Gl X c) (hdb : (c == ("__debug__" : Str)) = false := by decide) : PE X (.Call (.Name c p) [] [] pos) (tE X.K cad W (eMake c (noX m) aNil)) := by
  obtain ⟨f, fd, ps, hn, G, hm, hmg, hb⟩ := d
  exact pe_imp (pe_make0 hm G (hr.mono hj) hg hmg hb .nil passN hdb) fun σ H Q h => eMake_okN (as := aNil) (fun σ H Q ⟨F, ι, μ, ρ, r, q⟩ => q F ι H [] (Ext.refl _ _ _) r.rs rfl) h fun ρ μ ds μ1 e => by cases e; rfl
theorem de_make0X {E : XK} (tk : Takes X (WK E)) (d : DefI X.prog X.w X.K X.mg X.base cad c j 1 m) (hr : Room k X.A) (hj : j + 1 ≤ k) (hg : Gl X c) (hdb : (c == ("__debug__" : Str)) = false := by decide) : PE X (.Call (.Name c p) [] [] pos) (tE X.K cad (WK E) (eMake c m aNil)) := by
  obtain ⟨f, fd, ps, hn, G, hm, hmg, hb⟩ := d
  exact pe_imp (pe_make0 hm G (hr.mono hj) hg hmg hb .nil (passes_call tk fun _ _ _ _ h => h) hdb) fun σ H Q h => eMake_ok (as := aNil) (fun σ H Q ⟨F, ι, μ, ρ, r, q⟩ => q F ι H [] (Ext.refl _ _ _) r.rs rfl) h fun ρ μ ds μ1 e => by cases e; rfl
theorem aLen1 {as : MA} {n : Nat} (h : ∀ (ρ : Ev) (μ : Store) (ds : List D) (μ1 : Store), as ρ μ = .ok ds μ1 → ds.length = n) : ∀ (ρ : Ev) (μ : Store) (ds : List D) (μ1 : Store), as ρ μ = .ok ds μ1 → ds.length + 1 = n + 1 := fun ρ μ ds μ1 e => by rw [h ρ μ ds μ1 e]
end
end DL

namespace DL
open PySem PySem.Spec PyProof.Rows L2
variable [Tbs]
/-- a def that calls itself, at depth 0: nothing is promised -/
theorem rec0 {P : Program} {w : World} {K : PySem.W.Frag} {mg : Str → Option Value} {base : Heap} {cad : Str → Addr} {x qual : Str} {st : Stmt} {f : Addr} {fd : FuncData} {N ps : List Str} {j np : Nat} (F : Fun K x qual st f fd) (S : FnScope N ps (defScope st)) (hm : mg x = some (.ref f)) (hb : Binds K fd ps []) (hn : ps.length = np := by rfl) :
    Def0 P w K mg base cad x j np (fun _ _ => .stk) := by
  refine ⟨f, fd, ps, hn, ⟨fun vs H Q E h => ?_, fun A outer s H args us vs Q E _ _ _ _ h => ?_⟩, hm, F.kp, hb⟩
  · obtain ⟨F, ι, μ, ds, rs, q, hl, h⟩ := h
    exact h.elim
  · obtain ⟨F, ι, μ, ds, rs, q, hl, h⟩ := h
    exact h.elim
end DL

/-! ### sorted(t), t a tuple of tuples of ints -/
namespace DL
open PySem PySem.Spec PyProof.Rows L2
variable [Tbs]
def rSortTT (K : PySem.W.Frag) : List V → Hp → VK → Prop := fun vs H Q => ∃ (a : Addr) (xs : List V) (k : V → List Int), vs = [V.ref a] ∧ SqT K H a xs ∧ (∀ x ∈ xs, ∃ t, x = V.ref t ∧ H t = some (.tup ((k x).map V.int)) ∧ k x ≠ []) ∧
  ∀ ys p, ys.Perm xs → (ys.map k).Pairwise (fun a b => HT.lexLt b a = false) → H p = none → Q (.ref p) (upd H p (.lst ys))
section
variable {X : Cx}
theorem cr_sortTT : CallR X (.builtin "sorted") (rSortTT X.K) := by
  intro pins s σ H vs us Q I r h
  obtain ⟨a, xs, k, rfl, hs, hx, q⟩ := h
  obtain ⟨its, rv, ⟨o, ho, hc, n0, hd0⟩, hz⟩ := I.tuple hs
  obtain ⟨u, rfl, ru⟩ := vals1 r
  obtain rfl : u = Value.ref a := ru
  obtain ⟨e1, e2⟩ := refs_back rv fun x m => by
    obtain ⟨t, e, _⟩ := hx x m
    exact ⟨t, e⟩
  have hl : its.length ≤ sizeLine := by rw [← rv.length]; exact hz
  refine SrtT.sorted_coll (vs := its) (k := fun u => k (backV u)) hl (fun v hv => ?_) (fun R hR => ?_) fun h1 h' tk d out s1 s2 kp1 kp2 hle hat => ?_
  · obtain ⟨t, rfl⟩ := e2 v hv
    have hm : V.ref t ∈ xs := by rw [e1]; exact List.mem_map.mpr ⟨_, hv, rfl⟩
    obtain ⟨t', e, ht, hne⟩ := hx _ hm
    cases e
    obtain ⟨_, its2, r2, pt⟩ := I.hok _ _ ht
    exact ⟨⟨t, its2.toArray, rfl, pt, (show IntsAre its2.toArray.toList (k (V.ref t)) by rw [List.toList_toArray]; exact Vals.ints r2)⟩, hne⟩
  · refine wpAny_collect_seq a (.inr rfl) ho hc hd0 (fun h' hk => ?_) (by rw [List.size_toArray]; exact hl)
    rw [List.toList_toArray]
    exact hR h' s.toks hk
  · have I1 : Inv X pins σ H { s with heap := h1, toks := tk } := I.kept kp1
    have h3 : ∀ u ∈ out, ∃ a, u = Value.ref a := fun u hu => e2 u (s2.perm.mem_iff.mp hu)
    have hb : (out.map backV).Perm xs := by
      rw [e1]
      exact s2.perm.map backV
    obtain ⟨n, hat⟩ := hat
    refine ⟨.ref d, upd H d (.lst (out.map backV)), I1.laid (t' := tk) kp2 hle ⟨?_, out, n, vals_back h3, hat⟩, rfl, q _ d hb ?_ (I1.hok.fresh hle)⟩
    · rw [hb.length_eq]
      exact hz
    · rw [List.pairwise_map, List.pairwise_map]
      exact s1
end
def fSrtB : List Vw → Option Rv
  | [.d (.tup ds)] => (D.intss ds).map fun nss => .own (.lst ((sortL nss).map intsD))
  | ws => fSrt ws
def rSrtB (K : PySem.W.Frag) : List V → Hp → VK → Prop := fun vs H Q => rSrt K vs H Q ∨ rSortTT K vs H Q
theorem cr_srtB {X : Cx} (hc : X.calm = true) : CallR X (.builtin "sorted") (rSrtB X.K) := (cr_srt hc).or cr_sortTT
section
variable {K : PySem.W.Frag} {cad : Str → Addr}
theorem sd_srtB : SdB K cad (rSrtB K) fSrtB := by
  intro F ι μ H ws vs rv Q rs hw e q
  unfold fSrtB at e
  split at e
  · next ds =>
    cases c2 : D.intss ds with
    | none => rw [c2] at e; cases e
    | some nss =>
      rw [c2] at e
      cases e
      obtain ⟨v, rfl, hv⟩ := pr1 hw
      obtain ⟨a, us, rfl, e1, r⟩ := vw_tup hv
      obtain ⟨k, k1, k2⟩ := intss_k rs r c2
      refine .inr ⟨a, us, k, rfl, SqT.sub rs e1, fun x hx => ?_, fun ys p h1 h2 hp => ?_⟩
      · obtain ⟨t, f1, f2, f3⟩ := k2 x hx
        exact ⟨t, f1, rs.sub _ _ f2, f3⟩
      · have e3 : ys.map k = sortL nss := sorted_uniq h2 (sortL_sorted nss) (((h1.map k).trans (by rw [k1])).trans (sortL_perm nss).symm)
        dsimp only at q
        rw [← e3] at q
        exact fin_own rs q hp ⟨ys, rfl, perm_VRs fun x hx => k2 x (h1.mem_iff.mp hx)⟩
  · exact .inl (sd_srt rs hw e q)
end
end DL

namespace DL
open PySem PySem.Spec PyProof.Rows L2
variable [Tbs]
/-! ### [.. for x in xs ..], xs a name's own list -/
def eLcO (n : Nat) (g : D → Ev → Option Ev) (ws : List Nat) (t : MT) (e : ME) : ME := fun ρ μ => match ρ[n]? with
  | some (.own (.lst xs)) => (lcL g t e (wipeE ρ ws) xs μ []).bind fun ds μ2 => .ok (.own (.lst ds)) μ2
  | _ => .stk
section
variable {X : Cx} {cad : Str → Addr} {W : WX} {E : Ent} {pos : Pos} {elt tg iter : Expr} {ifs : List Expr} {scope : Scope} {own : List (Str × Nat)} {mi : ME} {t : TG} {g : D → Ev → Option Ev} {mt : MT} {me : ME}
theorem lcO_ok {K : PySem.W.Frag} {ws : List Nat} (gk : GOk K cad t g ws) {σ : L2.St} {ρ : Ev} {F1 H1 : Hp} {ι1 : List Addr} {μ1 : Store} {xs : List D} {aa : Addr} {us : List V} {Q : VK} (r : R K cad F1 ι1 μ1 ρ σ H1) (na : aa ∉ ι1) (ea : H1 aa = some (.lst us)) (ru : VRs K cad ι1 F1 xs us)
    (h1 : Post K cad W (rlE K cad ρ σ) F1 ι1 H1 σ ((lcL g mt me (wipeE ρ ws) xs μ1 []).bind fun ds μ2 => .ok (.own (.lst ds)) μ2) Q) (D : Addr) (hD : H1 D = none) :
    ∃ W : Nat → Nat → Hp → Prop, (∃ m, W 0 m (upd H1 D (.lst []))) ∧ ∀ i m H, W i m H → ((Itl K aa).stop i H ∧ Q (.ref D) H) ∨ ((Itl K aa).go i H ∧ ∃ Nx : Hp → Prop, (∀ H', Nx H' → ∃ m', m' < m ∧ W (i + 1) m' H') ∧ ∀ x H', (Itl K aa).yld i H x H' → t x (wipe σ ws) H' fun σ2 H2 => wipe σ2 ws = wipe σ ws ∧ tT K cad WT mt σ2 H2 fun b H3 =>
      if b = true then tD K cad WT (toD me) σ2 H3 fun y H4 => ∃ acc, H4 D = some (.lst acc) ∧ acc.length < sizeLine ∧ Nx (upd H4 D (.lst (acc ++ [y]))) else Nx H3) := by
  have rw1 := r.wipe ws
  have s1 := r.rs
  let P : Nat → Hp → Prop := fun i H => ∃ F2 ι2 μ2 acc vs, Ext F1 ι1 H1 F2 ι2 H ∧ RS K cad F2 ι2 μ2 H ∧ H D = some (.lst vs) ∧ F2 D = none ∧ D ∉ ι2 ∧ VRs K cad ι2 F2 acc vs ∧
    Post K cad W (rlE K cad ρ σ) F1 ι1 H1 σ ((lcL g mt me (wipeE ρ ws) (xs.drop i) μ2 acc).bind fun ds μ3 => .ok (.own (.lst ds)) μ3) Q
  have hx0 : Ext F1 ι1 H1 F1 ι1 (upd H1 D (.lst [])) := Ext.newH hD
  refine ⟨fun i m H => i ≤ xs.length ∧ m = xs.length - i ∧ P i H, ⟨xs.length, Nat.zero_le _, rfl, F1, ι1, μ1, [], [], hx0, s1.newH hD, upd_same, (s1.fresh hD).1, (s1.fresh hD).2, rfl, h1⟩, ?_⟩
  rintro i m H2 ⟨hl, rfl, F2, ι2, μ2, acc, vs, x2, s2, e2, f2, n2, rv, h2⟩
  by_cases hlt : i < xs.length
  · have ea2 := x2.kept aa _ na ea (by intro _ z; cases z)
    obtain ⟨xv, exv, qxv⟩ := (VRs.mono x2.f x2.i _ _ ru).get (List.getElem?_eq_getElem hlt)
    refine .inr ⟨⟨us, xv, SqL.of ea2, exv⟩, P (i + 1), fun H' p => ⟨xs.length - (i + 1), by omega, hlt, rfl, p⟩, fun x H3 y => ?_⟩
    obtain ⟨F3, x3, s3, v3⟩ : ∃ F3, Ext F2 ι2 H2 F3 ι2 H3 ∧ RS K cad F3 ι2 μ2 H3 ∧ VR K cad ι2 F3 xs[i] x := by
      obtain ⟨rfl, y⟩ := y
      have ex := y us (SqL.of ea2)
      rw [exv] at ex
      cases ex
      exact ⟨F2, Ext.refl _ _ _, s2, qxv⟩
    have orl : OR K cad ι2 F2 D (.lst acc) (.lst vs) := ⟨vs, rfl, rv⟩
    have x13 := x2.trans x3
    have e3 := x3.kept D _ n2 e2 (by intro _ z; cases z)
    have f3 := x3.apart f2 e2 orl
    have ed : xs.drop i = xs[i] :: xs.drop (i + 1) := List.drop_eq_getElem_cons hlt
    rw [ed] at h2
    unfold lcL at h2
    cases cg : g xs[i] (wipeE ρ ws) with
    | none => rw [cg] at h2; exact h2.elim
    | some ρ4 =>
      rw [cg] at h2
      dsimp only at h2
      refine gk (rw1.ext x13 s3) v3 cg fun σ4 r4 l4 g4 _ => ?_
      refine ⟨wipe_same (by rw [l4, wipe_length]) g4, F3, ι2, μ2, ρ4, r4, ?_⟩
      cases ct : mt ρ4 μ2 with
      | stk => rw [ct] at h2; exact h2
      | exc x μ5 => exact fun _ _ _ _ _ _ _ => trivial
      | ok c μ5 =>
        rw [ct] at h2
        intro F5 ι5 H5 c' x5 s5 q5
        have q5 : c = c' := q5
        subst q5
        have orl3 : OR K cad ι2 F3 D (.lst acc) (.lst vs) := orl.mono x3.f List.prefix_rfl
        have e5 := x5.kept D _ n2 e3 (by intro _ z; cases z)
        have f5 := x5.apart f3 e3 orl3
        have n5 : D ∉ ι5 := fun z => by have := x5.ni D z n2; rw [e3] at this; cases this
        have orl5 : OR K cad ι5 F5 D (.lst acc) (.lst vs) := orl3.mono x5.f x5.i
        have x15 := x13.trans x5
        cases c with
        | false =>
          rw [if_neg Bool.false_ne_true]
          obtain ⟨_, ev, rv5⟩ := orl5
          cases ev
          exact ⟨F5, ι5, μ5, acc, vs, x15, s5, e5, f5, n5, rv5, h2⟩
        | true =>
          rw [if_pos rfl]
          refine ⟨F5, ι5, μ5, ρ4, r4.ext x5 s5, ?_⟩
          have h2 : Post K cad W (rlE K cad ρ σ) F1 ι1 H1 σ (((toD me ρ4 μ5).bind fun d μ2 => if acc.length < 16777216 then lcL g mt me (wipeE ρ ws) (xs.drop (i + 1)) μ2 (acc ++ [d]) else .stk).bind fun ds μ3 => .ok (.own (.lst ds)) μ3) Q := h2
          cases cd : toD me ρ4 μ5 with
          | stk => rw [cd] at h2; exact h2
          | exc x μ6 => exact fun _ _ _ _ _ _ _ => trivial
          | ok d μ6 =>
            rw [cd] at h2
            intro F6 ι6 H6 v x6 s6 q6
            have q6 : VR K cad ι6 F6 d v := q6
            have e6 := x6.kept D _ n5 e5 (by intro _ z; cases z)
            have f6 := x6.apart f5 e5 orl5
            have n6 : D ∉ ι6 := fun z => by have := x6.ni D z n5; rw [e5] at this; cases this
            obtain ⟨_, ev, rv6⟩ := orl5.mono x6.f x6.i
            cases ev
            have h2 : Post K cad W (rlE K cad ρ σ) F1 ι1 H1 σ ((if acc.length < 16777216 then lcL g mt me (wipeE ρ ws) (xs.drop (i + 1)) μ6 (acc ++ [d]) else .stk).bind fun ds μ3 => .ok (.own (.lst ds)) μ3) Q := h2
            by_cases hz : acc.length < 16777216
            · rw [if_pos hz] at h2
              refine ⟨vs, e6, by rw [← rv6.len, sizeLine_eq]; exact hz, F6, ι6, μ6, acc ++ [d], vs ++ [v], (x15.trans x6).upd_of (fun _ => hD) (fun o u z => by rw [hD] at z; cases z), ?_, upd_same, f6, n6, rv6.app (VRs.cons q6 VRs.nil), h2⟩
              refine s6.grow (Same.refl _) (fun b o' z => ?_) (fun b hb o' z => ?_) s6.sep (s6.tb.put e6 (by intro _ z; cases z) (by intro _ _ z; cases z)) s6.ft
              · rw [upd_ne (fun w => by rw [w, f6] at z; cases z)]
                exact s6.sub b o' z
              · rw [upd_ne (show b ≠ D from fun w => n6 (w ▸ hb))]
                exact z
            · rw [if_neg hz] at h2
              exact h2.elim
  · have e : i = xs.length := by omega
    subst e
    rw [List.drop_length] at h2
    refine .inl ⟨⟨us, SqL.of (x2.kept aa _ na ea (by intro _ z; cases z)), by rw [← ru.len]; exact Nat.le_refl _⟩, ?_⟩
    exact h2 F2 ι2 H2 (.ref D) x2 s2 ⟨D, .lst vs, rfl, f2, n2, hD, e2, vs, rfl, rv⟩
theorem eLcO_ok {K : PySem.W.Frag} {n : Nat} (gk : GOk K cad t g (own.map (·.2))) {σ : L2.St} {H : Hp} {Q : VK} (h : tE K cad W (eLcO n g (own.map (·.2)) mt me) σ H Q) : tLc (iList K (tE K cad W (eVar n))) t (tT K cad WT mt) (tD K cad WT (toD me)) (own.map (·.2)) σ H Q := by
  generalize own.map (·.2) = ws at gk h ⊢
  obtain ⟨F, ι, μ, ρ, r, h⟩ := h
  unfold eLcO at h
  cases c : ρ[n]? with
  | none => rw [c] at h; exact h.elim
  | some sl =>
    rw [c] at h
    cases sl with
    | no => exact h.elim
    | sh d => exact h.elim
    | own o =>
      cases o with
      | lst xs =>
        refine ⟨F, ι, μ, ρ, r, ?_⟩
        have ev : eVar n ρ μ = .ok (.slot n) μ := by unfold eVar; rw [c]
        rw [ev]
        intro F1 ι1 H1 v x1 s1 q1
        obtain ⟨e1, _⟩ := (show σ[n]? = some (some v) ∧ ∃ o, ρ[n]? = some (.own o) from q1)
        have r1 := r.ext x1 s1
        obtain ⟨a, ho, e2, e3, e4, e5, us, rfl, ru⟩ := r1.own n _ c
        rw [e1] at e2
        cases e2
        refine ⟨a, rfl, ⟨us, SqL.of e5⟩, fun D hD => lcO_ok (W := W) gk r1 e4 e5 ru ?_ D hD⟩
        have h : Post K cad W (rlE K cad ρ σ) F ι H σ ((lcL g mt me (wipeE ρ ws) xs μ []).bind fun ds μ2 => .ok (.own (.lst ds)) μ2) Q := h
        exact h.ext x1
      | _ => exact h.elim
theorem de_lcO (n : Nat) (hc : X.calm = true) (hN : X.N.Nodup) (hi : PE X iter (tE X.K cad W (eVar n))) (ok : BlkOk X.N X.env.scope scope own)
    (hg : ∀ (s : Shared) (H : Hp) (C : Addr) (cl : List (Str × Addr)) (fp : List Addr), PG (X.blk s H scope (compEnvC scope cl C X.env) fp) tg t) (gk : GOk X.K cad t g (own.map (·.2)))
    (ht : ∀ (s : Shared) (H : Hp) (C : Addr) (cl : List (Str × Addr)) (fp : List Addr), PTs (X.blk s H scope (compEnvC scope cl C X.env) fp) ifs (tT X.K cad WT mt))
    (he : ∀ (s : Shared) (H : Hp) (C : Addr) (cl : List (Str × Addr)) (fp : List Addr), PE (X.blk s H scope (compEnvC scope cl C X.env) fp) elt (tE X.K cad WT me)) (hs : ∀ x, foldedSetIterable iter X.env x = pure x := by intro _; rfl) :
    PE X (.ListComp elt [⟨tg, iter, ifs, 0⟩] scope pos) (tE X.K cad W (eLcO n g (own.map (·.2)) mt me)) :=
  pe_imp (pe_lc hc hN (pi_list hi) ok hg ht (fun s H C cl fp => de_toD (he s H C cl fp)) hs) fun σ H Q h => eLcO_ok gk h
end
end DL

namespace DL
open PySem PySem.Spec PyProof.Rows L2
variable [Tbs]
/-! ### texts: str(i), int(t), a.split(b), a.join(b), the signs of a text -/
def fStr : List Vw → Option Rv
  | [.d (.int i)] => if i.natAbs.log2 < 1920 then some (.sh (.str (toString i))) else none
  | _ => none
def fIntB : List Vw → Option Rv
  | [.d (.str a)] => match PySem.intText? a with
    | some n => if a.length ≤ 640 then some (.sh (.int n)) else none
    | none => none
  | ws => fInt ws
def rIntB : List V → Hp → VK → Prop := fun xs H Q => ((∃ i, xs = [.int i] ∧ Q (.int i) H) ∨ ∃ k, xs = [.bl k] ∧ Q (.int (if k then 1 else 0)) H) ∨ (∃ a n, xs = [.str a] ∧ PySem.intText? a = some n ∧ a.length ≤ 640 ∧ Q (.int n) H)
theorem call_intB {X : Cx} : CallR X (.type "int") rIntB := call_int1.or call_int_str
section
variable {K : PySem.W.Frag} {cad : Str → Addr}
theorem sd_str : SdB K cad (fun xs H Q => ∃ i, xs = [.int i] ∧ i.natAbs.log2 < 1920 ∧ Q (.str (toString i)) H) fStr := by
  intro F ι μ H ws vs rv Q rs hw e k
  unfold fStr at e
  split at e
  · next i =>
    by_cases c : i.natAbs.log2 < 1920
    · rw [if_pos c] at e
      cases e
      obtain ⟨v, rfl, h⟩ := pr1 hw
      obtain rfl := vw_int h
      exact ⟨_, rfl, c, k F ι H _ (Ext.refl _ _ _) rs (show VR K cad ι F (.str (toString i)) _ from VR.str_.mpr rfl)⟩
    · rw [if_neg c] at e
      cases e
  · cases e
theorem sd_intB : SdB K cad rIntB fIntB := by
  intro F ι μ H ws vs rv Q rs hw e k
  unfold fIntB at e
  split at e
  · next a =>
    cases c : PySem.intText? a with
    | none => rw [c] at e; cases e
    | some n =>
      rw [c] at e
      have e : (if a.length ≤ 640 then some (Rv.sh (.int n)) else none) = some rv := e
      by_cases c2 : a.length ≤ 640
      · rw [if_pos c2] at e
        cases e
        obtain ⟨v, rfl, h⟩ := pr1 hw
        obtain rfl := VR.str_.mp (show VR K cad ι F (.str a) v from h)
        exact .inr ⟨_, _, rfl, c, c2, fin_int rs k⟩
      · rw [if_neg c2] at e
        cases e
  · exact .inl (sd_int rs hw e k)
end
/-- a.split(b) -/
def splitR (a b : Str) (μ : Store) : Res Op := if (b.length == 0) = false ∧ a.length + 2 ≤ 16777216 then .ok (.own (.lst ((Txt.split a b).map .str))) μ else .stk
def eSplit (a b : ME) : ME := fun ρ μ => (toD a ρ μ).bind fun d μ1 => match d with
  | .str s => (toD b ρ μ1).bind fun e μ2 => (match e with
    | .str t => splitR s t μ2
    | _ => .stk)
  | _ => .stk
/-- a.join(b) -/
def D.strs : List D → Option (List Str)
  | [] => some []
  | .str s :: r => (D.strs r).map (s :: ·)
  | _ :: _ => none
def joinR (s : Str) (μ : Store) : Option (List Str) → Res Op
  | some ys => if (ys.map (·.length)).sum + ys.length * s.length ≤ 16777216 then .ok (.sh (.str (Txt.join s ys))) μ else .stk
  | none => .stk
def eJoin (a b : ME) : ME := fun ρ μ => (toD a ρ μ).bind fun d μ1 => match d with
  | .str s => (toD b ρ μ1).bind fun e μ2 => (match e with
    | .lst ds => joinR s μ2 (D.strs ds)
    | .tup ds => joinR s μ2 (D.strs ds)
    | _ => .stk)
  | _ => .stk
/-- the signs of a text -/
def chars (s : Str) : List D := s.cps.toList.map fun c => .str ⟨#[c]⟩
def iTxt (m : ME) : Ev → Store → Res (List D) := fun ρ μ => (toD m ρ μ).bind fun d μ1 => match d with
  | .str s => .ok (chars s) μ1
  | _ => .stk
section
variable {K : PySem.W.Frag} {cad : Str → Addr} {F F' H H' : Hp} {ι ι' : List Addr} {μ : Store}
theorem strs_vals : ∀ {ds : List D} {vs : List V} {ys : List Str}, VRs K cad ι F ds vs → D.strs ds = some ys → vs = ys.map V.str
  | [], _, _, h, e => by
    cases e
    exact h
  | d :: ds, _, ys, h, e => by
    obtain ⟨v, vs, rfl, r, t⟩ := h
    cases d with
    | str s =>
      have e : (D.strs ds).map (s :: ·) = some ys := e
      cases c : D.strs ds with
      | none => rw [c] at e; cases e
      | some zs =>
        rw [c] at e
        cases e
        rw [strs_vals t c, VR.str_.mp r]
        rfl
    | _ => cases e
theorem strs_VRs : ∀ {ys : List Str}, VRs K cad ι F (ys.map DL.D.str) (ys.map V.str)
  | [] => rfl
  | _ :: ys => ⟨_, _, rfl, VR.str_.mpr rfl, strs_VRs (ys := ys)⟩
theorem it_str {s : Str} : ItR K cad F ι (Its s) (chars s) := by
  have hl : (chars s).length = s.cps.size := by unfold chars; rw [List.length_map, Array.length_toList]
  refine ⟨fun {i F1 ι1 μ1 H1} hf hi rs h => ?_, fun {i d F1 ι1 μ1 H1 x H2} hf hi rs ed y => ?_, fun {i F1 ι1 μ1 H1} hf hi rs h => ?_⟩
  · rw [hl] at h; exact h
  · obtain ⟨rfl, c, e1, rfl⟩ := y
    unfold chars at ed
    rw [List.getElem?_map, Array.getElem?_toList, e1] at ed
    cases ed
    exact ⟨F1, Ext.refl _ _ _, rs, VR.str_.mpr rfl⟩
  · rw [hl] at h; exact h
end
section
variable {X : Cx} {cad : Str → Addr} {W : WX} {apos pos : Pos} {o e tg : Expr} {mo me : ME}
theorem de_split (ho : PE X o (tE X.K cad W mo)) (he : PE X e (tE X.K cad W me)) (hs : starEach [e] X.env = [(false, eval e X.env)] := by rfl) (hbase : attributeBase o "split" X.env (eval o X.env) = eval o X.env := by rfl) (hline : (apos.endLine == pos.line) = true := by rfl) :
    PE X (.Call (.Attribute o "split" apos) [e] [] pos) (tE X.K cad W (eSplit mo me)) := by
  refine pe_imp (pe_split (de_toD ho) (de_toD he) hs hbase hline) fun σ H Q ⟨F, ι, μ, ρ, r, q⟩ => ?_
  refine ⟨F, ι, μ, ρ, r, q.bind fun d μ1 F1 ι1 H1 v x1 s1 q1 h1 => ?_⟩
  have q1 : VR X.K cad ι1 F1 d v := q1
  have r1 := r.ext x1 s1
  cases d with
  | str s =>
    obtain rfl := VR.str_.mp q1
    refine ⟨⟨_, rfl⟩, F1, ι1, μ1, ρ, r1, h1.bind fun d2 μ2 F2 ι2 H2 v2 x2 s2 q2 h2 => ?_⟩
    have q2 : VR X.K cad ι2 F2 d2 v2 := q2
    cases d2 with
    | str t =>
      obtain rfl := VR.str_.mp q2
      have h2 : Post X.K cad W (rlE X.K cad ρ σ) F2 ι2 H2 σ (splitR s t μ2) Q := h2
      unfold splitR at h2
      by_cases c : (t.length == 0) = false ∧ s.length + 2 ≤ 16777216
      · rw [if_pos c] at h2
        exact ⟨s, t, rfl, rfl, c.1, by rw [sizeLine_eq]; exact c.2, fun p hp => h2 F2 ι2 _ _ (Ext.newH hp) (s2.newH hp) ⟨p, _, rfl, (s2.fresh hp).1, (s2.fresh hp).2, hp, upd_same, _, rfl, strs_VRs⟩⟩
      · rw [if_neg c] at h2
        exact h2.elim
    | _ => exact h2.elim
  | _ => exact h1.elim
theorem de_join (ho : PE X o (tE X.K cad W mo)) (he : PE X e (tE X.K cad W me)) (hs : starEach [e] X.env = [(false, eval e X.env)] := by rfl) (hbase : attributeBase o "join" X.env (eval o X.env) = eval o X.env := by rfl) (hline : (apos.endLine == pos.line) = true := by rfl) :
    PE X (.Call (.Attribute o "join" apos) [e] [] pos) (tE X.K cad W (eJoin mo me)) := by
  refine pe_imp (pe_join (de_toD ho) (de_toD he) hs hbase hline) fun σ H Q ⟨F, ι, μ, ρ, r, q⟩ => ?_
  refine ⟨F, ι, μ, ρ, r, q.bind fun d μ1 F1 ι1 H1 v x1 s1 q1 h1 => ?_⟩
  have q1 : VR X.K cad ι1 F1 d v := q1
  have r1 := r.ext x1 s1
  cases d with
  | str s =>
    obtain rfl := VR.str_.mp q1
    refine ⟨⟨_, rfl⟩, F1, ι1, μ1, ρ, r1, h1.bind fun d2 μ2 F2 ι2 H2 v2 x2 s2 q2 h2 => ?_⟩
    have q2 : VR X.K cad ι2 F2 d2 v2 := q2
    have fin : ∀ (ds : List DL.D) (p : Addr) (vs : List V), Post X.K cad W (rlE X.K cad ρ σ) F2 ι2 H2 σ (joinR s μ2 (D.strs ds)) Q → VRs X.K cad ι2 F2 ds vs → (∀ ys : List Str, vs = ys.map V.str → SqL X.K H2 p (ys.map V.str) ∨ SqT X.K H2 p (ys.map V.str)) → ∃ a p', ∃ ys : List Str, V.str s = .str a ∧ [V.ref p] = [.ref p'] ∧ (SqL X.K H2 p' (ys.map V.str) ∨ SqT X.K H2 p' (ys.map V.str)) ∧ (ys.map (·.length)).sum + ys.length * a.length ≤ 16777216 ∧ Q (.str (Txt.join a ys)) H2 := fun ds p vs h2 rv hq => by
      cases c : D.strs ds with
      | none => rw [c] at h2; exact h2.elim
      | some ys =>
        rw [c] at h2
        unfold joinR at h2
        by_cases c2 : (ys.map (·.length)).sum + ys.length * s.length ≤ 16777216
        · simp only [c2, if_true] at h2
          exact ⟨s, p, ys, rfl, rfl, hq ys (strs_vals rv c), c2, h2 F2 ι2 H2 _ (Ext.refl _ _ _) s2 (show VR X.K cad ι2 F2 _ _ from VR.str_.mpr rfl)⟩
        · simp only [c2, if_false] at h2
          exact h2.elim
    cases d2 with
    | lst ds =>
      obtain ⟨p, vs, rfl, e1, rv⟩ := VR.lst_.mp q2
      exact fin ds p vs h2 rv fun ys e => .inl (by rw [← e]; exact SqL.of (s2.sub _ _ e1))
    | tup ds =>
      obtain ⟨p, vs, rfl, e1, rv⟩ := VR.tup_.mp q2
      exact fin ds p vs h2 rv fun ys e => .inr (by rw [← e]; exact SqT.of (s2.sub _ _ e1))
    | _ => exact h2.elim
  | _ => exact h1.elim
theorem di_txt (he : PE X e (tE X.K cad W me)) : PI X tg e (tI X.K cad W (iTxt me)) := by
  refine pi_imp (pi_str (de_toD he)) fun σ H Q ⟨F, ι, μ, ρ, r, q⟩ => ?_
  refine ⟨F, ι, μ, ρ, r, ?_⟩
  unfold iTxt at q
  cases c : toD me ρ μ with
  | stk => rw [c] at q; exact q.elim
  | exc x μ1 => rw [c] at q; exact q
  | ok d μ1 =>
    rw [c] at q
    cases d with
    | str s =>
      intro F1 ι1 H1 v x1 s1 q1
      obtain rfl := VR.str_.mp (show VR X.K cad ι1 F1 (.str s) v from q1)
      exact ⟨s, rfl, q F1 ι1 H1 _ x1 s1 it_str⟩
    | _ => exact q.elim
end
end DL

namespace DL
open PySem PySem.Spec PyProof.Rows L2
variable [Tbs]
/-! ### t in W, W a global tuple of texts that never changes -/
def eInC (g : Bool → Bool) (m : ME) (ws : List Str) : ME := fun ρ μ => (toD m ρ μ).bind fun d μ1 => match d with
  | .str s => .ok (.sh (.bl (g (decide (s ∈ ws))))) μ1
  | _ => .stk
theorem inV_strs (s : Str) : ∀ ws : List Str, inV (.str s) (ws.map V.str) = decide (s ∈ ws)
  | [] => rfl
  | w :: ws => by
    show (eqV (.str w) (.str s) || inV (.str s) (ws.map V.str)) = _
    rw [inV_strs s ws]
    have e : eqV (.str w) (.str s) = decide (w = s) := by
      show (w == s) = _
      by_cases c : w = s
      · rw [decide_eq_true c]; exact beq_iff_eq.mpr c
      · rw [decide_eq_false c]; exact beq_eq_false_iff_ne.mpr c
    rw [e]
    by_cases c : w = s
    · simp [c]
    · by_cases c2 : s ∈ ws
      · simp [c2]
      · simp [c, c2, Ne.symm c]
theorem flat_strs (ws : List Str) : (ws.map V.str).all flatV = true := by
  rw [List.all_map, List.all_eq_true]
  intro w _
  rfl
section
variable {X : Cx} {cad : Str → Addr} {W : WX} {pos px : Pos} {e : Expr} {x : Str} {m : ME} {ws : List Str} {a : Addr}
theorem inC_ok {neg : Bool} {g : Bool → Bool} (hg : ∀ b, (if neg then !b else b) = g b) (ht : ∀ H, SqT X.K H a (ws.map V.str)) {σ : L2.St} {H : Hp} {Q : VK} (h : tE X.K cad W (eInC g m ws) σ H Q) : tOp (rIn X.K neg) (tD X.K cad W (toD m)) (tC (.ref a)) σ H Q := by
  obtain ⟨F, ι, μ, ρ, r, q⟩ := h
  refine ⟨F, ι, μ, ρ, r, q.bind fun d μ1 F1 ι1 H1 v x1 s1 q1 h1 => ?_⟩
  have q1 : VR X.K cad ι1 F1 d v := q1
  cases d with
  | str s =>
    obtain rfl := VR.str_.mp q1
    refine ⟨a, ws.map V.str, rfl, .inr (ht H1), rfl, flat_strs ws, ?_⟩
    rw [inV_strs, hg]
    exact h1 F1 ι1 H1 _ (Ext.refl _ _ _) s1 (show VR X.K cad ι1 F1 _ _ from VR.bl_.mpr rfl)
  | _ => exact h1.elim
theorem de_inC (hg : Gl X x) (ht : X.mg x = some (.ref a) ∧ ∀ H, SqT X.K H a (ws.map V.str)) (he : PE X e (tE X.K cad W m)) (hd : (x == ("__debug__" : Str)) = false := by decide) (hm : behindInMarks .In (.Name x px) = false := by first | exact nomark _ | rfl | with_unfolding_all rfl) :
    PE X (.Compare e [.In] [.Name x px] pos) (tE X.K cad W (eInC id m ws)) := pe_imp (pe_cmpR op_in_seq (de_toD he) (pe_glob (v := .ref a) hg ht.1 rfl hd) hm) fun σ H Q q => inC_ok (fun b => rfl) ht.2 q
theorem de_notInC (hg : Gl X x) (ht : X.mg x = some (.ref a) ∧ ∀ H, SqT X.K H a (ws.map V.str)) (he : PE X e (tE X.K cad W m)) (hd : (x == ("__debug__" : Str)) = false := by decide) (hm : behindInMarks .NotIn (.Name x px) = false := by first | exact nomark _ | rfl | with_unfolding_all rfl) :
    PE X (.Compare e [.NotIn] [.Name x px] pos) (tE X.K cad W (eInC not m ws)) := pe_imp (pe_cmpR op_notIn_seq (de_toD he) (pe_glob (v := .ref a) hg ht.1 rfl hd) hm) fun σ H Q q => inC_ok (fun b => rfl) ht.2 q
theorem dt_inC (hg : Gl X x) (ht : X.mg x = some (.ref a) ∧ ∀ H, SqT X.K H a (ws.map V.str)) (he : PE X e (tE X.K cad W m)) (hd : (x == ("__debug__" : Str)) = false := by decide) (hm : behindInMarks .In (.Name x px) = false := by first | exact nomark _ | rfl | with_unfolding_all rfl) :
    PT X (.Compare e [.In] [.Name x px] pos) (tT X.K cad W (mT (eInC id m ws))) := pt_imp (pt_cmpR op_in_seq (de_toD he) (pe_glob (v := .ref a) hg ht.1 rfl hd) hm) fun σ H Q q => inC_ok (fun b => rfl) ht.2 (mT_ok q)
theorem dt_notInC (hg : Gl X x) (ht : X.mg x = some (.ref a) ∧ ∀ H, SqT X.K H a (ws.map V.str)) (he : PE X e (tE X.K cad W m)) (hd : (x == ("__debug__" : Str)) = false := by decide) (hm : behindInMarks .NotIn (.Name x px) = false := by first | exact nomark _ | rfl | with_unfolding_all rfl) :
    PT X (.Compare e [.NotIn] [.Name x px] pos) (tT X.K cad W (mT (eInC not m ws))) := pt_imp (pt_cmpR op_notIn_seq (de_toD he) (pe_glob (v := .ref a) hg ht.1 rfl hd) hm) fun σ H Q q => inC_ok (fun b => rfl) ht.2 (mT_ok q)
end
end DL

/-! ### lambdas handed to a def, with no parameter or one that has a default -/
namespace DL
open PySem PySem.Spec PyProof.Rows L2
/-- the lambda's names: captured ones, globals; its own are none of N -/
structure LamT (N : List Str) (sc scope : Scope) : Prop where
  kind : scope.kind = .function
  co : scope.isCoroutine = false
  gen : scope.isGenerator = false
  own : ∀ y ∈ scope.names, y.2 ≠ .cell ∧ (y.2 = .local → y.1 ∉ N)
  free : ∀ y ∈ scope.names, y.2 = .free → sc.names.lookup y.1 = some .cell ∨ sc.names.lookup y.1 = some .free
def lamTB (N : List Str) (sc scope : Scope) : Bool :=
  (decide (scope.kind = .function) && !scope.isCoroutine) && (!scope.isGenerator && scope.names.all fun y => (!decide (y.2 = .cell) && (!decide (y.2 = .local) || !decide (y.1 ∈ N))) && (!decide (y.2 = .free) || (decide (sc.names.lookup y.1 = some .cell) || decide (sc.names.lookup y.1 = some .free))))
theorem lamT_by {N : List Str} {sc scope : Scope} (h : lamTB N sc scope = true) : LamT N sc scope := by
  unfold lamTB at h
  rw [Bool.and_eq_true, Bool.and_eq_true, Bool.and_eq_true] at h
  obtain ⟨⟨a, b⟩, c, d⟩ := h
  have d := List.all_eq_true.mp d
  refine ⟨of_decide_eq_true a, by simpa using b, by simpa using c, fun y hy => ?_, fun y hy e => ?_⟩
  · have z := d y hy
    simp only [Bool.and_eq_true, Bool.or_eq_true, Bool.not_eq_true', decide_eq_false_iff_not, decide_eq_true_eq] at z
    exact ⟨z.1.1, fun e => z.1.2.elim (fun w => absurd e w) id⟩
  · have z := d y hy
    simp only [Bool.and_eq_true, Bool.or_eq_true, Bool.not_eq_true', decide_eq_false_iff_not, decide_eq_true_eq] at z
    exact z.2.elim (fun w => absurd e w) id
abbrev lamQ (X : Cx) : Str := X.env.qual ++ "<lambda>"
abbrev lamF (X : Cx) (params : Arguments) (body : Expr) (scope : Scope) (dV doc pm cv ctv : Value) : FuncData :=
  PySem.W.kdv_fn "<lambda>" (lamQ X) params (.expr body) scope (cloFrom X.env.cells scope.names []) dV doc pm cv ctv
/-- the lambda stands at f -/
def Lam (X : Cx) (params : Arguments) (body : Expr) (scope : Scope) (f c' : Addr) (H : Hp) (s : Shared) : Prop :=
  ∃ dV doc pm ctv, s.heap.get? f = some { cls := .type "function", data := .func (lamF X params body scope dV doc pm (.ref c') ctv) } ∧ H f = none ∧ f ∉ frs X.stack ∧
    ((dV = .none ∧ params.defaults = []) ∨ ∃ t v, dV = .ref t ∧ s.heap.get? t = some (PySem.W.kdv_tup [v]) ∧ H t = none ∧ t ∉ frs X.stack ∧ params.defaults ≠ [])
/-- its parameters take their defaults -/
def LamB (X : Cx) (params : Arguments) (body : Expr) (scope : Scope) : Prop :=
  ∀ (dV doc pm cv ctv : Value) (s : Shared), (dV = .none ∧ params.defaults = []) ∨ (∃ t v, dV = .ref t ∧ s.heap.get? t = some (PySem.W.kdv_tup [v]) ∧ params.defaults ≠ []) →
    ∃ binds, BindsTo s (lamF X params body scope dV doc pm cv ctv) ⟨[], []⟩ binds ∧ ∀ y ∈ binds, scope.names.lookup y.1 = some .local
/-- all but the tables stays, nothing goes -/
structure ExtL (H H' : Hp) : Prop where
  n : LamX.ExtN H H'
  dom : ∀ b, H' b = none → H b = none
section
variable {X : Cx} {pins : List (Addr × Obj)} {σ : L2.St} {H HZ : Hp} {s s1 : Shared}
theorem new_frs (I : Inv X pins σ H s) {f : Addr} (hf : s.heap.objs.size ≤ f) : f ∉ frs X.stack := fun z => (List.mem_cons.mp (I.stkSub _ z)).elim (fun e => by
  have h1 := I.lt
  rw [← e] at h1
  exact absurd (Nat.lt_of_lt_of_le h1 hf) (Nat.lt_irrefl _)) fun e => I.nofs hf e
theorem lam_tail {T : List (Addr × Str)} {c P : Addr} {params : Arguments} {body : Expr} {scope : Scope} {dV : Value} {pos : Pos} {ln : Nat} {E : Value → Shared → Prop} {Q : Value → Shared → Prop} (I : Inv X pins σ H s) (TB : LamX.TabB X.base X.mg c P) (hcode : X.env.code = .ref c)
    (hm : (P, lamQ X) ∈ T) (hu : ∀ p ∈ T, p.1 = P → p.2 = lamQ X) (hT : LamX.Tabs T H) (L : LamT X.N X.env.scope scope)
    (h : ∀ (f c' : Addr) (doc pm ctv : Value) (H1 : Hp) (s' : Shared), Inv X pins σ H1 s' → ExtL H H1 → LamX.Tabs T H1 → (∀ b o, s.heap.get? b = some o → b ≠ P → s'.heap.get? b = some o) → (∀ b o, s.heap.get? b = some o → H b = none → H1 b = none) →
      s'.heap.get? f = some { cls := .type "function", data := .func (lamF X params body scope dV doc pm (.ref c') ctv) } → H1 f = none → f ∉ frs X.stack → H1 c' = some (LamX.CodeO c' (lamQ X)) → Q (.ref f) s') :
    wpAny (model X.prog X.w) X.A (makeTail "<lambda>" (lamQ X) params (.expr body) scope X.env dV .none none pos ln) Q E s := by
  obtain ⟨ps, hP, ht, ha⟩ := hT _ hm
  have hfree : ∀ y ∈ scope.names, y.2 = .free → ∃ c, X.env.cells.lookup y.1 = some c := fun y hy e => I.ok.has _ ((L.free y hy e).imp id id)
  have gk := I.mod.glob.keeps I.bk
  have bP := TB.bm.keeps I.bk
  have oP : s.heap.get? P = some { cls := .none, data := .fields ps } := I.hok P _ hP
  have nP : ∀ b o, H b = some o → (∀ q, o ≠ .tbl q) → b ≠ P := fun b o e n z => by
    subst z
    rw [hP] at e
    exact n ps (Option.some.inj e).symm
  cases hc : codeAmong pos ps.toList with
  | some cv =>
    obtain ⟨c', rfl, hco⟩ := ha pos cv hc
    refine PySem.W.kdv_makeTailHit (mg := X.mg) (ps := ps) (closure_ok hfree) I.ok.glob gk hcode (TB.code.keeps I.bk) oP ht hc bP fun ctv doc h' tk kp sz => ?_
    have kp2 : ∀ b o, s.heap.get? b = some o → (h'.push { cls := .type "function", data := .func (lamF X params body scope dV doc ((X.mg "__name__").getD .none) (.ref c') ctv) }).get? b = some o := fun b o e => Heap.get?_push_of_some _ (kp b o e)
    exact h _ c' doc _ ctv H _ (I.kept kp2) ⟨LamX.ExtN.refl H, fun _ z => z⟩ hT (fun b o e _ => kp2 b o e) (fun _ _ _ n => n) (Heap.get?_push_size _ rfl) (I.hok.fresh sz) (new_frs I sz) hco
  | none =>
    refine PySem.W.kdv_makeTail (mg := X.mg) (ps := ps) (closure_ok hfree) I.ok.glob gk hcode (TB.code.keeps I.bk) oP ht hc TB.gP bP fun c' ctv doc h' tk kp ge lt rec tb => ?_
    obtain ⟨_, oc, vs, t, e2, hoc, hd, hv⟩ := rec
    cases e2
    have sz : s.heap.objs.size ≤ h'.objs.size := Nat.le_trans ge (Nat.le_of_lt lt)
    have nc : H c' = none := I.hok.fresh ge
    have kp2 : ∀ b o, b ≠ P → s.heap.get? b = some o → (h'.push { cls := .type "function", data := .func (lamF X params body scope dV doc ((X.mg "__name__").getD .none) (.ref c') ctv) }).get? b = some o := fun b o n e => Heap.get?_push_of_some _ (kp b o n e)
    have I1 := LamX.inv_table (t' := tk) (q := lamQ X) (more := #[rawInt pos.line, rawInt pos.col, .ref c']) I hP kp2 (Heap.get?_push_of_some _ tb) ge ⟨oc, vs, t, Heap.get?_push_of_some _ hoc, hd, hv⟩
    have ex : LamX.ExtN H (upd (upd H P (.tbl (ps ++ #[rawInt pos.line, rawInt pos.col, .ref c']))) c' (LamX.CodeO c' (lamQ X))) := fun b o e n => by
      rw [upd_ne (ne_of_none e nc), upd_ne (nP b o e n)]
      exact e
    have nPc : P ≠ c' := ne_of_none hP nc
    have pl : (ps ++ #[rawInt pos.line, rawInt pos.col, .ref c']).toList = ps.toList ++ [rawInt pos.line, rawInt pos.col, .ref c'] := by simp
    refine h _ c' doc _ ctv _ _ I1 ⟨ex, fun b z => ?_⟩ (fun p hp => ?_) (fun b o e n => kp2 b o n e) (fun b o e n => by rw [upd_ne (Nat.ne_of_lt (Nat.lt_of_lt_of_le (Heap.lt_size e) ge)), upd_ne (show b ≠ P from fun z => by rw [z, hP] at n; cases n)]; exact n) (Heap.get?_push_size _ rfl) ?_ (new_frs I sz) upd_same
    · by_cases b1 : b = c'
      · rw [b1, upd_same] at z; cases z
      rw [upd_ne b1] at z
      by_cases b2 : b = P
      · rw [b2, upd_same] at z; cases z
      rw [upd_ne b2] at z
      exact z
    · by_cases hb : p.1 = P
      · rw [hu p hp hb, hb]
        refine ⟨ps ++ #[rawInt pos.line, rawInt pos.col, .ref c'], ?_, ?_, fun p' cv hcv => ?_⟩
        · rw [upd_ne nPc, upd_same]
        · rw [pl]
          exact PySem.TriplesOk_snoc _ _ _ _ ht
        · rw [pl] at hcv
          rcases LamX.among_app _ ht hcv with z | rfl
          · obtain ⟨c0, e1, e2⟩ := ha p' cv z
            exact ⟨c0, e1, ex _ _ e2 LamX.codeO_ne⟩
          · exact ⟨c', rfl, upd_same⟩
      · obtain ⟨qs, a1, a2, a3⟩ := hT p hp
        refine ⟨qs, ?_, a2, fun p' cv hcv => ?_⟩
        · rw [upd_ne (ne_of_none a1 nc), upd_ne hb]
          exact a1
        · obtain ⟨c0, e1, e2⟩ := a3 p' cv hcv
          exact ⟨c0, e1, ex _ _ e2 LamX.codeO_ne⟩
    · have n1 : h'.objs.size ≠ c' := Nat.ne_of_gt lt
      have n2 : h'.objs.size ≠ P := Nat.ne_of_gt (Nat.lt_of_lt_of_le (Heap.lt_size oP) sz)
      rw [upd_ne n1, upd_ne n2]
      exact I.hok.fresh sz
/-- how the defaults are told: none, or one whole number -/
def LamD (params : Arguments) : Prop := params.kw_defaults = [] ∧ (params.defaults = [] ∨ ∃ i j p, params.defaults = [.Constant (.int i) j p])
theorem lam_new {T : List (Addr × Str)} {c P : Addr} {params : Arguments} {body : Expr} {scope : Scope} {pos : Pos} {Q : Value → Shared → Prop} (I : Inv X pins σ H s) (TB : LamX.TabB X.base X.mg c P) (hcode : X.env.code = .ref c)
    (hm : (P, lamQ X) ∈ T) (hu : ∀ p ∈ T, p.1 = P → p.2 = lamQ X) (hT : LamX.Tabs T H) (L : LamT X.N X.env.scope scope) (hd : LamD params)
    (h : ∀ (f c' : Addr) (H1 : Hp) (s' : Shared), Inv X pins σ H1 s' → ExtL H H1 → LamX.Tabs T H1 → Lam X params body scope f c' H1 s' → H1 c' = some (LamX.CodeO c' (lamQ X)) → Q (.ref f) s') :
    wpAny (model X.prog X.w) X.A (eval (.Lambda params body scope pos) X.env) Q X.xe s := by
  obtain ⟨hk, hd⟩ := hd
  rcases hd with hd | ⟨i, j, p, hd⟩
  · refine PySem.W.kla_eval (by rw [defaultsOf_eq, hd, hk]; rfl) ?_
    rw [makeFunction_eq]
    simp only [List.zip_nil_right, List.filterMap_nil, List.isEmpty_nil, if_true, pure_bind]
    exact lam_tail I TB hcode hm hu hT L fun f c' doc pm ctv H1 s' I1 e1 t1 _ _ o1 n1 f1 c1 => h f c' H1 s' I1 e1 t1 ⟨_, doc, pm, ctv, o1, n1, f1, .inl ⟨rfl, hd⟩⟩ c1
  · refine PySem.W.kdv_lam (by rw [hd]; rfl) hk ?_
    rw [hd]
    refine PySem.W.kdv_all1 (thn ((pe_int (X := X) (i := i) (j := j) (pos := p)).run pins s σ H (fun v H1 => H1 = H) I rfl) fun v s1 ⟨x, H1, I1, r1, q1⟩ => PySem.W.kdv_all0 ?_)
    subst q1
    rw [makeFunction_eq]
    simp only [List.zip_nil_right, List.filterMap_nil, List.isEmpty_nil, if_true, pure_bind, List.isEmpty_cons, Bool.false_eq_true, if_false]
    refine wpAny_bind (wpAny_newTextTuple ?_)
    have I2 : Inv X pins σ H1 { s1 with heap := s1.heap.push (PySem.W.kdv_tup [v]) } := I1.kept fun b o e => Heap.get?_push_of_some _ e
    obtain ⟨ps, hP, _⟩ := hT _ hm
    have oP : s1.heap.get? P = some { cls := .none, data := .fields ps } := I1.hok P _ hP
    refine lam_tail I2 TB hcode hm hu hT L fun f c' doc pm ctv H2 s' I3 e1 t1 kp fr o1 n1 f1 c1 => h f c' H2 s' I3 e1 t1 ⟨_, doc, pm, ctv, o1, n1, f1, .inr ⟨s1.heap.objs.size, v, rfl, ?_, ?_, new_frs I1 (Nat.le_refl _), by rw [hd]; simp⟩⟩ c1
    · exact kp _ _ (Heap.get?_push_size _ rfl) (Nat.ne_of_gt (Heap.lt_size oP))
    · exact fr _ _ (Heap.get?_push_size _ rfl) (I1.hok.fresh (Nat.le_refl _))
/-- the lambda's frame begins -/
theorem lam_begin {A : Around} {outer : List Env} {E : XK} {scope : Scope} {f c' : Addr} {h1 : Heap} {tk : Nat} {binds : List (Str × Value)} (I : Inv X pins σ H s) (L : LamT X.N X.env.scope scope) (e0 : Env0 X.prog X.w X.K X.mg X.base A outer s1 HZ) (hd : A.handled = none)
    (un : Un (frs X.stack) [] H HZ s.heap s1.heap) (ns : h1.Ns s1.heap.objs.size fun y => binds.reverse.lookup y) (kp : ∀ b o, s1.heap.get? b = some o → h1.get? b = some o) : Inv (LamX.lamCx X A outer s1 HZ E scope f c') [] σ HZ { s1 with heap := h1, toks := tk } := by
  have has : ∀ y ∈ scope.names, y.2 = .free → ∃ c, X.env.cells.lookup y.1 = some c := fun y hy e => I.ok.has _ (L.free y hy e)
  have back : ∀ {y : Str} {c : Addr}, (cloFrom X.env.cells scope.names []).lookup y = some c → X.env.cells.lookup y = some c := fun {y c} e => by
    rcases cloFrom_mem (PySem.mem_of_lookup e) with z | ⟨a, b⟩
    · exact absurd z List.not_mem_nil
    · obtain ⟨c1, z⟩ := has _ a rfl
      have z : X.env.cells.lookup y = some c1 := z
      rw [z] at b
      rw [z, b]
      rfl
  have there : ∀ {y : Str}, scope.names.lookup y = some .free → ∃ c, (cloFrom X.env.cells scope.names []).lookup y = some c := fun {y} z => mem_lookup (cloFrom_has (cells := X.env.cells) (acc := []) (PySem.mem_of_lookup z))
  have cells : ∀ {c : Addr} {v : Option Value}, H c = none → s.heap.IsCell c v → h1.IsCell c v := fun {c v} n ⟨o, ho, dt⟩ => by
    obtain ⟨sl, q⟩ := un.any ho n List.not_mem_nil
    exact ⟨_, kp _ _ q, dt⟩
  have none_ex : ∀ b : Addr, b ∉ (LamX.lamCx X A outer s1 HZ E scope f c').ex := fun b z => List.not_mem_nil z
  have okk : (LamX.lamCx X A outer s1 HZ E scope f c').Ok := {
    mod := e0.mod
    kind := L.kind
    glob := rfl
    blt := rfl
    above := Nat.le_refl _
    inj := fun y z c a b => I.ok.inj y z c (back a) (back b)
    has := fun y hy => by
      have hy : scope.names.lookup y = some .cell ∨ scope.names.lookup y = some .free := hy
      exact hy.elim (fun z => absurd rfl (L.own _ (PySem.mem_of_lookup z)).1) there
    cab := fun y c z => Bool.noConfusion z
    hd := fun _ => hd
    frames := Around.frames_deeper e0.frames
    stk := .inr ⟨rfl, rfl⟩
    exf := fun b z => absurd z (none_ex b)
    bs := e0.bs
    bsz := e0.bsz
    noex := fun b _ _ => none_ex b
    exfs := fun b z => absurd z (none_ex b)
    funs := e0.funs
    frf := e0.frf }
  exact {
    ok := okk
    os := rfl
    bare := e0.bare
    base := Un.kept kp
    loc := ⟨_, ns, fun i y v e1 e2 e3 => by
      have e3 : Vis scope y := e3
      rcases e3 with z | z | z
      · exact absurd (List.mem_of_getElem? e1) ((L.own _ (PySem.mem_of_lookup z)).2 rfl)
      · exact absurd rfl (L.own _ (PySem.mem_of_lookup z)).1
      · have fr := L.free _ (PySem.mem_of_lookup z) rfl
        obtain ⟨m, _, lk⟩ := I.loc
        obtain ⟨u, r, q⟩ := lk i y v e1 e2 (fr.elim (fun k => .inr (.inl k)) fun k => .inr (.inr k))
        obtain ⟨c2, h2⟩ := there z
        refine ⟨u, r, .inr ⟨.inr z, c2, h2, ?_⟩⟩
        rcases q with ⟨k, _⟩ | ⟨_, c3, k, w⟩
        · have k : X.env.scope.names.lookup y = some .local := k
          have fr : X.env.scope.names.lookup y = some .cell ∨ X.env.scope.names.lookup y = some .free := fr
          rw [k] at fr
          rcases fr with fr | fr <;> cases fr
        · have c1 := back h2
          rw [c1] at k
          cases k
          exact cells (I.freeC y _ c1) w⟩
    cell := fun y c e => by
      obtain ⟨w, z⟩ := I.cell y c (back e)
      exact ⟨w, cells (I.freeC y c (back e)) z⟩
    free := e0.hok.fresh (Nat.le_refl _)
    freeC := fun y c e => by
      obtain ⟨v, o, ho, _⟩ := I.cell y c (back e)
      exact un.free c o ho (I.freeC y c (back e)) List.not_mem_nil
    pin := fun q hq => absurd (show q ∈ ([] : List (Addr × Obj)) ++ [] from hq) (by simp)
    hok := e0.hok.kept kp
    len := I.len }
/-- the lambda is called in the def that got it, entered at s -/
theorem lam_act {CXg : CXT} {Eg : XK} {Ng : List Str} {qg : Str} {sg : Scope} {g f c' : Addr} {cdg : Value} {params : Arguments} {body : Expr} {scope : Scope} {k i : Nat} {a : Str} {pn : List (Addr × Obj)} {xe : Value → Shared → Prop} {W : WX} {tb : XK → TE} {p1 p2 : Pos}
    (I : Inv X pins σ H s) (L : LamT X.N X.env.scope scope) (hl : Lam X params body scope f c' H s) (hb : LamB X params body scope)
    (tk : Takes ((cxOf CXg X.prog X.w X.K X.mg X.base Ng qg sg g cdg X.A X.stack s H Eg).tr pn xe) W) (hr : Room (k + 1) (X.A.deeper (envOfC qg sg s.heap.objs.size g cdg)))
    (hbody : ∀ (E : XK) (A : Around) (outer : List Env) (s : Shared) (H : Hp), Room k (A.deeper (LamX.lamEnv X scope s.heap.objs.size f c')) → PE (LamX.lamCx X A outer s H E scope f c') body (tb E))
    (hN : Ng[i]? = some a) (hv : Vis sg a) (hdb : (a == ("__debug__" : Str)) = false := by decide) (hcd : (a == ("__classdict__" : Str)) = false := by decide) :
    PE ((cxOf CXg X.prog X.w X.K X.mg X.base Ng qg sg g cdg X.A X.stack s H Eg).tr pn xe) (.Call (.Name a p1) [] [] p2) (fun τ HZ Q => ∃ E : XK, (∀ cls d H', E cls d H' → W cls d τ H') ∧ τ[i]? = some (some (.ref f)) ∧ HZ c' = some (LamX.CodeO c' (lamQ X)) ∧ tb E σ HZ Q) := by
  refine ⟨fun pz sz τ HZ Q IZ ⟨E, hW, hs, hc, ht⟩ => ?_⟩
  refine wpAny_Call_Name_kw (thn ((pe_var (pos := p1) (i := i) hN hv hdb hcd).run pz sz τ HZ (fun v H1 => v = .ref f ∧ H1 = HZ) IZ ⟨.ref f, hs, rfl, rfl⟩) fun u s1 ⟨v, H1, I1, r1, ev, eH⟩ => ?_)
  subst ev
  rw [eH] at I1
  obtain rfl : u = Value.ref f := r1
  have un : Un (frs X.stack) [] H HZ s.heap s1.heap := I1.base
  obtain ⟨dV, doc, pm, ctv, of, nf, ff, hd⟩ := hl
  have of1 := un.keep f _ of nf ff List.not_mem_nil
  have hd1 : (dV = .none ∧ params.defaults = []) ∨ (∃ t v, dV = .ref t ∧ s1.heap.get? t = some (PySem.W.kdv_tup [v]) ∧ params.defaults ≠ []) := by
    rcases hd with z | ⟨t, v, e, o, n, nf, z⟩
    · exact .inl z
    · exact .inr ⟨t, v, e, un.keep t _ o n nf List.not_mem_nil, z⟩
  obtain ⟨binds, hbi, hlo⟩ := hb dV doc pm (.ref c') ctv s1 hd1
  obtain ⟨⟨oc, vs, t, o1, o2, o3⟩, _, _⟩ := I1.hok c' _ hc
  have cr : codeAny (model X.prog X.w) (X.A.deeper (envOfC qg sg s.heap.objs.size g cdg)) (.call (.ref f) ⟨[], []⟩) (CR (L2.CX X.prog X.w) (envOfC qg sg s.heap.objs.size g cdg :: X.stack) X.prog X.w HZ s1 Q E) s1 := by
    refine PySem.W.kla_callFunE hr.depth of1 rfl L.co L.gen rfl ⟨c', oc, vs, t, rfl, o1, o2, o3⟩ (hbi _ _ _ _ ?_)
    refine wpAny_newFunctionEnv (fun y hy => (L.own y hy).1) hlo (fun h1 ns sb => ⟨I1.nolimit.fresh _ sb, ?_⟩) L.kind
    show codeAny _ _ (.expr body (LamX.lamEnv X scope s1.heap.objs.size f c')) _ _
    have kp : ∀ b o, s1.heap.get? b = some o → h1.get? b = some o := fun b o z => sb.extBut b o (Nat.ne_of_lt (Heap.lt_size z)) (Heap.get?_push_of_some _ z)
    have J := lam_begin (A := X.A.deeper (envOfC qg sg s.heap.objs.size g cdg)) (outer := envOfC qg sg s.heap.objs.size g cdg :: X.stack) (E := E) (f := f) (c' := c') (tk := s1.toks + binds.length) I L I1.env0 hr.hd un ns kp
    refine PySem.W.kla_codeExpr (wpAny_mono ((hbody E _ _ s1 HZ (hr.deeper _)).run [] _ _ HZ Q J ht) (fun v s' hq => ?_) fun e s' hq => hq)
    obtain ⟨y, H', J', rv, q⟩ := hq
    exact ⟨y, H', J'.os, J'.bare, J'.base, J'.hok, rv, q⟩
  refine PySem.W.callWith_F0 ⟨_, _, _, _, of1⟩ (wpAny_call (codeAny_mono cr fun r s' hq => ?_))
  cases r with
  | error e => exact tk e s' (XE.of_call I1 hW hq)
  | ok fl => cases fl with
    | ret u => exact I1.after hq
    | next => exact hq.elim
    | brk => exact hq.elim
    | cont => exact hq.elim
end
/-! ### x(lambda: e), where x is: try: return a() / except en as n: suite -/
def eTold (tx : Xc → Option D) (mb : ME) : ME := fun ρ μ => match mb ρ μ with
  | .exc x μ1 => Res.of ((tx x).map Op.sh) μ1
  | r => r
variable [Tbs]
def exnE (n i : Nat) (a : Addr) (d : Option Addr) (x : Xc) : Ev := (List.replicate n Sl.no).set i (.sh (.exn a d x.ns x.vs))
def exnD (x : Xc) (d : Option Addr) : Prop := (x.ns = [] ∧ d = none) ∨ (x.ns ≠ [] ∧ ∃ q, d = some q)
theorem exn_R {K : PySem.W.Frag} {cad : Str → Addr} {F H : Hp} {ι : List Addr} {μ : Store} {n i : Nat} {a : Addr} {d : Option Addr} {x : Xc} {τ : L2.St} (s : RS K cad F ι μ H) (q : XR K cad F ι x d) (hl : τ.length = n) : R K cad F ι μ (exnE n i a d x) (τ.set i (some (.ref a))) H := by
  have get : ∀ (j : Nat) (z : Sl), (exnE n i a d x)[j]? = some z → (j = i ∧ z = .sh (.exn a d x.ns x.vs) ∧ i < n) ∨ z = .no := fun j z e => by
    rcases get_set e with ⟨e1, e2, e3⟩ | ⟨_, e⟩
    · rw [List.length_replicate] at e3
      exact .inl ⟨e1, e2, e3⟩
    · exact .inr (List.eq_of_mem_replicate (List.mem_of_getElem? e))
  refine ⟨s, ?_, fun j d' e => ?_, fun j o e => ?_, fun j k o o' b e => ?_⟩
  · unfold exnE
    rw [List.length_set, List.length_set, List.length_replicate]
    exact hl
  · rcases get j _ e with ⟨rfl, e2, e3⟩ | e2
    · cases e2
      refine ⟨.ref a, List.getElem?_set_self (by rw [hl]; exact e3), ?_⟩
      unfold VR
      refine ⟨rfl, fun dd e4 => ?_⟩
      rcases q with ⟨_, q⟩ | ⟨_, b, vs, q1, q2, q3, q4⟩
      · rw [q] at e4; cases e4
      · rw [q1] at e4
        cases e4
        exact ⟨vs, q2, q3, q4⟩
    · cases e2
  · rcases get j _ e with ⟨rfl, e2, _⟩ | e2 <;> cases e2
  · rcases get j _ e with ⟨rfl, e2, _⟩ | e2 <;> cases e2
theorem exnD_of {K : PySem.W.Frag} {cad : Str → Addr} {F : Hp} {ι : List Addr} {x : Xc} {d : Option Addr} (q : XR K cad F ι x d) : exnD x d := q.imp id fun ⟨h, a, _, e, _⟩ => ⟨h, a, e⟩
theorem Ext.lam {F H H1 : Hp} {ι : List Addr} (e : ExtL H H1) : Ext F ι H F ι H1 := ⟨Same.refl _, List.prefix_rfl, fun a o _ h n => e.n a o h n, e.dom, fun a h1 h2 => absurd h1 h2, fun a h1 h2 => absurd h1 h2, fun a o u h => e.n a _ h fun ps z => by cases z⟩
theorem RS.lam {K : PySem.W.Frag} {cad : Str → Addr} {F H H1 : Hp} {ι : List Addr} {μ : Store} (r : RS K cad F ι μ H) (e : ExtL H H1) (t : Tb H1) : RS K cad F ι μ H1 := by
  refine ⟨fun a o h => e.n a o (r.sub a o h) fun ps z => r.ft a ps (by rw [h, z]), r.len, r.nd, r.sep, fun n o a e1 e2 => ?_, t, r.ft⟩
  obtain ⟨ho, h, q⟩ := r.obj n o a e1 e2
  exact ⟨ho, e.n a ho h q.notbl.1, q⟩
abbrev toldX (X : Cx) (Ng : List Str) (x : Str) (sc : Scope) (g : Addr) (cdg : Value) (s : Shared) (H : Hp) : Cx := (cxOf CX0 X.prog X.w X.K X.mg X.base Ng x sc g cdg X.A X.stack s H E0).nox
section
variable {X : Cx} {cad : Str → Addr} {W : WX}
theorem de_told {x a en n : Str} {st : Stmt} {g c P CS : Addr} {fd : FuncData} {Ng : List Str} {i k : Nat} {p1 p2 p3 p4 p5 p6 p7 lpos pos : Pos} {b0 : Stmt} {suite : List Stmt} {params : Arguments} {body : Expr} {scope : Scope} {mb : ME} {tx : Xc → Option D} {bt : Addr → Option Addr → Xc → MS}
    (G : Fun X.K x x st g fd) (hst : defBody st = [.Try [.Return (some (.Call (.Name a p1) [] [] p2)) p3] [.ExceptHandler (some (.Name en p4)) (some n) (b0 :: suite) p5] [] [] p6]) (Sg : FnScope Ng [a] (defScope st)) (hbi : Binds X.K fd [a] []) (gl : Gl X x) (hm : X.mg x = some (.ref g))
    (hen : (defScope st).names.lookup en = some .globalImplicit) (hme : X.mg en = some (.ref CS)) (hn : Ng[i]? = some n) (hln : (defScope st).names.lookup n = some .local) (hva : Vis (defScope st) a) (hex : ∀ xc d, tx xc = some d → PySem.W.exmOne X.K (.ref (cad xc.cls)) (.ref CS) = some true)
    (hsu : ∀ (xc : Xc) (dd : D), tx xc = some dd → ∀ (s : Shared) (H : Hp) (cdg : Value) (a' : Addr) (oe : Obj) (d : Option Addr) (pn : List (Addr × Obj)) (E : Ent), Room (k + 1) (X.A.deeper (envOfC x (defScope st) s.heap.objs.size g cdg)) → Zc (.ref (cad xc.cls)) d oe → (∃ vs, oe.data = .fields vs) → exnD xc d → PSs ((toldX X Ng x (defScope st) g cdg s H).suite a' ((a', oe) :: pn)) (b0 :: suite) (tS X.K cad WT E (bt a' d xc)))
    (hev : ∀ (xc : Xc) (dd : D) (a' : Addr) (d : Option Addr) (μ : Store), tx xc = some dd → exnD xc d → ∃ ρ', bt a' d xc (exnE Ng.length i a' d xc) μ = .ok (.rt (.sh dd), ρ') μ)
    (TB : LamX.TabB X.base X.mg c P) (hcode : X.env.code = .ref c) (hmT : (P, lamQ X) ∈ Tbs.T) (hu : ∀ p ∈ Tbs.T, p.1 = P → p.2 = lamQ X) (hr : Room (k + 2) X.A) (L : LamT X.N X.env.scope scope) (hd : LamD params) (hB : LamB X params body scope)
    (hbody : ∀ (E : XK) (A : Around) (outer : List Env) (s : Shared) (H : Hp) (f c' : Addr), Room k (A.deeper (LamX.lamEnv X scope s.heap.objs.size f c')) → PE (LamX.lamCx X A outer s H E scope f c') body (tE X.K cad (WK E) mb))
    (h0 : ∀ f : Addr, (L2.start Ng [V.ref f])[0]? = some (some (V.ref f)) := by intro _; rfl) (hN0 : Ng[0]? = some a := by rfl)
    (hdb : (x == ("__debug__" : Str)) = false := by decide) (hda : (a == ("__debug__" : Str)) = false := by decide) (hca : (a == ("__classdict__" : Str)) = false := by decide) (hde : (en == ("__debug__" : Str)) = false := by decide) :
    PE X (.Call (.Name x p7) [.Lambda params body scope lpos] [] pos) (tE X.K cad W (eTold tx mb)) := by
  refine ⟨fun pins s σ H Q I ⟨F, ι, μ, ρ, r, post⟩ => ?_⟩
  refine wpAny_Call_Name_kw (ld_glob I gl hm ?_ hdb)
  refine PySem.W.callWith_K (h₀ := X.base) I.ok.mod.kin G.kp ?_ (by rfl) (by rfl)
  refine Calls.spliced_cons (lam_new I TB hcode hmT hu r.rs.tb L hd fun f c' H1 s' I1 eL T1 hl hco => Calls.spliced_nil ⟨I1.kIn, ?_⟩)
  have xL : Ext F ι H F ι H1 := Ext.lam eL
  have sL : RS X.K cad F ι μ H1 := r.rs.lam eL T1
  have rL := r.ext xL sL
  obtain ⟨oc, od, kV, doc, pm, an, cdv, ct, osl, rfl, lk, hcd⟩ := G.ex
  have cr : codeAny (model X.prog X.w) X.A (.call (.ref g) ⟨[.ref f], []⟩) (CR CX0 X.stack X.prog X.w H1 s' Q E0) s' := by
    refine LamX.run_ofS (N := Ng) (ps := [a]) (us := [.ref f]) (vs := [.ref f]) lk hcd Sg hr I1.env0 (hbi s' [.ref f] I1.kIn rfl) (.cons rfl .nil) rfl fun hr' => ?_
    have sl : (L2.start Ng [V.ref f]).length = Ng.length := by
      have := (List.getElem?_eq_some_iff.mp hN0).1
      unfold L2.start
      rw [List.length_append, List.length_map, List.length_replicate, List.length_singleton]
      omega
    have tg : Takes (toldX X Ng x (defScope st) g cdv s' H1) (fun _ _ _ _ => False) := LamX.takes0
    let ts : Addr → Value → Option Addr → TS := fun a' cls d D τ H' => ∃ xc dd F' ι' μ', tx xc = some dd ∧ cls = .ref (cad xc.cls) ∧ XR X.K cad F' ι' xc d ∧ RS X.K cad F' ι' μ' H' ∧ (∃ τ0 : L2.St, τ0.length = Ng.length ∧ τ = τ0.set i (some (.ref a'))) ∧ ∀ F2 ι2 H2 v, Ext F' ι' H' F2 ι2 H2 → RS X.K cad F2 ι2 μ' H2 → VR X.K cad ι2 F2 dd v → D.rt v H2
    rw [hst]
    refine ⟨_, (pss_one (ps_try_as (X := toldX X Ng x (defScope st) g cdv s' H1) (i := i) (n := n) (x := en) (c := .ref CS) (Wout := fun _ _ _ _ => False) (ts := ts)
      (tb := fun W D τ HZ => ∃ E : XK, (∀ cls d H', E cls d H' → W cls d τ H') ∧ τ[0]? = some (some (.ref f)) ∧ HZ c' = some (LamX.CodeO c' (lamQ X)) ∧ tE X.K cad (WK E) mb σ HZ D.rt)
      rfl rfl Sg.nd hn hln ⟨hen, hde, .inl hme⟩ tg (fun W pn xe tk _ => ?_) (fun a' oe cls d pn hz hf => ?_))).nox, ?_⟩
    · have hp := lam_act (Eg := E0) (CXg := CX0) (cdg := cdv) (qg := x) (sg := defScope st) (g := g) (Ng := Ng) (pn := pn) (xe := xe) (W := W) (tb := fun E => tE X.K cad (WK E) mb) (p1 := p1) (p2 := p2) I1 L hl hB tk hr' (fun E A outer s H hr2 => hbody E A outer s H f c' hr2) hN0 hva hda hca
      exact ⟨fun pins s' σ' H' D I h' => (pss_one (ps_ret (pos := p3) hp)).run pins s' σ' H' D I h'⟩
    · refine ⟨fun pins s2 τ H2 D I2 h2 => ?_⟩
      obtain ⟨xc, dd, F', ι', μ', e1, e2, q, rs, ⟨τ0, l0, rfl⟩, k2⟩ := h2
      subst e2
      have R1 := exn_R (i := i) (a := a') rs q l0
      obtain ⟨ρ', e3⟩ := hev xc dd a' d μ' e1 (exnD_of q)
      refine (hsu xc dd e1 s' H1 cdv a' oe d pn ⟨F', ι', H2⟩ hr' hz hf (exnD_of q)).run pins s2 _ H2 D I2 ⟨F', ι', μ', exnE Ng.length i a' d xc, ⟨R1, Ext.refl _ _ _, fun j o b e => ?_⟩, ?_⟩
      · rcases get_set e with ⟨_, e2, _⟩ | ⟨_, e⟩
        · cases e2
        · cases List.eq_of_mem_replicate (List.mem_of_getElem? e)
      · rw [e3]
        exact fun F2 ι2 H3 v x2 s3 q2 => k2 F2 ι2 H3 v x2 s3 q2
    · refine ⟨fun cls d H' => wAs X.K (.ref CS) i ts (fun _ _ _ _ => False) { nx := fun _ H' => Q .non H', rt := Q } cls d (L2.start Ng [V.ref f]) H', fun _ _ _ z => z, h0 f, hco, F, ι, μ, ρ, rL, ?_⟩
      unfold eTold at post
      cases cm : mb ρ μ with
      | stk => rw [cm] at post; exact post
      | ok o μ1 =>
        rw [cm] at post
        exact fun F' ι' H' v x2 s2 q2 => post F' ι' H' v (xL.trans x2) s2 ((rlE X.K cad ρ σ).mono xL.dom q2)
      | exc xc μ1 =>
        rw [cm] at post
        intro F' ι' H' d x2 s2 q2
        obtain ⟨o, e1, k1⟩ := Post.of post
        cases e2 : tx xc with
        | none => rw [e2] at e1; cases e1
        | some dd =>
          rw [e2] at e1
          cases e1
          refine ⟨true, hex xc dd e2, fun _ a' na => ⟨xc, dd, F', ι', μ1, e2, rfl, q2, s2, ⟨_, sl, rfl⟩, fun F2 ι2 H2 v x3 s3 q3 => ?_⟩, fun z => by cases z⟩
          exact k1 F2 ι2 H2 v (xL.trans (x2.trans x3)) s3 q3
  refine wpAny_call (codeAny_mono cr fun z s2 hq => ?_)
  cases z with
  | error e => exact (show False from hq).elim
  | ok fl => cases fl with
    | ret u => exact I1.after hq
    | next => exact hq.elim
    | brk => exact hq.elim
    | cont => exact hq.elim
end
/-- lambdas may be made in the def at f, q their name -/
def LamM (K : PySem.W.Frag) (mg : Str → Option Value) (base : Heap) (f : Addr) (q : Str) : Prop :=
  ∃ c P, (∀ cdv, CodeAt K f cdv → cdv = .ref c) ∧ LamX.TabB base mg c P ∧ (P, q) ∈ Tbs.T ∧ ∀ p ∈ Tbs.T, p.1 = P → p.2 = q
/-- x(lambda: e) tells what e gives, or what is made of its exception -/
structure ToldOk (P : Program) (w : World) (K : PySem.W.Frag) (mg : Str → Option Value) (base : Heap) (cad : Str → Addr) (x : Str) (tx : Xc → Option D) : Prop where
  run : ∀ {X : Cx} {W : WX} {f : Addr} {cdv : Value} {q : Str} {params : Arguments} {body : Expr} {scope : Scope} {mb : ME} {k j : Nat} {p7 lpos pos : Pos}, X.prog = P → X.w = w → X.K = K → X.mg = mg → X.base = base → Gl X x → LamM K mg base f q → CodeAt K f cdv → X.env.code = cdv → lamQ X = q → Room k X.A → j + 2 ≤ k →
    LamT X.N X.env.scope scope → LamD params → LamB X params body scope →
    (∀ (E : XK) (A : Around) (outer : List Env) (s : Shared) (H : Hp) (f c' : Addr), Room j (A.deeper (LamX.lamEnv X scope s.heap.objs.size f c')) → Takes (LamX.lamCx X A outer s H E scope f c') (WK E) → PE (LamX.lamCx X A outer s H E scope f c') body (tE K cad (WK E) mb)) →
    PE X (.Call (.Name x p7) [.Lambda params body scope lpos] [] pos) (tE K cad W (eTold tx mb))
theorem lamB0 {X : Cx} {params : Arguments} {body : Expr} {scope : Scope} (hd : params.defaults = []) (h : ∀ doc pm cv ctv : Value, bindArgs (lamF X params body scope .none doc pm cv ctv) ⟨[], []⟩ = pure []) : LamB X params body scope := by
  intro dV doc pm cv ctv s hz
  rcases hz with ⟨rfl, _⟩ | ⟨_, _, _, _, n⟩
  · refine ⟨[], fun _ _ _ _ hq => ?_, fun y hy => absurd hy List.not_mem_nil⟩
    rw [h]
    exact wpAny_pure hq
  · exact absurd hd n
theorem lamB1 {X : Cx} {params : Arguments} {body : Expr} {scope : Scope} {a : Str} (hd : params.defaults ≠ []) (hl : scope.names.lookup a = some .local)
    (h : ∀ (t : Addr) (doc pm cv ctv : Value), ∃ k : Option (Array Value) → Sem (List (Str × Value)), bindArgs (lamF X params body scope (.ref t) doc pm cv ctv) ⟨[], []⟩ = seqItems? (.ref t) >>= k ∧ ∀ v, k (some #[v]) = pure [(a, v)]) : LamB X params body scope := by
  intro dV doc pm cv ctv s hz
  rcases hz with ⟨_, n⟩ | ⟨t, v, rfl, ho, _⟩
  · exact absurd n hd
  · obtain ⟨k, h1, h2⟩ := h t doc pm cv ctv
    exact ⟨[(a, v)], BindsTo.of_defaults rfl ho rfl h1 (h2 v), fun y hy => by rw [show y = (a, v) by simpa using hy]; exact hl⟩
theorem toldOk {P : Program} {w : World} {K : PySem.W.Frag} {mg : Str → Option Value} {base : Heap} {cad : Str → Addr} {x a en n : Str} {st : Stmt} {g CS : Addr} {fd : FuncData} {Ng : List Str} {i : Nat} {p1 p2 p3 p4 p5 p6 : Pos} {b0 : Stmt} {suite : List Stmt} {tx : Xc → Option D} {bt : Addr → Option Addr → Xc → MS}
    (G : Fun K x x st g fd) (hst : defBody st = [.Try [.Return (some (.Call (.Name a p1) [] [] p2)) p3] [.ExceptHandler (some (.Name en p4)) (some n) (b0 :: suite) p5] [] [] p6]) (Sg : FnScope Ng [a] (defScope st)) (hbi : Binds K fd [a] []) (hm : mg x = some (.ref g))
    (hen : (defScope st).names.lookup en = some .globalImplicit) (hme : mg en = some (.ref CS)) (hn : Ng[i]? = some n) (hln : (defScope st).names.lookup n = some .local) (hva : Vis (defScope st) a) (hex : ∀ xc d, tx xc = some d → PySem.W.exmOne K (.ref (cad xc.cls)) (.ref CS) = some true)
    (hsu : ∀ {X : Cx}, X.K = K → X.mg = mg → ∀ (xc : Xc) (dd : D), tx xc = some dd → ∀ (s : Shared) (H : Hp) (cdg : Value) (a' : Addr) (oe : Obj) (d : Option Addr) (pn : List (Addr × Obj)) (E : Ent) (k : Nat), Room (k + 1) (X.A.deeper (envOfC x (defScope st) s.heap.objs.size g cdg)) → Zc (.ref (cad xc.cls)) d oe → (∃ vs, oe.data = .fields vs) → exnD xc d → PSs ((toldX X Ng x (defScope st) g cdg s H).suite a' ((a', oe) :: pn)) (b0 :: suite) (tS X.K cad WT E (bt a' d xc)))
    (hev : ∀ (xc : Xc) (dd : D) (a' : Addr) (d : Option Addr) (μ : Store), tx xc = some dd → exnD xc d → ∃ ρ', bt a' d xc (exnE Ng.length i a' d xc) μ = .ok (.rt (.sh dd), ρ') μ)
    (h0 : ∀ f : Addr, (L2.start Ng [V.ref f])[0]? = some (some (V.ref f)) := by intro _; rfl) (hN0 : Ng[0]? = some a := by rfl)
    (hdb : (x == ("__debug__" : Str)) = false := by decide) (hda : (a == ("__debug__" : Str)) = false := by decide) (hca : (a == ("__classdict__" : Str)) = false := by decide) (hde : (en == ("__debug__" : Str)) = false := by decide) : ToldOk P w K mg base cad x tx := by
  refine ⟨fun {X W f cdv q params body scope mb k j p7 lpos pos} e1 e2 e3 e4 e5 gl lm hc ec eq hr hj L hd hB hbody => ?_⟩
  subst e1 e2 e3 e4 e5 eq
  obtain ⟨c, P, l1, l2, l3, l4⟩ := lm
  exact de_told G hst Sg hbi gl hm hen hme hn hln hva hex (fun xc dd e s H cdg a' oe d pn E r => hsu rfl rfl xc dd e s H cdg a' oe d pn E j r) hev l2 (ec.trans (l1 cdv hc)) l3 l4 (hr.mono hj) L hd hB (fun E A outer s H f c' r => hbody E A outer s H f c' r (takes_of rfl rfl rfl rfl)) h0 hN0 hdb hda hca hde
end DL

namespace DL
open PySem PySem.Spec PyProof.Rows L2
variable [Tbs]
/-! ### l.count(x), l.index(x) -/
def rCntD (K : PySem.W.Frag) : V → List V → Hp → VK → Prop := fun x xs H Q => ∃ (a : Addr) (y : V) (d : PyData) (ds : List PyData), x = V.ref a ∧ xs = [y] ∧ Dp K H (V.ref a) (.list ds) ∧ Dp K H y d ∧ SeqAt.shaped (.list ds) = true ∧ SeqAt.shaped d = true ∧ Q (.int ((ds.countP fun z => PyData.eqv z d : Nat) : Int)) H
theorem mt_cntD {X : Cx} (hu : X.A.units + 100 < cLine) : MtR X "list.count" (rCntD X.K) := by
  intro pins s σ H x xs v us Q I rx rxs h
  obtain ⟨a, y, d, ds, rfl, rfl, hl, hy, sl, sd, q⟩ := h
  cases rx
  cases rxs with
  | cons ry rt =>
    rename_i uy ut
    cases rt
    obtain ⟨bs, r1⟩ := Dp.reads I d y uy hy ry
    cases hl with
    | lst hs ha =>
      obtain ⟨its, rv, ⟨⟨cls, dd, data, sls⟩, n, ho, hc, hdn, hdt⟩, hlen⟩ := I.list hs
      simp only at hc hdt
      subst hc hdt
      obtain ⟨as, r2⟩ := Dp.readsAll I ds _ its ha rv
      have hmap : its.map (SeqAt.readOf s.heap) = ds := SeqAt.readsAll_map ds its as (SeqAt.canLay_of_shaped sl) r2
      refine call_meets PySem.F.slot_list_count ⟨_, ho, rfl⟩ PySem.F.entry_list_count (PySem.F.args_list_count_2 _ _) (SeqAt.list_countAt a its.toArray n dd sls uy (fun u => PyData.eqv (SeqAt.readOf s.heap u) d)) ⟨ho, SeqAt.items_eqAt (vs := its.toArray) (show ReadsAll s.heap its.toArray.toList ds as from r2) r1 (SeqAt.canLay_of_shaped sl) (SeqAt.canLay_of_shaped sd) (room_in_shaped sd (by omega)), ?_⟩
      have e : its.toArray.toList.countP (fun u => PyData.eqv (SeqAt.readOf s.heap u) d) = ds.countP fun z => PyData.eqv z d := by
        rw [← hmap, List.countP_map]
        rfl
      rw [e]
      exact ⟨.int _, H, I.tok _, ⟨_, rfl⟩, q⟩
theorem mt_idxD {X : Cx} (hu : X.A.units + 100 < cLine) : MtR X "list.index" (rIndexD X.K) := mt_indexD (by omega)
def fCnt : Vw → Vw → Option Rv := fun x y => match x with
  | .ob (.lst ds) => (D.pys ds).bind fun ps => y.py.bind fun p => if SeqAt.shaped p = true ∧ SeqAt.shaped (.list ps) = true then some (.sh (.int ((ps.countP fun z => PyData.eqv z p : Nat) : Int))) else none
  | _ => none
def fIdx : Vw → Vw → Option Rv := fun x y => match x with
  | .ob (.lst ds) => (D.pys ds).bind fun ps => y.py.bind fun p => if SeqAt.shaped p = true ∧ SeqAt.shaped (.list ps) = true then (ps.findIdx? fun z => PyData.eqv z p).map fun j => .sh (.int (j : Nat)) else none
  | _ => none
def isLV : Option Vw → Bool
  | some (.ob (.lst _)) => true
  | _ => false
def eBm (f : Vw → Vw → Option Rv) (mo me : ME) : ME := fun ρ μ => (mo ρ μ).bind fun o μ1 => if isLV (deref ρ μ1 o) = true then (me ρ μ1).bind fun x μ2 => Res.of (fin2 f ρ μ2 o x) μ2 else .stk
def SdM (K : PySem.W.Frag) (cad : Str → Addr) (r : V → List V → Hp → VK → Prop) (f : Vw → Vw → Option Rv) : Prop := ∀ {F : Hp} {ι : List Addr} {μ : Store} {H : Hp} {wx wy : Vw} {vx vy : V} {rv : Rv} {Q : VK}, RS K cad F ι μ H → VwR K cad F ι H wx vx → VwR K cad F ι H wy vy → f wx wy = some rv →
  (∀ F' ι' H' v, Ext F ι H F' ι' H' → RS K cad F' ι' μ H' → RvR K cad H F' ι' H' rv v → Q v H') → r vx [vy] H Q
section
variable {K : PySem.W.Frag} {cad : Str → Addr}
theorem vw_lst {F H : Hp} {ι : List Addr} {ds : List D} {v : V} (h : VwR K cad F ι H (.ob (.lst ds)) v) : ∃ a vs, v = .ref a ∧ H a = some (.lst vs) ∧ VRs K cad ι F ds vs := let ⟨a, e, vs, e1, r⟩ := h; ⟨a, vs, e, e1, r⟩
theorem sd_cnt : SdM K cad (rCntD K) fCnt := by
  intro F ι μ H wx wy vx vy rv Q rs hx hy e k
  unfold fCnt at e
  split at e
  · next ds =>
    cases c1 : D.pys ds with
    | none => simp [c1] at e
    | some ps =>
      cases c2 : wy.py with
      | none => simp [c1, c2] at e
      | some p =>
        simp only [c1, c2, Option.bind_some] at e
        split at e
        · next h =>
          cases e
          have z := hx.dp rs (p := .list ps) (by simp [Vw.py, c1])
          obtain ⟨a, vs, rfl, e1, rv⟩ := vw_lst hx
          exact ⟨a, vy, p, ps, rfl, rfl, z, hy.dp rs c2, h.2, h.1, fin_int rs k⟩
        · cases e
  · cases e
theorem sd_idx : SdM K cad (rIndexD K) fIdx := by
  intro F ι μ H wx wy vx vy rv Q rs hx hy e k
  unfold fIdx at e
  split at e
  · next ds =>
    cases c1 : D.pys ds with
    | none => simp [c1] at e
    | some ps =>
      cases c2 : wy.py with
      | none => simp [c1, c2] at e
      | some p =>
        simp only [c1, c2, Option.bind_some] at e
        split at e
        · next h =>
          cases c3 : ps.findIdx? (fun z => PyData.eqv z p) with
          | none => rw [c3] at e; cases e
          | some j =>
            rw [c3] at e
            cases e
            have z := hx.dp rs (p := .list ps) (by simp [Vw.py, c1])
            obtain ⟨a, vs, rfl, e1, rv⟩ := vw_lst hx
            obtain ⟨j1, j2, j3⟩ := List.findIdx?_eq_some_iff_getElem.mp c3
            refine ⟨a, vy, p, ps, j, ps[j], rfl, rfl, z, hy.dp rs c2, h.2, h.1, List.getElem?_eq_getElem j1, j2, fun m z' hm hz => ?_, fin_int rs k⟩
            obtain ⟨m1, rfl⟩ := List.getElem?_eq_some_iff.mp hz
            simpa using j3 m hm
        · cases e
  · cases e
end
section
variable {X : Cx} {cad : Str → Addr} {W : WX} {o e : Expr} {mo me : ME} {name : Str} {id : String} {apos cpos : Pos} {r : V → List V → Hp → VK → Prop} {f : Vw → Vw → Option Rv}
theorem de_bm (slot : Slot "list" name id) (hty : typeOf (.builtin id) = pure (.type "method_descriptor")) (hm : MtR X id r) (sd : SdM X.K cad r f) (ho : PE X o (tE X.K cad W mo)) (he : PE X e (tE X.K cad W me)) (mb : MB X o name apos e [] cpos := by exact ⟨rfl, rfl, rfl, rfl, rfl⟩) :
    PE X (.Call (.Attribute o name apos) [e] [] cpos) (tE X.K cad W (eBm f mo me)) := by
  refine pe_imp (pe_bm PySem.F.plainAttrs_list slot hty hm ho (pa_cons he pa_nil mb.hs) mb.hbase mb.hfew mb.hline mb.hs mb.hplain) fun σ H Q ⟨F, ι, μ, ρ, rr, q⟩ => ?_
  refine ⟨F, ι, μ, ρ, rr, q.bind fun x μ1 F1 ι1 H1 v x1 s1 q1 h1 => ?_⟩
  have r1 := rr.ext x1 s1
  by_cases ci : isLV (deref ρ μ1 x) = true
  · rw [if_pos ci] at h1
    refine ⟨?_, F1, ι1, μ1, ρ, r1, h1.bind fun y μ2 F2 ι2 H2 vy x2 s2 q2 h2 => ?_⟩
    · cases c : deref ρ μ1 x with
      | none => rw [c] at ci; cases ci
      | some w =>
        rw [c] at ci
        cases w with
        | d _ => cases ci
        | ob ob =>
          cases ob with
          | lst ds =>
            obtain ⟨a, vs, rfl, e1, _⟩ := vw_lst (q1.view r1 c)
            exact .inl ⟨rfl, vs, SqL.of e1⟩
          | _ => cases ci
    · obtain ⟨op, e1, k1⟩ := Post.of h2
      exact fin2_ok (r := fun vx vy H Q => r vx [vy] H Q) sd (r1.ext x2 s2) (OpV.mono (H1 := H1) x2 q1) q2 e1 k1
  · rw [if_neg ci] at h1
    exact h1.elim
end
/-! ### raise -/
def mRaise0 (c : Str) : MS := fun _ μ => .exc ⟨c, [], []⟩ μ
def mRaise1 (c f : Str) (a : ME) : MS := fun ρ μ => (toD a ρ μ).bind fun d μ1 => .exc ⟨c, [f], [d]⟩ μ1
/-- a class of exceptions without own __init__ -/
structure ExN (K : PySem.W.Frag) (C : Addr) : Prop where
  q : PySem.W.excIn K C He.veBase "ValueError.__new__" = true
  k : PySem.W.keepIn K (.ref C) = true
  s : PySem.W.subIn K (.ref C) (.type "BaseException") = some true
  t : PySem.W.typeIn K (.ref C) = some (.type "type")
section
variable {X : Cx} {cad : Str → Addr} {E : XK} {E0 : Ent} {c m : Str} {j : Nat} {p p2 pos pos' : Pos}
theorem ds_raise0 (hc : X.calm = true) (tk : Takes X (WK E)) (xn : ExN X.K (cad c)) (hm : X.mg c = some (.ref (cad c))) (hg : Gl X c) (hdb : (c == ("__debug__" : Str)) = false := by decide) :
    PS X (.Raise (some (.Call (.Name c p) [.Constant (.str m) j p2] [] pos)) none pos') (tS X.K cad (WK E) E0 (mRaise0 c)) :=
  ps_imp (ps_raise hc tk (pmk_own PySem.F.excBase_ValueError xn.q hm xn.k (raises_own xn.s xn.t) hg hdb)) fun D σ H ⟨F, ι, μ, ρ, r, h⟩ => h F ι H σ none r.x r.r.rs (.inl ⟨rfl, rfl⟩)
end
/-- what an exception's __init__ that keeps one field does -/
def spXI (C : Addr) (f : Str) : Sp := fun vs H Q _ => ∃ (a : Addr) (y : V), vs = [.ref a, y] ∧ H a = some (exo a C none) ∧ ∀ dx, H dx = none → dx ≠ a → Q .non (upd (upd H dx (exd dx [(f, y)])) a (exo a C (some dx)))
/-- a class of exceptions whose __init__ keeps one field -/
def DefE (P : Program) (w : World) (K : PySem.W.Frag) (mg : Str → Option Value) (base : Heap) (cad : Str → Addr) (c f : Str) (j : Nat) : Prop :=
  ∃ fI fd ps, FnOk P w K mg base (L2.CX P w) j fI fd ps (spXI (cad c) f) ∧ Binds K fd ps [] ∧ OexC K (cad c) ∧ PySem.W.findIn K (.ref (cad c)) "__init__" = some (some (.ref fI)) ∧ PySem.W.typeIn K (.ref fI) = some (.type "function") ∧ mg c = some (.ref (cad c))
section
variable {X : Cx} {cad : Str → Addr} {E : XK} {E0 : Ent} {c f : Str} {j k : Nat} {p pos pos' : Pos} {e : Expr} {me : ME}
theorem upd_exc {H1 : Hp} {a dx C : Addr} {f : Str} {y : V} (ha : H1 a = none) (hd : dx ≠ a) : upd (del (upd (upd (upd H1 a (exo a C none)) dx (exd dx [(f, y)])) a (exo a C (some dx))) a) dx (.xd [(f, y)]) = upd H1 dx (.xd [(f, y)]) := by
  funext b
  by_cases b1 : b = dx
  · rw [b1, upd_same, upd_same]
  · rw [upd_ne b1, upd_ne b1]
    by_cases b2 : b = a
    · rw [b2, del_same, ha]
    · rw [del_ne b2, upd_ne b2, upd_ne b1, upd_ne b2]
theorem ds_raise1 (hc : X.calm = true) (tk : Takes X (WK E)) (d : DefE X.prog X.w X.K X.mg X.base cad c f j) (hr : Room k X.A) (hj : j + 1 ≤ k) (hg : Gl X c) (he : PE X e (tE X.K cad (WK E) me)) (hdb : (c == ("__debug__" : Str)) = false := by decide) (hs : starEach [e] X.env = (false, eval e X.env) :: starEach [] X.env := by rfl) :
    PS X (.Raise (some (.Call (.Name c p) [e] [] pos)) none pos') (tS X.K cad (WK E) E0 (mRaise1 c f me)) := by
  obtain ⟨fI, fd, ps, G, hb, oex, iC, tI, hm⟩ := d
  refine ps_imp (ps_raise hc tk (pmk_oex oex iC tI G (hr.mono hj) hb .nil passN hg hm (pa_cons (de_toD he) pa_nil hs) hdb hs)) fun D σ H ⟨F, ι, μ, ρ, r, h⟩ => ?_
  refine ⟨F, ι, μ, ρ, r.r, PostS.bind h r.x fun dd μ1 F1 ι1 H1 v _ x1 s1 q1 h1 => ?_⟩
  have r1 := r.ext x1 s1
  have q1 : VR X.K cad ι1 F1 dd v := q1
  refine ⟨by simp, fun a ha => ⟨a, v, rfl, upd_same, fun dx hdx hne => ⟨rfl, dx, [(f, v)], upd_same, by rw [upd_ne hne, upd_same], ?_, ?_⟩⟩⟩
  · rw [upd_ne hne] at hdx
    exact hdx
  · rw [upd_ne hne] at hdx
    rw [upd_exc ha hne]
    have s2 : RS X.K cad (upd F1 dx (.xd [(f, v)])) ι1 μ1 (upd H1 dx (.xd [(f, v)])) := s1.newF hdx
    refine h1 _ ι1 _ σ (some dx) (r1.x.trans (Ext.newF s1 hdx)) s2 (.inr ⟨by simp, dx, [v], rfl, upd_same, rfl, ?_⟩)
    exact VRs.cons (VR.mono (same_new (s1.fresh hdx).1) List.prefix_rfl _ _ q1) VRs.nil
end
/-- the class whose __init__ is called: it reads as ValueError's -/
structure ExB (K : PySem.W.Frag) (B : Addr) : Prop where
  rd : PySem.W.readsIn K B (.type "type") = true
  ga : PySem.W.specialIn K (.ref B) "__getattribute__" = some (some (.builtin "type.__getattribute__"))
  at_ : PySem.W.findCls K (.ref B) (.type "type") "__init__" = some (.val (.builtin "ValueError.__init__"))
section
variable {X : Cx} {e : Expr} {es : List Expr} {ta : TA} {b : Str} {B : Addr} {p1 p2 pos : Pos}
theorem pe_binit {pl : Sem Bool} (xb : ExB X.K B) (gl : Gl X b) (hm : X.mg b = some (.ref B)) (ha : PA X (e :: es) ta) (hdb : (b == ("__debug__" : Str)) = false)
    (hc : eval (.Call (.Attribute (.Name b p1) "__init__" p2) (e :: es) [] pos) X.env = (do
      let ov ← eval (.Name b p1) X.env
      standAt p2.atName
      let (g, first) ← holding [ov] (getMethod ov "__init__" pl)
      callWith pos g first (backTo pos (starEach (e :: es) X.env)) (backToKw pos (keywordEach [] X.env))))
    (he : starEach (e :: es) X.env = (false, eval e X.env) :: starEach es X.env) (hpl : (backTo pos (starEach es X.env)).any (·.1) = false) :
    PE X (.Call (.Attribute (.Name b p1) "__init__" p2) (e :: es) [] pos) (tVeI X.K ta) := by
  refine ⟨fun pins s σ H Q I h => PySem.W.methodCall_KW (ld_glob I gl hm ?_ hdb) hc⟩
  refine PySem.W.method_cls I.kIn xb.ga (PySem.W.cls_value I.kIn xb.rd xb.at_ (by decide +kernel) ?_)
  refine PyProof.Rows.callWith_method1 (thn (ha.run pos pins _ σ H _ (I.tok _) h) fun us s1 ⟨vs, H1, I1, r1, a, C, ws, ev, hl, T, ea, q⟩ => ?_) he hpl
  subst ev
  cases r1 with
  | @cons _ u0 _ ur ra rw' =>
    obtain rfl : u0 = Value.ref a := ra
    exact oinit_ok T I1 ea (by rw [← Paired.length rw', sizeLine_eq]; omega) fun s' J => ⟨.non, H1, J, rfl, q⟩
end
theorem mkE {P : Program} {w : World} {K : PySem.W.Frag} {mg : Str → Option Value} {base : Heap} {cad : Str → Addr} {c f g b qual m : Str} {st : Stmt} {fI : Addr} {fd : FuncData} {j k : Nat} {p1 p2 p3 p4 p5 p6 p7 p8 p9 p10 : Pos} (F : Fun K "__init__" qual st fI fd) (S : FnScope ["self", g] ["self", g] (defScope st))
    (hst : defBody st = [.Expr (.Call (.Attribute (.Name b p1) "__init__" p2) [.Name "self" p3, .Constant (.str m) j p4] [] p5) p6, .Assign [.Attribute (.Name "self" p7) f p8] (.Name g p9) p10]) (hb : Binds K fd ["self", g] []) (oex : OexC K (cad c)) (iC : PySem.W.findIn K (.ref (cad c)) "__init__" = some (some (.ref fI)))
    (tI : PySem.W.typeIn K (.ref fI) = some (.type "function")) (hm : mg c = some (.ref (cad c))) (nf : PySem.W.findIn K (.ref (cad c)) f = some none) (xb : ExB K (cad b)) (hgb : (defScope st).names.lookup b = some .globalImplicit) (hmb : mg b = some (.ref (cad b)))
    (v0 : Vis (defScope st) "self") (v1 : Vis (defScope st) g) (hdb : (b == ("__debug__" : Str)) = false) (hdg : (g == ("__debug__" : Str)) = false) (hdc : (g == ("__classdict__" : Str)) = false)
    (hev : ∀ env : Env, env.scope = defScope st → ∃ pl : Sem Bool, eval (.Call (.Attribute (.Name b p1) "__init__" p2) [.Name "self" p3, .Constant (.str m) j p4] [] p5) env = (do
      let ov ← eval (.Name b p1) env
      standAt p2.atName
      let (g, first) ← holding [ov] (getMethod ov "__init__" pl)
      callWith p5 g first (backTo p5 (starEach [.Name "self" p3, .Constant (.str m) j p4] env)) (backToKw p5 (keywordEach [] env)))) : DefE P w K mg base cad c f (k + 1) := by
  refine ⟨fI, fd, ["self", g], F.okX S (fun vs H Q E h => ?_) (fun cdv A outer s H vs Q E hr h => ?_), hb, oex, iC, tI, hm⟩
  · obtain ⟨a, y, rfl, _⟩ := h
    rfl
  · obtain ⟨a, y, rfl, ha, kk⟩ := h
    rw [hst]
    obtain ⟨pl, hc⟩ := hev (envOfC qual (defScope st) s.heap.objs.size fI cdv) rfl
    refine ⟨_, pss_cons (ps_expr (pe_binit (pl := pl) (e := .Name "self" p3) (es := [.Constant (.str m) j p4]) (p1 := p1) (p2 := p2) (pos := p5) xb hgb hmb (pa_cons (pe_var (i := 0) rfl v0 (by decide) (by decide)) (pa_cons pe_str pa_nil)) hdb hc rfl rfl) rfl) (pss_one (ps_ost (pe_var (i := 0) rfl v0 (by decide) (by decide)) (pe_var (i := 1) rfl v1 hdg hdc) rfl)), ?_⟩
    refine ⟨.ref a, rfl, a, cad c, [.str m], rfl, by simp, oex, ha, ?_⟩
    refine ⟨y, rfl, .ref a, rfl, a, cad c, rfl, oex, nf, .inl ⟨ha, fun dx n1 n2 => kk dx n1 n2⟩⟩
/-! ### in an except suite -/
def rIsX (K : PySem.W.Frag) (C a : Addr) (d : Option Addr) : List V → Hp → VK → Prop := fun xs H Q => ∃ (c : V) (cv : Value) (b : Bool), xs = [.ref a, c] ∧ (∀ u, RelV c u → u = cv) ∧ PySem.W.kitOne K (.ref C) cv = some b ∧ (∀ dd, d = some dd → ∃ fs, H dd = some (.xd fs)) ∧ Q (.bl b) H
theorem call_isX {X : Cx} {a C : Addr} {d : Option Addr} {oe : Obj} {pn : List (Addr × Obj)} (xc : ExcC X.K C) (hz : Zc (.ref C) d oe) (hf : ∃ vs, oe.data = .fields vs) : CallR (X.suite a ((a, oe) :: pn)) (.builtin "isinstance") (rIsX X.K C a d) := by
  intro pins s σ H xs us Q I r h
  obtain ⟨c, cv, b, rfl, hcv, e, hdd, q⟩ := h
  cases r with
  | cons rx rr =>
    cases rr with
    | cons rt rn =>
      cases rn
      cases rx
      obtain rfl := hcv _ rt
      obtain ⟨hget, _⟩ := I.pin (a, oe) (List.mem_append_left _ List.mem_cons_self)
      obtain ⟨vs, hv⟩ := hf
      have hcl : (PySem.W.clsIn X.K C).isSome = true := by
        obtain ⟨cd, z, _⟩ := PySem.W.any_some xc.hd
        rw [z]
        rfl
      have J : ∃ od, PySem.W.InstAt s.heap a oe C od := by
        cases d with
        | none => exact ⟨none, hget, hz.1, by unfold PySem.W.notCls; rw [hv] <;> rfl, by rw [hz.2]; trivial⟩
        | some dd =>
          obtain ⟨fs, ed⟩ := hdd dd rfl
          obtain ⟨mA, hns, _⟩ := I.hok dd _ ed
          obtain ⟨od, ho, _⟩ := lookIn_ns hns
          exact ⟨some od, hget, hz.1, by unfold PySem.W.notCls; rw [hv] <;> rfl, by rw [hz.2]; exact ho⟩
      obtain ⟨od, J⟩ := J
      exact PySem.W.kia_one (PySem.W.kitx_exc hcl xc.hg xc.hk xc.hs xc.ha xc.hn xc.ht xc.hm) I.kIn J e (fun z => nomatch z) fun tk => ⟨.bl b, H, I.kept (t' := tk) fun _ _ z => z, rfl, q⟩
def isXR (a : Addr) (d : Option Addr) (b : Bool) (o : Op) (μ : Store) : Res Op := match o with
  | .sh (.exn a' d' _ _) => if a' = a ∧ d' = d then .ok (.sh (.bl b)) μ else .stk
  | _ => .stk
def eXIs (a : Addr) (d : Option Addr) (b : Bool) (me : ME) : ME := fun ρ μ => (me ρ μ).bind (isXR a d b)
def fldXR (a : Addr) (d : Option Addr) (f : Str) (o : Op) (μ : Store) : Res Op := match o with
  | .sh (.exn a' d' ns ds) => if a' = a ∧ d' = d ∧ d.isSome = true then Res.of (((ns.zip ds).lookup f).map Op.sh) μ else .stk
  | _ => .stk
def eXFld (a : Addr) (d : Option Addr) (f : Str) (me : ME) : ME := fun ρ μ => (me ρ μ).bind (fldXR a d f)
section
variable {X : Cx} {cad : Str → Addr} {W : WX} {a C : Addr} {d : Option Addr} {oe : Obj} {pn : List (Addr × Obj)} {x : Str} {b : Bool} {e : Expr} {me : ME} {p p2 pos : Pos}
theorem de_isX {c : V} {cv : Value} (xc : ExcC X.K C) (hz : Zc (.ref C) d oe) (hf : ∃ vs, oe.data = .fields vs) (hg : Gl X "isinstance") (hm : X.mg "isinstance" = none) (hk : PySem.W.kitOne X.K (.ref C) cv = some b) (hcv : ∀ u, RelV c u → u = cv) (hC : PE (X.suite a ((a, oe) :: pn)) (.Name x p2) (tC c)) (he : PE (X.suite a ((a, oe) :: pn)) e (tE X.K cad W me))
    (hs : starEach [e, .Name x p2] X.env = (false, eval e X.env) :: starEach [.Name x p2] X.env := by rfl) (hs2 : starEach [.Name x p2] X.env = (false, eval (.Name x p2) X.env) :: starEach [] X.env := by rfl) (hpl : (backTo pos (starEach [.Name x p2] X.env)).any (·.1) = false := by rfl) :
    PE (X.suite a ((a, oe) :: pn)) (.Call (.Name "isinstance" p) [e, .Name x p2] [] pos) (tE X.K cad W (eXIs a d b me)) := by
  refine pe_imp (pe_callB (call_isX xc hz hf) hg hm (by decide +kernel) (pa_cons he (pa_cons hC pa_nil hs2) hs) (by decide) (by decide) hs hpl) fun σ H Q ⟨F, ι, μ, ρ, rr, q⟩ => ?_
  refine ⟨F, ι, μ, ρ, rr, q.bind fun o μ1 F1 ι1 H1 v x1 s1 q1 h1 => ?_⟩
  unfold isXR at h1
  split at h1
  · next a' d' ns ds =>
    split at h1
    · next h =>
      obtain ⟨rfl, rfl⟩ := h
      have q1 : VR X.K cad ι1 F1 (.exn a' d' ns ds) v := q1
      unfold VR at q1
      obtain ⟨rfl, q2⟩ := q1
      refine ⟨c, cv, b, rfl, hcv, hk, fun dd ed => ?_, h1 F1 ι1 H1 (.bl b) (Ext.refl _ _ _) s1 (show VR X.K cad ι1 F1 (.bl b) _ from VR.bl_.mpr rfl)⟩
      obtain ⟨vs, e1, _⟩ := q2 dd ed
      exact ⟨_, s1.sub _ _ e1⟩
    · exact h1.elim
  · exact h1.elim
theorem look_VR {K : PySem.W.Frag} {ι : List Addr} {F : Hp} {f : Str} {y : D} : ∀ {ns : List Str} {ds : List D} {vs : List V}, VRs K cad ι F ds vs → (ns.zip ds).lookup f = some y → ∃ v, (ns.zip vs).lookup f = some v ∧ VR K cad ι F y v
  | [], _, _, _, h => by cases h
  | _ :: _, [], _, _, h => by cases h
  | n :: ns, d :: ds, _, r, h => by
    obtain ⟨v, vs, rfl, r1, r2⟩ := r
    rw [List.zip_cons_cons, List.lookup_cons] at h ⊢
    cases c : (f == n) with
    | true =>
      rw [c] at h
      cases h
      exact ⟨v, rfl, r1⟩
    | false =>
      rw [c] at h
      exact look_VR r2 h
theorem de_xf {f : Str} (T : XfC X.K C) (hno : PySem.W.findIn X.K (.ref C) f = some none) (hz : Zc (.ref C) d oe) (hf : ∃ vs, oe.data = .fields vs) (he : PE (X.suite a ((a, oe) :: pn)) e (tE X.K cad W me)) (hb : attributeBase e f X.env (eval e X.env) = eval e X.env := by rfl) :
    PE (X.suite a ((a, oe) :: pn)) (.Attribute e f pos) (tE X.K cad W (eXFld a d f me)) := by
  refine pe_imp (pe_xf T hno hz hf he hb) fun σ H Q ⟨F, ι, μ, ρ, rr, q⟩ => ?_
  refine ⟨F, ι, μ, ρ, rr, q.bind fun o μ1 F1 ι1 H1 v x1 s1 q1 h1 => ?_⟩
  unfold fldXR at h1
  split at h1
  · next a' d' ns ds =>
    split at h1
    · next h =>
      obtain ⟨rfl, rfl, h3⟩ := h
      obtain ⟨o2, e1, k1⟩ := Post.of h1
      have q1 : VR X.K cad ι1 F1 (.exn a' d' ns ds) v := q1
      unfold VR at q1
      obtain ⟨rfl, q2⟩ := q1
      obtain ⟨dd, rfl⟩ := Option.isSome_iff_exists.mp h3
      obtain ⟨vs, e2, e3, e4⟩ := q2 dd rfl
      cases c : (ns.zip ds).lookup f with
      | none => rw [c] at e1; cases e1
      | some y =>
        rw [c] at e1
        cases e1
        obtain ⟨w, e5, q5⟩ := look_VR e4 c
        exact ⟨rfl, rfl, dd, _, w, rfl, s1.sub _ _ e2, e5, k1 F1 ι1 H1 w (Ext.refl _ _ _) s1 q5⟩
    · exact h1.elim
  · exact h1.elim
end
/-! ### try: return e / except c: return text / .. -/
def tellX (hl : List (Str × Str)) (x : Xc) : Option D := (hl.lookup x.cls).map .str
def mTryR (hl : List (Str × Str)) (me : ME) : MS := fun ρ μ => match me ρ μ with
  | .ok o μ1 => (match opRv ρ o with
    | some rv => .ok (.rt rv, ρ) μ1
    | none => .stk)
  | .exc x μ1 => (match tellX hl x with
    | some d => .ok (.rt (.sh d), ρ) μ1
    | none => .stk)
  | .stk => .stk
section
variable {X : Cx} {cad : Str → Addr} {W0 : WX} {E0 : Ent} {e : Expr} {me : ME} {p pos : Pos} {h0 : ExceptHandler} {hds : List ExceptHandler} {hl : List (Str × Str)}
abbrev tellL (cad : Str → Addr) (hl : List (Str × Str)) : List (Value × (Addr → Value → Option Addr → TS)) := hl.map fun q => (.ref (cad q.1), fun _ _ _ => tRet (tC (.str q.2)))
theorem many_of {K : PySem.W.Frag} {Wout : WX} {D : Ends} {c : Str} {s : Str} {d : Option Addr} {σ : L2.St} {H : Hp} (k : D.rt (.str s) H) : ∀ {hl : List (Str × Str)}, (∀ h ∈ hl.map (·.1), PySem.W.exmOne K (.ref (cad c)) (.ref (cad h)) = some (decide (c = h))) → hl.lookup c = some s → wMany K Wout D (tellL cad hl) (.ref (cad c)) d σ H
  | [], _, h => by cases h
  | q :: hl, hex, h => by
    refine ⟨decide (c = q.1), hex q.1 (List.mem_cons_self), fun hb a _ => ?_, fun hb => ?_⟩
    · have : c = q.1 := of_decide_eq_true hb
      rw [List.lookup_cons, this, beq_self_eq_true] at h
      cases h
      exact k
    · have hn : ¬ c = q.1 := of_decide_eq_false hb
      rw [List.lookup_cons, beq_false_of_ne hn] at h
      exact many_of k (fun x hx => hex x (List.mem_cons_of_mem _ hx)) h
theorem ds_tryR (hs : X.stack = X.env :: X.outer) (hf : X.env.frame = some X.env.locals) (he : ∀ (E : XK) (pn : List (Addr × Obj)) (xe : Value → Shared → Prop), Takes (X.tr pn xe) (WK E) → PE (X.tr pn xe) e (tE X.K cad (WK E) me)) (hh : HdsOk X (h0 :: hds) (tellL cad hl))
    (hex : ∀ c ∈ hl.map (·.1), ∀ h ∈ hl.map (·.1), PySem.W.exmOne X.K (.ref (cad c)) (.ref (cad h)) = some (decide (c = h))) :
    PS X (.Try [.Return (some e) p] (h0 :: hds) [] [] pos) (tS X.K cad W0 E0 (mTryR hl me)) := by
  refine ps_imp (ps_try_many (Wout := fun _ _ _ _ => False) hs hf takes_none5 (tb := fun W D σ H => ∃ E : XK, (∀ c d σ H, E c d H → W c d σ H) ∧ tE X.K cad (WK E) me σ H D.rt) (fun W pn xe tk _ => ⟨fun pins s σ H D I ⟨E, hE, h⟩ => (pss_one (ps_ret (he E pn xe (tk.imp hE)))).run pins s σ H D I h⟩) hh) fun D σ H ⟨F, ι, μ, ρ, r, h⟩ => ?_
  refine ⟨fun c d H => ∀ σ, wMany X.K (fun _ _ _ _ => False) D (tellL cad hl) c d σ H, fun c d σ H z => z σ, F, ι, μ, ρ, r.r, ?_⟩
  unfold mTryR at h
  cases cm : me ρ μ with
  | stk => rw [cm] at h; exact h
  | ok o μ1 =>
    rw [cm] at h
    have hr : tS X.K cad W0 E0 (mRet me) D σ H := ⟨F, ι, μ, ρ, r, by unfold mRet; rw [cm]; exact h⟩
    intro F1 ι1 H1 v x1 s1 q1
    dsimp only at h
    cases co : opRv ρ o with
    | none => rw [co] at h; exact h.elim
    | some rv =>
      rw [co] at h
      cases o with
      | sh d => cases co; exact h F1 ι1 H1 v (r.x.trans x1) s1 q1
      | own ob => cases co; exact h F1 ι1 H1 v (r.x.trans x1) s1 ((rlE X.K cad [] []).mono (H := E0.H) (H1 := H) (F := F1) (ι := ι1) (H' := H1) (a := .own ob) (b := v) r.x.dom (show OpV X.K cad [] [] H F1 ι1 H1 (.own ob) v from q1))
      | slot i =>
        obtain ⟨e1, ob, e2⟩ := (show OpV X.K cad ρ σ H F1 ι1 H1 (.slot i) v from q1)
        have co : (match ρ[i]? with | some (.own o) => some (Rv.own o) | _ => none) = some rv := co
        rw [e2] at co
        cases co
        have r1 := r.ext x1 s1
        obtain ⟨a, ho, e3, e4, e5, e6, z⟩ := r1.r.own i ob e2
        rw [e1] at e3
        cases e3
        exact h F1 ι1 H1 _ (r.x.trans x1) s1 (show OpV X.K cad [] [] E0.H F1 ι1 H1 (.own ob) _ from ⟨a, ho, rfl, e4, e5, r.fr i ob a e2 e1, e6, z⟩)
  | exc x μ1 =>
    rw [cm] at h
    dsimp only at h
    intro F1 ι1 H1 d x1 s1 q1
    unfold tellX at h
    cases cl : hl.lookup x.cls with
    | none => rw [cl] at h; exact h.elim
    | some s =>
      rw [cl] at h
      have hm : x.cls ∈ hl.map (·.1) := List.mem_map.mpr ⟨(x.cls, s), PySem.mem_of_lookup cl, rfl⟩
      exact fun σ' => many_of (h F1 ι1 H1 (.str s) (r.x.trans x1) s1 (show VR X.K cad ι1 F1 (.str s) _ from VR.str_.mpr rfl)) (hex x.cls hm) cl
end
end DL

namespace DL
open PySem PySem.Spec PyProof.Rows L2
variable [Tbs]
/-! ### {k: e, ..}, the keys texts -/
def asOf : List ME → MA
  | [] => aNil
  | m :: ms => aCons m (asOf ms)
def eDisp (ks : List Str) (ms : List ME) : ME := fun ρ μ => (asOf ms ρ μ).bind fun ds μ1 => if ks.length = ds.length then .ok (.own (.dK ((ks.map Sum.inr).zip ds))) μ1 else .stk
section
variable {X : Cx} {cad : Str → Addr} {W : WX} {pos : Pos}
def trsOf (K : PySem.W.Frag) (cad : Str → Addr) (W : WX) : List Str → List ME → List (TE × TE)
  | k :: ks, m :: ms => (tC (.str k), tD K cad W (toD m)) :: trsOf K cad W ks ms
  | _, _ => []
theorem pairs_ok {K : PySem.W.Frag} {σ : L2.St} : ∀ {ks : List Str} {ms : List ME} {H : Hp} {Z : List (V × V) → Hp → Prop}, ks.length = ms.length → tDs K cad W (asOf ms) σ H (fun vs H' => vs.length = ks.length → Z ((ks.map V.str).zip vs) H') → tPairs (trsOf K cad W ks ms) σ H Z
  | [], [], H, Z, _, ⟨F, ι, μ, ρ, r, q⟩ => q F ι H [] (Ext.refl _ _ _) r.rs rfl rfl
  | k :: ks, m :: ms, H, Z, hl, ⟨F, ι, μ, ρ, r, q⟩ => by
    refine ⟨F, ι, μ, ρ, r, q.bind fun d μ1 F1 ι1 H1 v x1 s1 q1 h1 => ?_⟩
    have q1 : VR K cad ι1 F1 d v := q1
    refine pairs_ok (ks := ks) (ms := ms) (by simpa using hl) ⟨F1, ι1, μ1, ρ, r.ext x1 s1, h1.bind fun ds μ2 F2 ι2 H2 vs x2 s2 q2 h2 => ?_⟩
    exact fun e => h2 F2 ι2 H2 (v :: vs) (Ext.refl _ _ _) s2 ⟨v, vs, rfl, VR.mono x2.f x2.i _ _ q1, q2⟩ (by simp [e])
theorem merge_new : ∀ {kvs acc : List (Key × V)}, ((acc ++ kvs).map (·.1)).Nodup → mergeK acc kvs = acc ++ kvs
  | [], acc, _ => by simp [mergeK]
  | p :: kvs, acc, h => by
    have h1 : putK acc p.1 p.2 = acc ++ [p] := by
      unfold putK
      have : (acc.any fun kv => decide (kv.1 = p.1)) = false := by
        rw [List.any_eq_false]
        intro kv hk z
        have e : kv.1 = p.1 := of_decide_eq_true z
        rw [List.map_append, List.nodup_append] at h
        exact h.2.2 kv.1 (List.mem_map.mpr ⟨kv, hk, rfl⟩) p.1 (by simp) e
      rw [this]
      rfl
    show mergeK (putK acc p.1 p.2) kvs = _
    rw [h1, merge_new (by rw [List.append_assoc]; exact h), List.append_assoc]
    rfl
theorem zip_str {vs : List V} : ∀ {ks : List Str} {vs : List V}, (ks.map V.str).zip vs = ((ks.map (Sum.inr (α := Int))).zip vs).map fun kv => (kV kv.1, kv.2)
  | [], _ => rfl
  | k :: ks, [] => rfl
  | k :: ks, v :: vs => by
    simp only [List.map_cons, List.zip_cons_cons, List.cons.injEq]
    exact ⟨rfl, zip_str (vs := vs)⟩
theorem de_disp {ks : List Str} {ms : List ME} {keys : List (Option Expr)} {values : List Expr} (hp : PPs X pos keys values (trsOf X.K cad W ks ms)) (hm : ks.length = ms.length) (hall : keys.all (·.isSome) = true) (hl : keys.length = values.length) (h0 : keys ≠ []) (h15 : keys.length ≤ 15) (hn : ks.Nodup) (hk15 : ks.length ≤ 15) :
    PE X (.Dict keys values pos) (tE X.K cad W (eDisp ks ms)) := by
  refine pe_imp (pe_disp hp hall hl h0 h15) fun σ H Q ⟨F, ι, μ, ρ, r, q⟩ p hp => ?_
  have x0 : Ext F ι H F ι (upd H p (.dK [])) := Ext.newH hp
  have s0 : RS X.K cad F ι μ (upd H p (.dK [])) := r.rs.newH hp
  refine pairs_ok hm ⟨F, ι, μ, ρ, r.ext x0 s0, ?_⟩
  have q : Post X.K cad W (rlE X.K cad ρ σ) F ι H σ ((asOf ms ρ μ).bind fun ds μ1 => if ks.length = ds.length then .ok (.own (.dK ((ks.map Sum.inr).zip ds))) μ1 else .stk) Q := q
  cases ca : asOf ms ρ μ with
  | stk => rw [ca] at q; exact q
  | exc y μ1 => rw [ca] at q; exact fun F1 ι1 H1 d x1 s1 q1 => q F1 ι1 H1 d (x0.trans x1) s1 q1
  | ok ds μ1 =>
    rw [ca] at q
    have q : Post X.K cad W (rlE X.K cad ρ σ) F ι H σ (if ks.length = ds.length then .ok (.own (.dK ((ks.map Sum.inr).zip ds))) μ1 else .stk) Q := q
    intro F1 ι1 H1 vs x1 s1 q1 hv
    have q1 : VRs X.K cad ι1 F1 ds vs := q1
    have hd : ks.length = ds.length := by rw [q1.len, hv]
    rw [if_pos hd] at q
    have np : p ∉ ι := (r.rs.fresh hp).2
    have e1 : H1 p = some (.dK []) := x1.kept p _ np upd_same (by intro _ z; cases z)
    have or0 : OR X.K cad ι F p (.dK []) (.dK []) := ⟨[], rfl, rfl⟩
    have f1 : F1 p = none := x1.apart (r.rs.fresh hp).1 upd_same or0
    have n1 : p ∉ ι1 := fun z => by have := x1.ni p z np; rw [upd_same] at this; cases this
    have lz : ((ks.map (Sum.inr (α := Int))).zip vs).length ≤ 15 := by rw [List.length_zip, List.length_map]; omega
    refine ⟨e1, (ks.map Sum.inr).zip vs, zip_str (vs := vs), lz, ?_⟩
    have hnd : ((ks.map (Sum.inr (α := Int))).zip vs).map (·.1) = ks.map Sum.inr := map_zip1 (by rw [List.length_map, hv])
    have hm2 : mergeK [] ((ks.map Sum.inr).zip vs) = (ks.map Sum.inr).zip vs := by
      rw [merge_new (by rw [List.nil_append, hnd]; exact hn.map (f := Sum.inr) fun a b h z => h (Sum.inr.inj z))]
      rfl
    rw [hm2]
    have orn : OR X.K cad ι1 F1 p (.dK ((ks.map Sum.inr).zip ds)) (.dK ((ks.map Sum.inr).zip vs)) := ⟨vs, by rw [map_zip1 (by rw [List.length_map]; exact hd)], by rw [map_zip2 (by rw [List.length_map]; exact hd)]; exact q1⟩
    have s2 : RS X.K cad F1 ι1 μ1 (upd H1 p (.dK ((ks.map Sum.inr).zip vs))) := s1.grow (Same.refl _) (fun b o z => by rw [upd_ne (fun w => by rw [w, f1] at z; cases z)]; exact s1.sub b o z) (fun b hb o z => by rw [upd_ne (show b ≠ p from fun w => n1 (w ▸ hb))]; exact z) s1.sep (s1.tb.put e1 (by intro _ z; cases z) (by intro _ _ z; cases z)) s1.ft
    have x2 : Ext F ι H F1 ι1 (upd H1 p (.dK ((ks.map Sum.inr).zip vs))) := (x0.trans x1).upd_of (fun _ => hp) (fun o u z => by rw [hp] at z; cases z)
    exact q F1 ι1 _ (.ref p) x2 s2 ⟨p, _, rfl, f1, n1, hp, upd_same, orn⟩
end
/-! ### into the store, if it is a thing of its own -/
def eLocM (m : ME) : ME := fun ρ μ => (m ρ μ).bind fun o μ1 => match o with
  | .own ob => .ok (.sh (.loc μ1.length)) (μ1 ++ [ob])
  | .sh d => .ok (.sh d) μ1
  | _ => .stk
theorem de_locM {X : Cx} {cad : Str → Addr} {W : WX} {e : Expr} {m : ME} (h : PE X e (tE X.K cad W m)) : PE X e (tE X.K cad W (eLocM m)) := by
  have hl := de_loc h
  refine ⟨fun pins s σ H Q I ⟨F, ι, μ, ρ, rr, q⟩ => ?_⟩
  unfold eLocM at q
  cases c : m ρ μ with
  | stk => rw [c] at q; exact q.elim
  | exc x μ1 => rw [c] at q; exact h.run pins s σ H Q I ⟨F, ι, μ, ρ, rr, by rw [c]; exact q⟩
  | ok o μ1 =>
    rw [c] at q
    cases o with
    | slot i => exact q.elim
    | sh d => exact h.run pins s σ H Q I ⟨F, ι, μ, ρ, rr, by rw [c]; exact q⟩
    | own ob => exact hl.run pins s σ H Q I ⟨F, ι, μ, ρ, rr, by unfold eLoc; rw [c]; exact q⟩
theorem bb_ValueError : bootBuiltins "ValueError" = some (.type "ValueError") := by decide +kernel
/-! ### what _law_told makes of an exception -/
def toldW : List (Str × Str × Option Str) := [("BadStretches", "stretches", some "at"), ("NoHouse", "house", none), ("BadCount", "count", none), ("BadDeed", "deed", some "at"), ("NoDeed", "none", none), ("BadText", "text", some "place"), ("NotYet", "not yet", none), ("TooOld", "old", none), ("BadEvent", "event", some "at")]
def toldF (w : Str) (x : Xc) : Option Str → Option D
  | none => if x.ns = [] then some (.tup [.str w]) else none
  | some f => (match x.ns, x.vs with
    | [g], [v] => if g = f then some (.tup [.str w, v]) else none
    | _, _ => none)
def toldT (cs : List Str) (x : Xc) : Option D := if x.cls ∈ cs then (toldW.lookup x.cls).bind fun q => toldF q.1 x q.2 else none
end DL

/-! ### sorted(set(xs)), xs a list of ints -/
namespace DL
open PySem PySem.Spec PyProof.Rows L2
section
variable {P : Program} {w : World} {A : Around} {E : Value → Shared → Prop} {s : Shared}
/-- the empty set object -/
abbrev setE (w : World) : Obj := { cls := .type "set", dict := none, data := .set #[] 0 (.fresh 0 0 (!w.params.followText "set-order")) }
set_option maxHeartbeats 8000000 in
theorem call_set_listI {l : Addr} {items : Array Value} (ns : List Int) {Q : Value → Shared → Prop} (hh : A.handled = none) (hl : s.heap.IsList l items) (hit : IntsAre items.toList ns) (hb : ns.length + 1 < scanBound)
    (h : ∀ (h' : Heap) (tk c : Nat), SetR w h' s.heap.objs.size (fun j => decide (j ∈ ns)) c → c ≤ ns.length → (∀ b o, s.heap.get? b = some o → h'.get? b = some o) → Q (.ref s.heap.objs.size) { s with heap := h', toks := tk }) :
    wpAny (model P w) A (call (.type "set") [.ref l]) Q E s := by
  have hisz : items.size = ns.length := by
    have q := IntsAre.length hit
    rwa [Array.length_toList] at q
  obtain ⟨c, tl, hmro⟩ := F.called_set.mro
  have hmade := F.called_set.made
  have hsub := F.called_set.sub
  have h1 := F.called_set.notType
  have h2 := F.called_set.canCreate
  have hct := F.typeCall_set_1 (.ref l)
  refine wpAny_call (codeAny_of_tree ?_)
  show wpAny _ _ (callAny (.type "set") _) _ _ _
  refine wpAny_pure ⟨Code.quiet_builtin _ (by decide +kernel), codeAny_builtin F.entry_type_call ?_⟩
  rw [Around.under_plain (weight_type_call_type "set" [.ref l] []) rfl]
  repeat (any_goals (first | assumption | wp_step))
  refine codeAny_mono (code_set_led1 (.ref l) (E := E) (Q₁ := fun obj s₁ => obj = .ref s.heap.objs.size ∧ s₁ = { s with heap := s.heap.push (setE w) }) ⟨rfl, rfl⟩) fun r s₁ hr => ?_
  cases r with
  | error e => exact hr
  | ok fl =>
    cases fl with
    | ret obj =>
      obtain ⟨rfl, rfl⟩ := hr
      have hS : (s.heap.push (setE w)).get? s.heap.objs.size = some (setE w) := Heap.get?_push_size _ rfl
      have hT : Shared.TypeIs { s with heap := s.heap.push (setE w) } (.ref s.heap.objs.size) "set" := ⟨_, hS, rfl⟩
      have hli := F.called_set.init.lookup
      have hbi := F.called_set.init.bind (.ref s.heap.objs.size)
      repeat (any_goals (first | assumption | wp_step))
      refine codeAny_mono (codeAny_call_builtin (R := wants (fun r s₂ => r = .none ∧ ∃ h' tk c, s₂ = { s with heap := h', toks := tk } ∧ SetR w h' s.heap.objs.size (fun j => decide (j ∈ ns)) c ∧ c ≤ ns.length ∧ ∀ b o, s.heap.get? b = some o → h'.get? b = some o) E) F.called_set.init.plain F.entry_set_init (check_set_init_1 hT ?_)) fun r₂ s₂ hr₂ => ?_
      · have hl1 : (s.heap.push (setE w)).IsList l items := hl.push _
        obtain ⟨⟨ocls, odict, odata, oslots⟩, hol, hcl, nl, hdl⟩ := hl
        simp only at hcl hdl
        subst hcl hdl
        have hol' : (s.heap.push (setE w)).get? l = some { cls := .type "list", dict := odict, data := .seq items nl, slots := oslots } := Heap.get?_push_of_some _ hol
        have hsls := F.sub_list_set
        have hslf := F.sub_list_frozenset
        have hne : (Value.type "list" == Value.type "dict") = false := by decide
        unfold Builtin.«set.__init__» noKeywords Builtin.Frozenset.updateFrom
        generalize hPI : pyIter = PI
        wp_walk
        subst hPI
        refine wpAny_pyIter_list hl1 (wpAny_bind (wpAny_runValue ?_))
        have hlS : l < s.heap.objs.size := Heap.lt_size hol
        have hsz : (s.heap.push (setE w)).objs.size = s.heap.objs.size + 1 := Heap.size_push ..
        have hval : ∀ (i : Nat) (v : Value), items[i]? = some v → ∃ k t, ns[i]? = some k ∧ v = .int k t := fun i v hv => by
          have hi : i < ns.length := by rw [← hisz]; exact (Array.getElem?_eq_some_iff.mp hv).1
          obtain ⟨t, e⟩ := IntsAre.int_at hit i v (by rw [Array.getElem?_toList]; exact hv)
          refine ⟨ns[i], t, List.getElem?_eq_getElem hi, ?_⟩
          rw [e, List.getD_eq_getElem?_getD, List.getElem?_eq_getElem hi] <;> rfl
        have hn1 : l ≠ (s.heap.push (setE w)).objs.size := by rw [hsz]; exact Nat.ne_of_lt (Nat.lt_succ_of_lt hlS)
        have hn2 : s.heap.objs.size ∉ [(s.heap.push (setE w)).objs.size, l] := by
          rw [hsz]
          simp only [List.mem_cons, List.not_mem_nil, or_false, not_or]
          exact ⟨Nat.ne_of_lt (Nat.lt_succ_self _), Nat.ne_of_gt hlS⟩
        refine set_update_ints ((Walks.list (A := A.in1.in1.in1) (by simp [hh]) _ l hn1 items).toS) s.heap.objs.size hn2 ns hisz hb hval (items.size - 0) 0 _ (by omega) (Nat.zero_le _) ⟨⟨_, Heap.get?_push_size _ rfl, rfl, rfl⟩, hl1.push _⟩ ⟨0, Nat.le_refl 0, setR_new_at (Heap.get?_push_of_some _ hS)⟩ fun s' c' hm hc' hS' => ?_
        obtain ⟨h', g2, d', tk', os'⟩ := s'
        obtain rfl : g2 = s.gens := hm.gens
        obtain rfl : d' = s.drawn := hm.drawn
        obtain rfl : os' = s.os := hm.os
        show wpAny _ _ _ _ _ _
        refine wpAny_pure ?_
        show wpAny _ _ (ret Value.none) _ _ _
        refine wpAny_pure ⟨rfl, h', tk', c', rfl, hS', hisz ▸ hc', fun b o e => ?_⟩
        have hb0 : b < s.heap.objs.size := Heap.lt_size e
        have hb1 : b ∉ s.heap.objs.size :: [(s.heap.push (setE w)).objs.size] := by
          rw [hsz]
          simp only [List.mem_cons, List.not_mem_nil, or_false, not_or]
          exact ⟨Nat.ne_of_lt hb0, Nat.ne_of_lt (Nat.lt_succ_of_lt hb0)⟩
        exact hm.heap b o hb1 (Heap.get?_push_of_some _ (Heap.get?_push_of_some _ e))
      · cases r₂ with
        | error e => exact hr₂
        | ok fl₂ =>
          cases fl₂ with
          | ret r =>
            obtain ⟨rfl, h', tk, c', rfl, hS', hc', hk'⟩ := hr₂
            repeat (any_goals (first | assumption | wp_step))
            exact h _ _ _ hS' hc' hk'
          | _ => exact hr₂.elim
    | _ => exact hr.elim
end
/-- set(l), l a list of ints -/
def rSetL (K : PySem.W.Frag) (w : World) : List V → Hp → VK → Prop := fun vs H Q => ∃ (l : Addr) (ns : List Int), vs = [V.ref l] ∧ SqL K H l (ns.map V.int) ∧ ns.length < 64 ∧ ∀ p c, H p = none → c ≤ ns.length → Q (.ref p) (upd H p (SetO w p (fun j => decide (j ∈ ns)) c))
theorem cr_setL {X : Cx} (hc : X.calm = true) : CallR X (.type "set") (rSetL X.K X.w) := by
  intro pins s σ H vs us Q I r h
  obtain ⟨l, ns, rfl, hs, h64, q⟩ := h
  rw [Vals.ref1 r]
  obtain ⟨its, rv, pl, hz⟩ := I.list hs
  refine call_set_listI ns (I.ok.hd hc) pl.isList (by simpa using ints_of_vals rv) (by unfold scanBound; omega) fun h' tk c R hc' k => ?_
  exact ⟨.ref _, _, I.laid (t' := tk) k (Nat.le_refl _) (setO_new R), rfl, q _ c (I.hok.fresh (Nat.le_refl _)) hc'⟩
/-- into a rising list, once -/
def insU (x : Int) : List Int → List Int
  | [] => [x]
  | y :: r => if x < y then x :: y :: r else if x = y then y :: r else y :: insU x r
def sortU : List Int → List Int
  | [] => []
  | x :: r => insU x (sortU r)
theorem insU_mem {x k : Int} : ∀ {l : List Int}, k ∈ insU x l ↔ k = x ∨ k ∈ l
  | [] => by simp [insU]
  | y :: r => by
    unfold insU
    split
    · simp
    · split
      · next h => subst h; simp
      · rw [List.mem_cons, insU_mem, List.mem_cons]
        constructor
        · rintro (a | a | a)
          · exact .inr (.inl a)
          · exact .inl a
          · exact .inr (.inr a)
        · rintro (a | a | a)
          · exact .inr (.inl a)
          · exact .inl a
          · exact .inr (.inr a)
theorem insU_lt {x : Int} : ∀ {l : List Int}, l.Pairwise (· < ·) → (insU x l).Pairwise (· < ·)
  | [], _ => by simp [insU]
  | y :: r, h => by
    obtain ⟨h1, h2⟩ := List.pairwise_cons.mp h
    unfold insU
    split
    · next c => exact List.pairwise_cons.mpr ⟨fun z hz => (List.mem_cons.mp hz).elim (fun e => by omega) fun e => by have := h1 z e; omega, h⟩
    · split
      · exact h
      · next c1 c2 => exact List.pairwise_cons.mpr ⟨fun z hz => (insU_mem.mp hz).elim (fun e => by omega) fun e => h1 z e, insU_lt h2⟩
theorem sortU_mem {k : Int} : ∀ {l : List Int}, k ∈ sortU l ↔ k ∈ l
  | [] => by simp [sortU]
  | x :: r => by rw [sortU, insU_mem, sortU_mem, List.mem_cons]
theorem sortU_lt : ∀ l : List Int, (sortU l).Pairwise (· < ·)
  | [] => List.Pairwise.nil
  | x :: r => insU_lt (sortU_lt r)
theorem lt_uniq : ∀ {a b : List Int}, a.Pairwise (· < ·) → b.Pairwise (· < ·) → (∀ k, k ∈ a ↔ k ∈ b) → a = b
  | [], [], _, _, _ => rfl
  | [], y :: b, _, _, h => absurd ((h y).mpr List.mem_cons_self) (by simp)
  | x :: a, [], _, _, h => absurd ((h x).mp List.mem_cons_self) (by simp)
  | x :: a, y :: b, ha, hb, h => by
    obtain ⟨a1, a2⟩ := List.pairwise_cons.mp ha
    obtain ⟨b1, b2⟩ := List.pairwise_cons.mp hb
    have e : x = y := by
      rcases List.mem_cons.mp ((h x).mp List.mem_cons_self) with z | z
      · exact z
      · rcases List.mem_cons.mp ((h y).mpr List.mem_cons_self) with z' | z'
        · exact z'.symm
        · have := b1 x z
          have := a1 y z'
          omega
    subst e
    rw [lt_uniq a2 b2 fun k => ?_]
    constructor
    · intro hk
      have := a1 k hk
      rcases List.mem_cons.mp ((h k).mp (List.mem_cons_of_mem _ hk)) with z | z
      · omega
      · exact z
    · intro hk
      have := b1 k hk
      rcases List.mem_cons.mp ((h k).mpr (List.mem_cons_of_mem _ hk)) with z | z
      · omega
      · exact z
def fSrtSet : List Vw → Option Rv
  | [.ob (.lst ds)] => (D.ints ds).bind fun ns => if ns.length < 64 then some (.own (.lst ((sortU ns).map .int))) else none
  | _ => none
def rSrtSet (K : PySem.W.Frag) (w : World) : List V → Hp → VK → Prop := fun vs H Q => rSetL K w vs H fun v H1 => rSortedSet w [v] H1 Q
variable [Tbs]
theorem sd_srtSet {K : PySem.W.Frag} {cad : Str → Addr} {w : World} : SdB K cad (rSrtSet K w) fSrtSet := by
  intro F ι μ H ws vs rv Q rs hw e q
  unfold fSrtSet at e
  split at e
  · next ds =>
    cases c : D.ints ds with
    | none => simp [c] at e
    | some ns =>
      simp only [c, Option.bind_some] at e
      split at e
      · next h64 =>
        cases e
        obtain ⟨v, rfl, a, rfl, us, e1, r⟩ := pr1 hw
        rw [ints_vals r c] at e1
        refine ⟨a, ns, rfl, SqL.of e1, h64, fun p cc hp hcc => ⟨p, _, cc, rfl, upd_same, by omega, fun ms p' h1 h2 h3 hp' => ?_⟩⟩
        have em : ms = sortU ns := lt_uniq h1 (sortU_lt ns) fun k => by rw [h2, sortU_mem, decide_eq_true_eq]
        subst em
        have rs1 := rs.newH (o := SetO w p (fun j => decide (j ∈ ns)) cc) hp
        have hne : p' ≠ p := fun z => by rw [z, upd_same] at hp'; cases hp'
        have hp2 : H p' = none := by rw [upd_ne hne] at hp'; exact hp'
        exact q F ι _ _ ((Ext.newH hp).trans (Ext.newH hp')) (rs1.newH hp') ⟨p', _, rfl, (rs.fresh hp2).1, (rs.fresh hp2).2, hp2, upd_same, _, rfl, ints_D⟩
      · cases e
  · cases e
theorem de_srtSet {X : Cx} {cad : Str → Addr} {W : WX} {m : ME} {a : Expr} {p p2 q pos : Pos} (hc : X.calm = true) (hg : Gl X "sorted") (hm : X.mg "sorted" = none) (hg2 : Gl X "set") (hm2 : X.mg "set" = none) (ha : PE X a (tE X.K cad W m))
    (h1 : starEach [a] X.env = (false, eval a X.env) :: starEach [] X.env := by rfl) (h2 : starEach [.Call (.Name "set" p2) [a] [] q] X.env = (false, eval (.Call (.Name "set" p2) [a] [] q) X.env) :: starEach [] X.env := by rfl) :
    PE X (.Call (.Name "sorted" p) [.Call (.Name "set" p2) [a] [] q] [] pos) (tE X.K cad W (eCB fSrtSet (oCons m oNil))) := by
  have i1 : PE X (.Call (.Name "set" p2) [a] [] q) (tCB (rSetL X.K X.w) (tOs X.K cad W (oCons m oNil))) := pe_callTy (cr_setL hc) hg2 hm2 boot_set (do_cons ha do_nil h1) (by decide) (by decide) h1 rfl
  refine pe_imp (pe_callB (cr_sortedSet hc) hg hm boot_sorted (pa_cons i1 pa_nil h2) (by decide) (by decide) h2 rfl) fun σ H Q h => ?_
  exact eCB_ok (r := rSrtSet X.K X.w) sd_srtSet h
end DL

/-! ### sorted(xs), xs a list of tuples whose first three items are ints, told apart by them -/
namespace SrtP
open PySem PyProof.Rows Srt SrtO
section
variable {prog : Program} {w : World} {A : Around} {E : Value → Shared → Prop} {s : Shared}
def TP (h : Heap) (v : Value) (ns : List Int) : Prop := ∃ (a : Addr) (xs : Array Value) (us : List Value) (r : Value), v = .ref a ∧ IsTup h a xs ∧ xs.toList = us ++ [r] ∧ IntsAre us ns ∧ ns.length = 3
theorem TP.keeps {h h' : Heap} {v : Value} {ns : List Int} (x : TP h v ns) (k : ∀ b o, h.get? b = some o → o.cls = .type "tuple" → h'.get? b = some o) : TP h' v ns := by
  obtain ⟨a, xs, us, r, e, ⟨o, ho, hc, hd⟩, i⟩ := x
  exact ⟨a, xs, us, r, e, ⟨o, k _ _ ho hc, hc, hd⟩, i⟩
theorem kat_same {b z : Bool} {Q : Bool → Shared → Prop} : ∀ (xs : List Value) (i : Nat), Q z s → PySem.W.KatLex prog w A b z Q (xs.zip xs) i s
  | [], i, h => PySem.W.kat_nil h
  | x :: xs, i, h => by
    show PySem.W.KatLex prog w A b z Q ((x, x) :: xs.zip xs) i s
    refine PySem.W.kat_cons ?_
    unfold eqBool
    refine wpAny_holding ?_
    rw [if_pos (beq_self_eq_true x)]
    exact wpAny_bind (wpAny_rule (wpAny_pure (PySem.W.kat_yes (kat_same xs (i + 1) h))))
theorem kat_pre {b z : Bool} {Q : Bool → Shared → Prop} {xs ys : List Value} {ns ms : List Int} {r r' : List Value} (i : Nat) (hx : IntsAre xs ns) (hy : IntsAre ys ms) (hl : ns.length = ms.length) (hn : ns ≠ ms) (h : Q (HT.lexLt ns ms) s) : PySem.W.KatLex prog w A b z Q ((xs ++ r).zip (ys ++ r')) i s := by
  induction hx generalizing ys ms i with
  | nil =>
    cases ms with
    | nil => exact absurd rfl hn
    | cons m ms => simp at hl
  | @cons p t xs ns hx ih =>
    cases hy with
    | nil => simp at hl
    | @cons q u ys ms hy =>
      show PySem.W.KatLex prog w A b z Q ((Value.int p t, Value.int q u) :: (xs ++ r).zip (ys ++ r')) i s
      refine PySem.W.kat_cons (wpAny_eqBool_int ?_)
      by_cases e : p = q
      · subst e
        rw [beq_self_eq_true]
        refine PySem.W.kat_yes (ih (i + 1) hy (by simpa using hl) (fun z => hn (by rw [z])) ?_)
        have : HT.lexLt (p :: ns) (p :: ms) = HT.lexLt ns ms := by simp [HT.lexLt]
        rwa [this] at h
      · rw [show (p == q) = false from beq_eq_false_iff_ne.mpr e]
        have : HT.lexLt (p :: ns) (q :: ms) = decide (p < q) := by simp [HT.lexLt, e]
        rw [this] at h
        exact PySem.W.kat_no (TS.oneLt_ints _ h)
theorem tup_cmp {vs : List Value} {k : Value → List Int} (hp : ∀ v ∈ vs, TP s.heap v (k v)) (hi : ∀ v ∈ vs, ∀ u ∈ vs, k v = k u → v = u) : SrtO.Cmp prog w A s (tuples' true) (fun p => p.1 ∈ vs) (lt2 fun v u => HT.lexLt (k v) (k u)) := by
  intro p q hm hm'
  show wpAny (model prog w) A (keyLt' (tuples' true) p.1 q.1) (fun r s' => s' = s ∧ r = HT.lexLt (k p.1) (k q.1)) (fun _ _ => False) s
  by_cases c : k p.1 = k q.1
  · have e := hi _ hm _ hm' c
    obtain ⟨a, xs, us, r, e1, ⟨o, ho, hc, n, hd⟩, e0, i1, l1⟩ := hp _ hm
    rw [← c, ← e, e1]
    refine PySem.W.kat_lt ho hd ho hd (kat_same _ 0 ⟨rfl, ?_⟩)
    rw [DL.lexLt_irr]
    simp
  · obtain ⟨a, xs, us, r, e1, ⟨o, ho, hc, n, hd⟩, e0, i1, l1⟩ := hp _ hm
    obtain ⟨a', ys, us', r', e2, ⟨o', ho', hc', n', hd'⟩, e0', i2, l2⟩ := hp _ hm'
    generalize k p.1 = ns at *
    generalize k q.1 = ms at *
    rw [e1, e2]
    refine PySem.W.kat_lt ho hd ho' hd' ?_
    rw [e0, e0']
    exact kat_pre 0 i1 i2 (by omega) c ⟨rfl, rfl⟩
theorem firsts {h : Heap} : ∀ {vs : List Value} {k : Value → List Int}, (∀ v ∈ vs, TP h v (k v)) → ∃ fs, PySem.W.KatTups h vs fs ∧ fs.length = vs.length ∧ ∀ f, f ∈ fs → ∃ n t, f = Value.int n t
  | [], _, _ => ⟨[], PySem.W.KatTups.nil, rfl, fun f hf => by simp at hf⟩
  | v :: vs, k, x => by
    obtain ⟨fs, kt, hl, hi⟩ := firsts (vs := vs) (k := k) fun u hu => x u (List.mem_cons_of_mem _ hu)
    obtain ⟨a, xs, us, r, e0, ⟨o, ho, hc, n, hdt⟩, e, i, l3⟩ := x v (List.mem_cons_self ..)
    generalize k v = ks at *
    cases i with
    | nil => simp at l3
    | @cons m t us ns i =>
      subst e0
      refine ⟨.int m t :: fs, PySem.W.KatTups.cons ho hc hdt ?_ kt, by simp [hl], ?_⟩
      · have z := congrArg (fun l : List Value => l[0]?) e
        simpa using z
      · intro f hf
        rcases List.mem_cons.mp hf with rfl | hf
        · exact ⟨m, t, rfl⟩
        · exact hi f hf
theorem tups_sortable {a : Addr} {vs : List Value} {k : Value → List Int} (h0 : 0 < vs.length) (hp : ∀ v ∈ vs, TP s.heap v (k v)) (hi : ∀ v ∈ vs, ∀ u ∈ vs, k v = k u → v = u) (ha : ∀ o, s.heap.get? a = some o → o.cls ≠ .type "tuple") : SortableO prog w A s a vs fun v u => HT.lexLt (k v) (k u) := by
  intro h' keep
  have hp' : ∀ v ∈ vs, TP h' v (k v) := fun v hm => (hp v hm).keeps fun b o e c => keep b o (fun z => by subst z; exact ha o e c) e
  obtain ⟨fs, h1, h2, h3⟩ := firsts hp'
  refine ⟨tuples' true, fun Q E hq => ?_, tup_cmp hp' hi⟩
  refine PySem.W.kat_kind (T := .type "int") h1 (by omega) (fun f hm => ?_) (by rfl) ?_
  · obtain ⟨x, t, rfl⟩ := h3 f hm
    exact PySem.W.Looks.now
  · have e : (Value.type "int" != Value.type "tuple") = true := by first | decide +kernel | rfl | decide
    rw [e]
    exact hq
theorem sorted_tups {l : Addr} {vs : List Value} {k : Value → List Int} {Q : Value → Shared → Prop} (hl : s.heap.IsList l vs.toArray) (hz : vs.length ≤ sizeLine) (hp : ∀ v ∈ vs, TP s.heap v (k v)) (hi : ∀ v ∈ vs, ∀ u ∈ vs, k v = k u → v = u)
    (h : ∀ (h' : Heap) (d : Addr) (out : List Value), Srtd (fun v u => HT.lexLt (k v) (k u)) out → Stb (fun v u => HT.lexLt (k v) (k u)) out vs → (∀ b o, s.heap.get? b = some o → h'.get? b = some o) → s.heap.objs.size ≤ d → (∃ n, h'.get? d = some (seqObj "list" out.toArray n)) → Q (.ref d) { s with heap := h' }) :
    wpAny (model prog w) A (call (.builtin "sorted") [.ref l]) Q E s := by
  refine sorted_ord (SrtT.swo_lexLt k) hl hz (fun h2 h₁ a ha kk => ?_) fun out hs hb => ?_
  · refine tups_sortable (s := { s with heap := h₁ }) (by omega) (fun v hm => (hp v hm).keeps fun b o e _ => (kk b o e).2) hi fun o e => ?_
    have e' : some o = some (seqObj "list" vs.toArray 0) := e.symm.trans ha
    cases e'
    intro c
    exact absurd (Value.type.inj c) (by decide)
  · exact h _ _ out hs hb (fun b o e => sortedAll_old e) (Nat.le_succ _) (sortedAll_at s.heap vs out.toArray)
end
end SrtP
namespace DL
open PySem PySem.Spec PyProof.Rows L2
variable [Tbs]
/-- a tuple of three ints and one thing more -/
def rSortP (K : PySem.W.Frag) : List V → Hp → VK → Prop := fun vs H Q => ∃ (a : Addr) (xs : List V) (k : V → List Int), vs = [V.ref a] ∧ SqL K H a xs ∧ (∀ x ∈ xs, ∃ t h n m r, x = V.ref t ∧ H t = some (.tup [V.int h, V.int n, V.int m, r]) ∧ k x = [h, n, m]) ∧ (∀ x ∈ xs, ∀ y ∈ xs, k x = k y → x = y) ∧
  ∀ ys p, ys.Perm xs → (ys.map k).Pairwise (fun a b => HT.lexLt b a = false) → H p = none → Q (.ref p) (upd H p (.lst ys))
theorem cr_sortP {X : Cx} : CallR X (.builtin "sorted") (rSortP X.K) := by
  intro pins s σ H vs us Q I r h
  obtain ⟨a, xs, k, rfl, hs, hx, hj, q⟩ := h
  obtain ⟨its, rv, hl, hz⟩ := I.list hs
  obtain ⟨u, rfl, ru⟩ := vals1 r
  obtain rfl : u = Value.ref a := ru
  obtain ⟨e1, e2⟩ := refs_back rv fun x m => by
    obtain ⟨t, _, _, _, _, e, _⟩ := hx x m
    exact ⟨t, e⟩
  have mem : ∀ t, Value.ref t ∈ its → V.ref t ∈ xs := fun t hv => by rw [e1]; exact List.mem_map.mpr ⟨_, hv, rfl⟩
  refine SrtP.sorted_tups (k := fun u => k (backV u)) hl.isList (by rw [← rv.length]; exact hz) (fun v hv => ?_) (fun v hv u hu e => ?_) fun h' d out h1 h2 kp hd hn => ?_
  · obtain ⟨t, rfl⟩ := e2 v hv
    obtain ⟨t', h, n, m, r, e, ht, hk⟩ := hx _ (mem t hv)
    cases e
    obtain ⟨_, its2, r2, pt⟩ := I.hok _ _ ht
    have hk : k (backV (Value.ref t)) = [h, n, m] := hk
    rw [hk]
    cases r2 with
    | cons q1 r2 =>
      cases r2 with
      | cons q2 r2 =>
        cases r2 with
        | cons q3 r2 =>
          cases r2 with
          | cons q4 r2 =>
            cases r2
            obtain ⟨t1, rfl⟩ := q1
            obtain ⟨t2, rfl⟩ := q2
            obtain ⟨t3, rfl⟩ := q3
            exact ⟨t, _, [_, _, _], _, rfl, pt, rfl, .cons _ _ (.cons _ _ (.cons _ _ .nil)), rfl⟩
  · obtain ⟨t, rfl⟩ := e2 v hv
    obtain ⟨t', rfl⟩ := e2 u hu
    have := hj _ (mem t hv) _ (mem t' hu) e
    injection this with this
    rw [this]
  · have h3 : ∀ u ∈ out, ∃ a, u = Value.ref a := fun u hu => e2 u (h2.perm.mem_iff.mp hu)
    obtain ⟨n, hn⟩ := hn
    have hb : (out.map backV).Perm xs := by
      rw [e1]
      exact h2.perm.map backV
    refine ⟨.ref d, upd H d (.lst (out.map backV)), I.laid (t' := s.toks) kp hd ⟨?_, out, n, vals_back h3, hn⟩, rfl, q _ d hb ?_ (I.hok.fresh hd)⟩
    · rw [hb.length_eq]
      exact hz
    · rw [List.pairwise_map, List.pairwise_map]
      exact h1
/-- the three ints -/
def key3 : D → Option (List Int)
  | .tup [.int h, .int n, .int m, _] => some [h, n, m]
  | _ => none
def keys3 : List D → Option (List (List Int))
  | [] => some []
  | d :: r => (key3 d).bind fun k => (keys3 r).map (k :: ·)
def kOf (d : D) : List Int := (key3 d).getD []
def insP (x : D) : List D → List D
  | [] => [x]
  | y :: r => if HT.lexLt (kOf y) (kOf x) then y :: insP x r else x :: y :: r
def sortP : List D → List D
  | [] => []
  | x :: r => insP x (sortP r)
theorem insP_perm (x : D) : ∀ l : List D, (insP x l).Perm (x :: l)
  | [] => List.Perm.refl _
  | y :: r => by
    unfold insP
    split
    · exact ((insP_perm x r).cons y).trans (List.Perm.swap x y r)
    · exact List.Perm.refl _
theorem sortP_perm : ∀ l : List D, (sortP l).Perm l
  | [] => List.Perm.refl _
  | x :: r => (insP_perm x _).trans ((sortP_perm r).cons x)
theorem insP_map (x : D) : ∀ l : List D, (insP x l).map kOf = insL (kOf x) (l.map kOf)
  | [] => rfl
  | y :: r => by
    unfold insP
    rw [List.map_cons, insL]
    split
    · rw [List.map_cons, insP_map x r]
    · rfl
theorem sortP_map : ∀ l : List D, (sortP l).map kOf = sortL (l.map kOf)
  | [] => rfl
  | x :: r => by rw [sortP, insP_map, sortP_map r]; rfl
def fSrtP : List Vw → Option Rv
  | [.ob (.lst ds)] => (keys3 ds).bind fun ks => if ks.Nodup then some (.own (.lst (sortP ds))) else none
  | _ => none
section
variable {K : PySem.W.Frag} {cad : Str → Addr} {F H : Hp} {ι : List Addr} {μ : Store}
theorem perm_VRs2 : ∀ {xs ys : List V}, ys.Perm xs → ∀ {ds : List D}, VRs K cad ι F ds xs → ∃ es : List D, es.Perm ds ∧ VRs K cad ι F es ys := by
  intro xs ys hp
  induction hp with
  | nil => intro ds h; exact ⟨ds, List.Perm.refl _, h⟩
  | @cons x l1 l2 p ih =>
    intro ds h
    cases ds with
    | nil => exact absurd (show x :: l2 = [] from h) (by simp)
    | cons d ds =>
      obtain ⟨v, vs, e, r, t⟩ := h
      cases e
      obtain ⟨es, e1, e2⟩ := ih t
      exact ⟨d :: es, e1.cons d, ⟨_, _, rfl, r, e2⟩⟩
  | @swap x y l =>
    intro ds h
    cases ds with
    | nil => exact absurd (show x :: y :: l = [] from h) (by simp)
    | cons d ds =>
      obtain ⟨v, vs, e, r, t⟩ := h
      cases e
      cases ds with
      | nil => exact absurd (show y :: l = [] from t) (by simp)
      | cons d' ds =>
        obtain ⟨v, vs, e, r', t⟩ := t
        cases e
        exact ⟨d' :: d :: ds, List.Perm.swap _ _ _, ⟨_, _, rfl, r', _, _, rfl, r, t⟩⟩
  | @trans l1 l2 l3 p1 p2 ih1 ih2 =>
    intro ds h
    obtain ⟨es, e1, e2⟩ := ih2 h
    obtain ⟨fs, f1, f2⟩ := ih1 e2
    exact ⟨fs, f1.trans e1, f2⟩
theorem keys3_ok : ∀ {ds : List D} {ks : List (List Int)}, keys3 ds = some ks → ds.map kOf = ks ∧ ∀ d ∈ ds, ∃ h n m r, d = .tup [.int h, .int n, .int m, r]
  | [], _, e => by cases e; exact ⟨rfl, fun d h => by simp at h⟩
  | d :: ds, ks, e => by
    have e : ((key3 d).bind fun k => (keys3 ds).map (k :: ·)) = some ks := e
    cases c : key3 d with
    | none => rw [c] at e; cases e
    | some k =>
      rw [c] at e
      cases c2 : keys3 ds with
      | none => rw [c2] at e; cases e
      | some ks' =>
        rw [c2] at e
        cases e
        obtain ⟨i1, i2⟩ := keys3_ok c2
        refine ⟨by rw [List.map_cons, i1, kOf, c]; rfl, fun x hx => ?_⟩
        rcases List.mem_cons.mp hx with z | z
        · subst z
          unfold key3 at c
          split at c
          · exact ⟨_, _, _, _, rfl⟩
          · cases c
        · exact i2 x z
/-- the ints of a thing, by what is known -/
def kV (F : Hp) : V → List Int
  | .ref t => match F t with
    | some (.tup [.int h, .int n, .int m, _]) => [h, n, m]
    | _ => []
  | _ => []
theorem kV_ok {d : D} {v : V} (h : VR K cad ι F d v) (hd : ∃ h n m r, d = .tup [.int h, .int n, .int m, r]) : ∃ t a b c r, v = .ref t ∧ F t = some (.tup [V.int a, V.int b, V.int c, r]) ∧ kV F v = [a, b, c] ∧ kOf d = [a, b, c] := by
  obtain ⟨a, b, c, r, rfl⟩ := hd
  obtain ⟨t, vs, rfl, e, h⟩ := VR.tup_.mp h
  obtain ⟨v1, _, rfl, h1, v2, _, rfl, h2, v3, _, rfl, h3, v4, _, rfl, h4, h5⟩ := h
  cases h5
  rw [VR.int_] at h1 h2 h3
  subst h1 h2 h3
  refine ⟨t, a, b, c, v4, rfl, e, ?_, rfl⟩
  unfold kV
  simp only [e]
theorem kV_map : ∀ {ds : List D} {vs : List V}, VRs K cad ι F ds vs → (∀ d ∈ ds, ∃ h n m r, d = .tup [.int h, .int n, .int m, r]) → vs.map (kV F) = ds.map kOf ∧ ∀ v ∈ vs, ∃ t a b c r, v = .ref t ∧ F t = some (.tup [V.int a, V.int b, V.int c, r]) ∧ kV F v = [a, b, c]
  | [], _, h, _ => by
    cases h
    exact ⟨rfl, fun v h => by simp at h⟩
  | d :: ds, _, h, hd => by
    obtain ⟨v, vs, rfl, r, t⟩ := h
    obtain ⟨i1, i2⟩ := kV_map t fun d h => hd d (List.mem_cons_of_mem _ h)
    obtain ⟨q, a, b, c, x, e1, e2, e3, e4⟩ := kV_ok r (hd d List.mem_cons_self)
    refine ⟨by rw [List.map_cons, List.map_cons, i1, e3, e4], fun u hu => ?_⟩
    rcases List.mem_cons.mp hu with z | z
    · rw [z]; exact ⟨q, a, b, c, x, e1, e2, e3⟩
    · exact i2 u z
theorem inj_nd {α β : Type} {f : α → β} : ∀ {l : List α}, (l.map f).Nodup → ∀ x ∈ l, ∀ y ∈ l, f x = f y → x = y
  | [], _, x, hx, _, _, _ => by simp at hx
  | a :: l, h, x, hx, y, hy, e => by
    obtain ⟨h1, h2⟩ := List.nodup_cons.mp h
    rcases List.mem_cons.mp hx with c | c <;> rcases List.mem_cons.mp hy with c' | c'
    · rw [c, c']
    · subst c; exact absurd (e ▸ List.mem_map.mpr ⟨y, c', rfl⟩) h1
    · subst c'; exact absurd (e ▸ List.mem_map.mpr ⟨x, c, rfl⟩) h1
    · exact inj_nd h2 x c y c' e
theorem map_inj {α β : Type} {f : α → β} : ∀ {l m : List α}, (∀ x ∈ l, ∀ y ∈ m, f x = f y → x = y) → l.map f = m.map f → l = m
  | [], [], _, _ => rfl
  | [], _ :: _, _, e => by simp at e
  | _ :: _, [], _, e => by simp at e
  | a :: l, b :: m, h, e => by
    rw [List.map_cons, List.map_cons] at e
    obtain ⟨e1, e2⟩ := List.cons.inj e
    rw [h a List.mem_cons_self b List.mem_cons_self e1, map_inj (fun x hx y hy => h x (List.mem_cons_of_mem _ hx) y (List.mem_cons_of_mem _ hy)) e2]
theorem sortP_uniq {ds es : List D} (nd : (ds.map kOf).Nodup) (hp : es.Perm ds) (hs : (es.map kOf).Pairwise (fun a b => HT.lexLt b a = false)) : es = sortP ds := by
  refine map_inj (f := kOf) (fun x hx y hy e => inj_nd nd x (hp.mem_iff.mp hx) y ((sortP_perm ds).mem_iff.mp hy) e) ?_
  rw [sortP_map]
  exact sorted_uniq hs (sortL_sorted _) ((hp.map kOf).trans (sortL_perm _).symm)
theorem sd_srtP : SdB K cad (rSortP K) fSrtP := by
  intro F ι μ H ws vs rv Q rs hw e q
  unfold fSrtP at e
  split at e
  · next ds =>
    cases c : keys3 ds with
    | none => simp [c] at e
    | some ks =>
      simp only [c, Option.bind_some] at e
      split at e
      · next nd =>
        cases e
        obtain ⟨v, rfl, a, rfl, us, e1, r⟩ := pr1 hw
        obtain ⟨k1, k2⟩ := keys3_ok c
        obtain ⟨m1, m2⟩ := kV_map r k2
        rw [← k1] at nd
        refine ⟨a, us, kV F, rfl, SqL.of e1, fun x hx => ?_, inj_nd (by rw [m1]; exact nd), fun ys p h1 h2 hp => ?_⟩
        · obtain ⟨t, b1, b2, b3, b4, f1, f2, f3⟩ := m2 x hx
          exact ⟨t, b1, b2, b3, b4, f1, rs.sub _ _ f2, f3⟩
        · obtain ⟨es, g1, g2⟩ := perm_VRs2 h1 r
          have g3 := (kV_map g2 fun d hd => k2 d (g1.mem_iff.mp hd)).1
          rw [g3] at h2
          rw [sortP_uniq nd g1 h2] at g2
          exact fin_own rs q hp ⟨ys, rfl, g2⟩
      · cases e
  · cases e
end
/-! ### y = [.. for k in d ..], d a dict of the store -/
section
variable {X : Cx} {cad : Str → Addr} {W : WX} {E : Ent} {elt tg iter : Expr} {ifs : List Expr} {scope : Scope} {own : List (Str × Nat)} {pos : Pos} {t : TG} {g : D → Ev → Option Ev} {mt : MT} {me mi it : ME}
theorem ds_setLk (i : Nat) {y : Str} {py spos : Pos} (hc : X.calm = true) (hN : X.N.Nodup) (hyl : X.env.scope.names.lookup y = some .local) (hsw : swapsWith (.ListComp elt [⟨tg, iter, ifs, 0⟩] scope pos) (some (.Name y py)) spos.line X.env = pure true)
    (hi : PE X iter (tE X.K cad WT mi)) (ok : BlkOk X.N X.env.scope scope own)
    (hg : ∀ (s : Shared) (H : Hp) (C : Addr) (cl : List (Str × Addr)) (fp : List Addr), PG (X.blk s H scope (compEnvC scope cl C X.env) fp) tg t) (gk : GOk X.K cad t g (own.map (·.2)))
    (ht : ∀ (s : Shared) (H : Hp) (C : Addr) (cl : List (Str × Addr)) (fp : List Addr), PTs (X.blk s H scope (compEnvC scope cl C X.env) fp) ifs (tT X.K cad WT mt))
    (he : ∀ (s : Shared) (H : Hp) (C : Addr) (cl : List (Str × Addr)) (fp : List Addr), PE (X.blk s H scope (compEnvC scope cl C X.env) fp) elt (tE X.K cad WT me)) (hy : X.N[i]? = some y := by rfl) (hs : ∀ x, foldedSetIterable iter X.env x = pure x := by intro _; rfl) :
    PS X (.Assign [.Name y py] (.ListComp elt [⟨tg, iter, ifs, 0⟩] scope pos) spos) (tS X.K cad W E (mSet i (eLk it (eLcK mi g (own.map (·.2)) mt me)))) := by
  refine ps_imp (ps_lock (ps_setLc (i := i) hc hN hy hyl hsw (pi_keys (de_toD hi)) ok hg ht (te := tD X.K cad WT (toD me)) (fun s H C cl fp => de_toD (he s H C cl fp)) hs)) fun D σ H h => ?_
  obtain ⟨F, ι, μ, ρ, r, q⟩ := mSet_ok h
  obtain ⟨d, u, h1, h2, h3⟩ := eLk_ok (it := it) ⟨F, ι, μ, ρ, r, q.toD⟩
  exact ⟨d, u, h1, h2, fun od => eLcK_ok gk (h3 od)⟩
theorem ds_ownLk (i : Nat) {y : Str} {py spos : Pos} (hc : X.calm = true) (hN : X.N.Nodup) (hyl : X.env.scope.names.lookup y = some .local) (hsw : swapsWith (.ListComp elt [⟨tg, iter, ifs, 0⟩] scope pos) (some (.Name y py)) spos.line X.env = pure true)
    (hi : PE X iter (tE X.K cad WT mi)) (ok : BlkOk X.N X.env.scope scope own)
    (hg : ∀ (s : Shared) (H : Hp) (C : Addr) (cl : List (Str × Addr)) (fp : List Addr), PG (X.blk s H scope (compEnvC scope cl C X.env) fp) tg t) (gk : GOk X.K cad t g (own.map (·.2)))
    (ht : ∀ (s : Shared) (H : Hp) (C : Addr) (cl : List (Str × Addr)) (fp : List Addr), PTs (X.blk s H scope (compEnvC scope cl C X.env) fp) ifs (tT X.K cad WT mt))
    (he : ∀ (s : Shared) (H : Hp) (C : Addr) (cl : List (Str × Addr)) (fp : List Addr), PE (X.blk s H scope (compEnvC scope cl C X.env) fp) elt (tE X.K cad WT me)) (hy : X.N[i]? = some y := by rfl) (hs : ∀ x, foldedSetIterable iter X.env x = pure x := by intro _; rfl) :
    PS X (.Assign [.Name y py] (.ListComp elt [⟨tg, iter, ifs, 0⟩] scope pos) spos) (tS X.K cad W E (mOwn i (eLk it (eLcK mi g (own.map (·.2)) mt me)))) := by
  refine ps_imp (ps_lock (ps_setLc (i := i) hc hN hy hyl hsw (pi_keys (de_toD hi)) ok hg ht (te := tD X.K cad WT (toD me)) (fun s H C cl fp => de_toD (he s H C cl fp)) hs)) fun D σ H h => ?_
  obtain ⟨d, u, h1, h2, h3⟩ := eLk_ok (mOwn_ok h)
  exact ⟨d, u, h1, h2, fun od => eLcK_ok gk (h3 od)⟩
end
end DL

namespace DL
open PySem PySem.Spec PyProof.Rows L2
variable [Tbs]
/-! ### D.get(k, x), D a global dict of texts and numbers that never changes -/
structure KGet (K : PySem.W.Frag) (w : World) (a : Addr) (kvs : List (Str × Int)) : Prop where
  dic : ∃ es n, KDict K w a es n
  val : ∀ z, (∃ u i, kvs.lookup z = some i ∧ PySem.W.nsIn K a z = some (some u) ∧ RelV (.int i) u) ∨ (kvs.lookup z = none ∧ PySem.W.nsIn K a z = some none)
def getC (kvs : List (Str × Int)) (dx : D) (μ : Store) : D → Res Op
  | .str s => .ok (.sh (((kvs.lookup s).map D.int).getD dx)) μ
  | _ => .stk
def eGetC (kvs : List (Str × Int)) (k x : ME) : ME := fun ρ μ => (toD k ρ μ).bind fun dk μ1 => (toD x ρ μ1).bind fun dx μ2 => getC kvs dx μ2 dk
section
variable {X : Cx} {cad : Str → Addr} {W : WX} {apos cpos px : Pos} {e f : Expr} {x : Str} {me mf : ME} {kvs : List (Str × Int)} {a : Addr}
def tKGet (kvs : List (Str × Int)) (ty tx : TE) : TE := fun σ H Q => ty σ H fun y H2 => tx σ H2 fun z H3 => ∃ s, y = .str s ∧ Q (((kvs.lookup s).map V.int).getD z) H3
theorem pe_kget2 {ty tx : TE} (hg : Gl X x) (ht : X.mg x = some (.ref a)) (kg : KGet X.K X.w a kvs) (he : PE X e ty) (hf : PE X f tx) (m : M2 X (.Name x px) "get" apos e f cpos) (hd : (x == ("__debug__" : Str)) = false := by decide) : PE X (.Call (.Attribute (.Name x px) "get" apos) [e, f] [] cpos) (tKGet kvs ty tx) := by
  have ho : PE X (.Name x px) (tC (.ref a)) := pe_glob (v := .ref a) hg ht rfl hd
  refine ⟨fun pins s σ H Q I h => ?_⟩
  obtain ⟨es, n, kd⟩ := kg.dic
  refine wpAny_Call_method m.base m.few m.line PySem.F.plainAttrs_dict PySem.F.slot_dict_get PySem.F.type_dict_get (thn (ho.run pins s σ H (fun y H1 => y = .ref a ∧ H1 = H) I ⟨rfl, rfl⟩) fun u s1 ⟨y, H1, I1, rx, ex, eH⟩ => ?_)
  subst ex eH
  obtain rfl : u = Value.ref a := rx
  have hm := PySem.W.mapOf_K (prog := X.prog) (w := X.w) I1.kIn kd.at_ kd.lit
  refine ⟨hm.typeIs, fun b q => ?_, ?_⟩
  · cases q
    exact ⟨_, I1.kIn _ _ kd.at_, rfl⟩
  rw [m.trees]
  refine Calls.callWith_builtin rfl (Calls.evalArgs_plain (Calls.spliced_cons (thn (he.run pins s1 σ _ _ I1 h) fun iv s2 ⟨y, H2, I2, ry, q2⟩ =>
    Calls.spliced_cons (thn (hf.run pins s2 σ H2 _ I2 q2) fun fv s3 ⟨z, H3, I3, rz, st, ey, q3⟩ => Calls.spliced_nil ?_))))
  subst ey
  obtain ⟨t, rfl⟩ := (show ∃ t, iv = Value.str st t from ry)
  have hm3 := PySem.W.mapOf_K (prog := X.prog) (w := X.w) I3.kIn kd.at_ kd.lit
  refine call_meetsIn PySem.F.slot_dict_get hm3.typeIs PySem.F.entry_dict_get (PySem.F.args_dict_get_3 _ _ _) (meets_dict_get_default (strKind X.prog X.w) a (strKind_is X.prog X.w st t) kd.low fv) ⟨_, hm3, ⟨_, H3, I3.tok _, ?_, q3⟩⟩
  rcases kg.val st with ⟨u, i, e1, e2, e3⟩ | ⟨e1, e2⟩
  · rw [PySem.W.find_K kd.at_ e2, e1]
    exact e3
  · rw [PySem.W.find_K kd.at_ e2, e1]
    exact rz
theorem de_getC (hg : Gl X x) (ht : X.mg x = some (.ref a) ∧ KGet X.K X.w a kvs) (he : PE X e (tE X.K cad W me)) (hf : PE X f (tE X.K cad W mf)) (m : M2 X (.Name x px) "get" apos e f cpos := by exact ⟨rfl, rfl, rfl, rfl⟩) (hd : (x == ("__debug__" : Str)) = false := by decide) : PE X (.Call (.Attribute (.Name x px) "get" apos) [e, f] [] cpos) (tE X.K cad W (eGetC kvs me mf)) := by
  refine pe_imp (pe_kget2 hg ht.1 ht.2 (de_toD he) (de_toD hf) m hd) fun σ H Q ⟨F, ι, μ, ρ, r, q⟩ => ?_
  refine ⟨F, ι, μ, ρ, r, q.bind fun dk μ1 F1 ι1 H1 vk x1 s1 q1 h1 => ?_⟩
  have r1 := r.ext x1 s1
  have q1 : VR X.K cad ι1 F1 dk vk := q1
  refine ⟨F1, ι1, μ1, ρ, r1, h1.bind fun dx μ2 F2 ι2 H2 vx x2 s2 q2 h2 => ?_⟩
  have q2 : VR X.K cad ι2 F2 dx vx := q2
  cases dk with
  | str s =>
    obtain rfl := VR.str_.mp q1
    refine ⟨s, rfl, ?_⟩
    refine h2 F2 ι2 H2 _ (Ext.refl _ _ _) s2 ?_
    cases c : kvs.lookup s with
    | none => exact q2
    | some i => exact (show VR X.K cad ι2 F2 (.int i) _ from VR.int_.mpr rfl)
  | _ => exact h2.elim
end
section
variable {ρ : Ev} {μ : Store} {k x : ME} {kvs : List (Str × Int)}
@[simp] theorem x_eGetC : eGetC kvs k x ρ μ = (toD k ρ μ).bind fun dk μ1 => (toD x ρ μ1).bind fun dx μ2 => getC kvs dx μ2 dk := (rfl)
@[simp] theorem x_getC {s : Str} {dx : D} : getC kvs dx μ (.str s) = .ok (.sh (((kvs.lookup s).map D.int).getD dx)) μ := (rfl)
end
end DL

/-! ### checks of classes of exceptions, by the head's run -/
namespace He
open PySem PySem.Spec PyProof.Rows L2
theorem oexB0_ok {K : PySem.W.Frag} {C : Addr} (h : oexB0 K C = true) : ∃ nm q N bs bm sn sub ab col dd k0 k1 k2 k3 k5, K.lookup C = some (excClassObj nm q C N bs bm true sn sub ab col dd k0 k1 k2 k3 k5 "ValueError.__new__") ∧ HandSPX.refsVE bm = true := by
  unfold oexB0 at h
  split at h
  · next t dd cd sl e =>
    obtain ⟨ht, h⟩ := ba h
    split at h
    · next C' bm k0 k1 k2 k3 n k5 hm hs =>
      obtain ⟨h1, h2⟩ := ba h
      obtain ⟨h3, h4⟩ := ba h1
      obtain ⟨h5, h6⟩ := ba h2
      obtain ⟨h7, h8⟩ := ba h6
      have e1 := of_decide_eq_true h3
      have e2 := of_decide_eq_true h4
      have e3 : cd.hasDel = false := by simpa using h5
      obtain ⟨nm, bs, mro, ns, qn, hd, sn, sub, ab, col, del⟩ := cd
      dsimp only at hm e3 h7
      subst hm e3 h7 e1 e2
      have hsl : sl = #[k0, k1, k2, k3, some (.builtin "ValueError.__new__"), k5] := by
        obtain ⟨l⟩ := sl
        simp only at hs
        rw [hs]
      subst hsl
      rw [of_decide_eq_true ht] at e
      exact ⟨nm, qn, ns, bs, bm, sn, sub, ab, col, dd, k0, k1, k2, k3, k5, e, h8⟩
    · cases h
  · cases h
theorem oexB_ok {K : PySem.W.Frag} {c : Str} (h : oexB K c = true) : OexC K (ga K c) := by
  obtain ⟨h1, h⟩ := ba h
  obtain ⟨h2, h⟩ := ba h
  obtain ⟨h3, h⟩ := ba h
  obtain ⟨h4, h5⟩ := ba h
  exact ⟨oexB0_ok h1, eqO_ok h2, of_decide_eq_true h3, of_decide_eq_true h4, h5⟩
theorem initB_ok {K : PySem.W.Frag} {c : Str} (h : initB K c = true) : PySem.W.findIn K (.ref (ga K c)) "__init__" = some (some (.ref (ma K (ga K c) "__init__"))) ∧ PySem.W.typeIn K (.ref (ma K (ga K c) "__init__")) = some (.type "function") := by
  obtain ⟨h1, h2⟩ := ba h
  exact ⟨eqO_ok h1, of_decide_eq_true h2⟩
theorem exbB_ok {K : PySem.W.Frag} {c : Str} (h : exbB K c = true) : DL.ExB K (ga K c) := by
  obtain ⟨h1, h⟩ := ba h
  obtain ⟨h2, h3⟩ := ba h
  refine ⟨h1, eqO_ok h2, ?_⟩
  split at h3
  · next v e => rw [e, of_decide_eq_true h3]
  · cases h3
theorem excB_ok {K : PySem.W.Frag} {c : Str} (h : excB K c = true) : ExcC K (ga K c) ∧ XfC K (ga K c) := by
  obtain ⟨h, h'⟩ := ba h
  obtain ⟨h1, h⟩ := ba h
  obtain ⟨h2, h⟩ := ba h
  obtain ⟨h3, h4⟩ := ba h
  obtain ⟨g1, h'⟩ := ba h'
  obtain ⟨g2, h'⟩ := ba h'
  obtain ⟨g3, g4⟩ := ba h'
  exact ⟨⟨eqO_ok h1, eqO_ok h2, of_decide_eq_true h3, h4, eqO_ok g1, eqO_ok g2, of_decide_eq_true g3, of_decide_eq_true g4⟩, ⟨eqO_ok h1, eqO_ok h2, of_decide_eq_true h3, h4⟩⟩
theorem kitB_ok {K : PySem.W.Frag} {c : Str} {cs : List Str} (h : kitB K c cs = true) : PySem.W.kitOne K (.ref (ga K c)) (.type "ValueError") = some true ∧ ∀ d ∈ cs, PySem.W.kitOne K (.ref (ga K c)) (.ref (ga K d)) = some (decide (c = d)) := by
  obtain ⟨h1, h2⟩ := ba h
  exact ⟨of_decide_eq_true h1, fun d hd => of_decide_eq_true (List.all_eq_true.mp h2 d hd)⟩
abbrev SaysK (fa : List Fa) (fn : List DefD) (tf : List (Defn × Str)) (ts : List Tab) (ex : List Chk) (w : World) (h : Heap) (K : PySem.W.Frag) : Prop := SaysX fa fn ts (tf.map Prod.fst) (fun K => ex.all fun f => f K) w h K
section
variable {fa : List Fa} {fn : List DefD} {tf : List (Defn × Str)} {ts : List Tab} {ex : List Chk} {w : World} {h : Heap} {K : PySem.W.Frag}
theorem SaysX.d0 (c : SaysK fa fn tf ts ex w h K) : SaysD fa fn K := congrArg (fun z : AlT => z.1) c.t
theorem SaysX.chk0 (c : SaysK fa fn tf ts ex w h K) (i : Nat) {f : Chk} (e : ex[i]? = some f := by rfl) : f K = true := List.all_eq_true.mp c.more f (List.mem_of_getElem? e)
end
/-! a dict of texts and numbers -/
theorem find_none {P : Params} {z : Str} : ∀ {l : List DictEntry} {ks : List Str}, l.map keyOf = keysIn P ks → z ∉ ks → l.find? (·.key.isStr z) = none ∧ l.any (·.refKey) = false
  | [], _, _, _ => ⟨rfl, rfl⟩
  | e :: r, [], h, _ => by cases h
  | e :: r, k :: ks, h, hz => by
    have h1 : keyOf e :: r.map keyOf = some (k, PyData.keyHash P k) :: keysIn P ks := h
    injection h1 with h2 h3
    obtain ⟨i1, i2⟩ := find_none h3 fun q => hz (List.mem_cons_of_mem _ q)
    unfold keyOf at h2
    split at h2
    · rename_i x t q
      have h4 := Option.some.inj h2
      obtain ⟨h5, h6⟩ := Prod.mk.inj h4
      have ne : x ≠ z := fun y => hz (by rw [← y, h5]; exact List.mem_cons_self)
      have e1 : e.key.isStr z = false := by
        rw [q]
        show (x == z) = false
        exact beq_eq_false_iff_ne.mpr ne
      have e2 : e.refKey = false := by
        unfold DictEntry.refKey
        rw [q]
      rw [List.find?_cons, e1, List.any_cons, e2]
      exact ⟨i1, i2⟩
    · cases h2
theorem lookupS_mem {kvs : List (Str × Int)} {z : Str} {i : Int} (h : kvs.lookup z = some i) : (z, i) ∈ kvs := by
  induction kvs with
  | nil => cases h
  | cons p r ih =>
    rw [List.lookup_cons] at h
    cases c : z == p.1 with
    | true =>
      rw [c] at h
      have e := beq_iff_eq.mp c
      cases h
      rw [e]
      exact List.mem_cons_self
    | false =>
      rw [c] at h
      exact List.mem_cons_of_mem _ (ih h)
theorem lookup_no {kvs : List (Str × Int)} {z : Str} (h : kvs.lookup z = none) : z ∉ kvs.map (·.1) := by
  induction kvs with
  | nil => simp
  | cons p r ih =>
    rw [List.lookup_cons] at h
    cases c : z == p.1 with
    | true => rw [c] at h; cases h
    | false =>
      rw [c] at h
      rw [List.map_cons, List.mem_cons, not_or]
      exact ⟨beq_eq_false_iff_ne.mp c, ih h⟩
theorem kget_of {fa : List Fa} {fn : List DefD} {tf : List (Defn × Str)} {ts : List Tab} {ex : List Chk} {w : World} {h : Heap} {K : PySem.W.Frag} (c : SaysK fa fn tf ts ex w h K) (i : Nat) {x : Str} {kvs : List (Str × Int)} (ht : ts[i]? = some ((fun K => ga K x), kvs.map (·.1))) (hv : valsB K (ga K x) (kvs.map fun q => (q.1, Dv.int q.2)) = true) : DL.KGet K w (ga K x) kvs := by
  have e : ts.map (fun t => dicW K (t.1 K)) = ts.map fun t => some (keysIn w.params t.2) := congrArg (fun z : AlT => z.2) c.t
  have e2 : (ts.map fun t => dicW K (t.1 K))[i]? = (ts.map fun t => some (keysIn w.params t.2))[i]? := by rw [e]
  rw [List.getElem?_map, List.getElem?_map, ht] at e2
  have e3 : dicW K (ga K x) = some (keysIn w.params (kvs.map (·.1))) := Option.some.inj e2
  refine ⟨dicW_ok e3, fun z => ?_⟩
  cases l : kvs.lookup z with
  | some j =>
    obtain ⟨u, h1, h2⟩ := valsB_ok hv (List.mem_map.mpr ⟨(z, j), lookupS_mem l, rfl⟩)
    exact .inl ⟨u, j, rfl, h1, h2⟩
  | none =>
    right
    refine ⟨rfl, ?_⟩
    obtain ⟨es, n, kd⟩ := dicW_ok e3
    have e4 : es.toList.map keyOf = keysIn w.params (kvs.map (·.1)) := by
      unfold dicW at e3
      rw [kd.at_] at e3
      have e3 : (match decide (("dict" : Str) = "dict") && ((#[] : Array (Option Value)).isEmpty && !(ga K x == sysModules)) with
        | true => some (es.toList.map keyOf)
        | false => none) = some (keysIn w.params (kvs.map (·.1))) := e3
      rw [kd.low] at e3
      exact Option.some.inj e3
    obtain ⟨f1, f2⟩ := find_none e4 (lookup_no l)
    unfold PySem.W.nsIn
    rw [kd.at_]
    dsimp only
    rw [f1, f2]
    rfl
theorem nodup_map {α β : Type} {f : α → β} : ∀ {l : List α} {a b : α}, (l.map f).Nodup → a ∈ l → b ∈ l → f a = f b → a = b
  | x :: l, a, b, h, ha, hb, e => by
    rw [List.map_cons, List.nodup_cons] at h
    rcases List.mem_cons.mp ha with e1 | ha
    · rcases List.mem_cons.mp hb with e2 | hb
      · rw [e1, e2]
      · exact absurd (List.mem_map.mpr ⟨b, hb, by rw [← e, e1]⟩) h.1
    · rcases List.mem_cons.mp hb with e2 | hb
      · exact absurd (List.mem_map.mpr ⟨a, ha, by rw [e, e2]⟩) h.1
      · exact nodup_map h.2 ha hb e
theorem lamM_of {K : PySem.W.Frag} {mg : Str → Option Value} {base : Heap} {tf : List (Defn × Str)} {p : Defn} {q : Str} (hn : tabN tf K = true) (TB : ∀ p ∈ tabC K tf, LamX.TabB base mg p.1 p.2) (h : (p, q) ∈ tf) : @DL.LamM ⟨tabT K tf⟩ K mg base (fAd K p) q := by
  refine ⟨(cT K p).1, (cT K p).2, fun cdv hc => ?_, TB _ (List.mem_map.mpr ⟨(p, q), h, rfl⟩), List.mem_map.mpr ⟨(p, q), h, rfl⟩, fun z hz e => ?_⟩
  · obtain ⟨oc, od, fd, osl, lk, e, q', hq⟩ := hc
    obtain ⟨c, e2⟩ := codeIn_ref hq
    rw [e2, show (cT K p).1 = codeOf K p from rfl, codeOf_eq lk (e.trans e2)]
  · obtain ⟨y, hy, rfl⟩ := List.mem_map.mp hz
    have := nodup_map (of_decide_eq_true hn) hy h e
    rw [this]
theorem tb_start {K : PySem.W.Frag} {tf : List (Defn × Str)} {H : Hp} (h : ∀ p ∈ tabC K tf, H p.2 = some (.tbl #[])) : @DL.Tb ⟨tabT K tf⟩ H := fun p hp => by
  obtain ⟨y, hy, rfl⟩ := List.mem_map.mp hp
  exact LamX.TabS.nil (h _ (List.mem_map.mpr ⟨y, hy, rfl⟩))
theorem says_tabs {fa : List Fa} {fn : List DefD} {tf : List (Defn × Str)} {ts : List Tab} {ex : List Chk} {w : World} {h : Heap} {K : PySem.W.Frag} (X : K.In h) (c : SaysK fa fn tf ts ex w h K) :
    (∀ p ∈ tabC K tf, h.get? p.2 = some { cls := .none, data := .fields #[] }) ∧ (∀ p ∈ tabC K tf, K.lookup p.2 = none) ∧ ∀ p ∈ tabC K tf, PySem.W.CodeHd h p.1 p.2 := by
  refine ⟨fun p hp => ?_, fun p hp => ?_, fun p hp => ?_⟩
  all_goals obtain ⟨y, hy, rfl⟩ := List.mem_map.mp hp
  · exact c.empty _ (List.mem_map.mpr ⟨y, hy, rfl⟩)
  · exact c.out _ (List.mem_map.mpr ⟨y, hy, rfl⟩)
  · exact PySem.W.codeHd_of_K X (c.hd _ (List.mem_map.mpr ⟨y, hy, rfl⟩))
theorem walk_K {l : PySem.W.OpenLaw} {n k : Nat} {q : Program} {loose : List Str} {XP : (Str → Option Value) → Heap → Prop} {YP : World → Heap → Prop} {d : DefRec} {CX : World → CXT} {x : Str} (hn : l.most = some n) (hn2 : n ≤ sizeLine) (hdf : d.params.defaults = []) (hr : Room k callerA)
    (F : ∀ (w : World) (mg : Str → Option Value) (fa : Addr) (h : Heap), YP w h → h.Ns mainGlobals mg → mg d.name = some (.ref fa) → ∃ K : PySem.W.Frag, K.In h ∧ LamX.LawAtS l w K (CX w) k n x mg fa h)
    (hCX : ∀ (w : World) (H : Hp) (s : Shared) (e : Value) (s' : Shared), CX w [] H s (fun _ _ _ => False) e s' → False) : PySem.W.WalkO q loose XP YP l.row.toRowW d [] (fun f vs => PySem.call f vs) := by
  refine Att.attach_callB hn hdf fun w s0 s1 mg mb fa o pm cd doc a vs ns G Y ho hd hcd hmg hobj hints hlen hbits hg => ?_
  obtain ⟨K, KX, fd, cs, sp, t1, t2, t3, b1, b2, b3⟩ := F w mg fa _ Y G.T.g hmg
  exact LamX.law_callTs KX G.T.g G.T.b G.T.builtins G.T.nolimit hg t1 t2 t3 G.T.bmain hobj hints (Nat.le_trans hlen hn2) hr b3 b1 (fun H hH hS => b2 H a ns hlen hbits hH hS) fun H e s' => hCX w H s1 e s'
theorem cx_end {P : Program} {w : World} {H : Hp} {s : Shared} {e : Value} {s' : Shared} (h : L2.CX P w [] H s (fun _ _ _ => False) e s') : False := by
  obtain ⟨_, _, _, _, _, _, _, _, _, _, _, _, z⟩ := h
  exact z
end He

/-! ### sets of tuples, tables of any power of two: the round of i -> 5 i + 1 meets every slot -/
namespace SG
open PySem PySem.Spec PyProof.Rows L2
/-- 0, 1, 6, 31, .. -/
def xs : Nat → Nat
  | 0 => 0
  | k + 1 => xs k * 5 + 1
theorem xs_add (a : Nat) : ∀ b, xs (a + b) = 5 ^ b * xs a + xs b
  | 0 => by simp [xs]
  | b + 1 => by
    show xs (a + b) * 5 + 1 = 5 ^ (b + 1) * xs a + (xs b * 5 + 1)
    rw [xs_add a b, Nat.pow_succ, Nat.add_mul, Nat.mul_right_comm, Nat.add_assoc]
theorem five (b : Nat) : ∃ d, 5 ^ b = 4 * d + 1 := by
  induction b with
  | zero => exact ⟨0, rfl⟩
  | succ b ih =>
    obtain ⟨d, e⟩ := ih
    refine ⟨5 * d + 1, ?_⟩
    rw [Nat.pow_succ, e]
    omega
theorem odd_mul (u c : Nat) : (2 * u + 1) * (2 * c + 1) = 2 * (u * (2 * c + 1) + c) + 1 := by
  rw [Nat.add_mul, Nat.one_mul, Nat.mul_assoc]
  omega
theorem xs_pow (n : Nat) : ∃ c, xs (2 ^ n) = 2 ^ n * (2 * c + 1) := by
  induction n with
  | zero => exact ⟨0, rfl⟩
  | succ n ih =>
    obtain ⟨c, e⟩ := ih
    obtain ⟨d, f⟩ := five (2 ^ n)
    refine ⟨d * (2 * c + 1) + c, ?_⟩
    have s : (2 : Nat) ^ (n + 1) = 2 ^ n + 2 ^ n := by rw [Nat.pow_succ]; omega
    have h1 : xs (2 ^ (n + 1)) = (5 ^ 2 ^ n + 1) * xs (2 ^ n) := by
      rw [s, xs_add, Nat.add_mul, Nat.one_mul]
    rw [h1, f, e, ← odd_mul, Nat.pow_succ]
    have h2 : 4 * d + 1 + 1 = 2 * (2 * d + 1) := by omega
    rw [h2, Nat.mul_assoc, Nat.mul_assoc, Nat.mul_left_comm (2 * d + 1), ← Nat.mul_assoc 2, Nat.mul_comm 2 (2 ^ n), Nat.mul_assoc]
theorem two_way {p X j : Nat} (hp : 0 < p) (hj : j < 2 * p) (e : X % p = j % p) : X % (2 * p) = j ∨ (p + X) % (2 * p) = j := by
  have hr : X % (2 * p) < 2 * p := Nat.mod_lt _ (by omega)
  have er : X % (2 * p) % p = X % p := Nat.mod_mod_of_dvd _ ⟨2, by omega⟩
  have ea : (p + X) % (2 * p) = (p + X % (2 * p)) % (2 * p) := by rw [Nat.add_mod_mod]
  rw [ea]
  generalize X % (2 * p) = r at hr er
  rw [e] at er
  have key : ∀ z, z < 2 * p → z % p = if z < p then z else z - p := fun z hz => by
    by_cases c : z < p
    · rw [if_pos c, Nat.mod_eq_of_lt c]
    · rw [if_neg c, Nat.mod_eq_sub_mod (by omega), Nat.mod_eq_of_lt (by omega)]
  rw [key r hr, key j hj] at er
  by_cases c1 : r < p <;> by_cases c2 : j < p
  · rw [if_pos c1, if_pos c2] at er; exact .inl er
  · rw [if_pos c1, if_neg c2] at er
    refine .inr ?_
    rw [Nat.mod_eq_of_lt (by omega)]
    omega
  · rw [if_neg c1, if_pos c2] at er
    refine .inr ?_
    rw [Nat.mod_eq_sub_mod (by omega), Nat.mod_eq_of_lt (by omega)]
    omega
  · rw [if_neg c1, if_neg c2] at er
    exact .inl (by omega)
theorem xs_all (n : Nat) : ∀ j, j < 2 ^ n → ∃ k, k < 2 ^ n ∧ xs k % 2 ^ n = j := by
  induction n with
  | zero => intro j hj; exact ⟨0, by decide, by rw [show j = 0 by simp at hj; exact hj] <;> rfl⟩
  | succ n ih =>
    intro j hj
    have hp : 0 < 2 ^ n := Nat.pow_pos (by decide)
    have s : (2 : Nat) ^ (n + 1) = 2 * 2 ^ n := by rw [Nat.pow_succ, Nat.mul_comm]
    rw [s] at hj
    obtain ⟨k, hk, e⟩ := ih (j % 2 ^ n) (Nat.mod_lt _ hp)
    rw [s]
    rcases two_way hp hj e with h | h
    · exact ⟨k, by omega, h⟩
    · refine ⟨2 ^ n + k, by omega, ?_⟩
      obtain ⟨c, ec⟩ := xs_pow n
      obtain ⟨d, ed⟩ := five k
      rw [xs_add, ec, ed, ← h, Nat.mul_left_comm]
      have e4 : 4 * d + 1 = 2 * (2 * d) + 1 := by omega
      rw [e4, odd_mul, Nat.mul_add, Nat.mul_one, ← Nat.mul_assoc, Nat.mul_comm _ 2, Nat.add_assoc, Nat.mul_add_mod]
theorem lcg_xs (m : Nat) : ∀ k, lcgN m k = xs k % (m + 1)
  | 0 => (Nat.zero_mod _).symm
  | k + 1 => by
    show (lcgN m k * 5 + 1) % (m + 1) = (xs k * 5 + 1) % (m + 1)
    rw [lcg_xs m k, Nat.add_mod, Nat.mod_mul_mod, ← Nat.add_mod]
/-- a mask all of whose slots are met -/
def Gm (m : Nat) : Prop := ∃ n, 3 ≤ n ∧ n ≤ 13 ∧ m + 1 = 2 ^ n
theorem Gm.all {m : Nat} (g : Gm m) {i j : Nat} (hi : i ≤ m) (hj : j ≤ m) : ∃ k, k ≤ m ∧ lcgI m i k = j := by
  obtain ⟨n, _, _, e⟩ := g
  obtain ⟨a, ha, ea⟩ := xs_all n i (by omega)
  obtain ⟨b, hb, eb⟩ := xs_all n j (by omega)
  rw [← e] at ea eb ha hb
  rw [← lcg_xs] at ea eb
  have per : lcgN m (m + 1 + b) = lcgN m b := by
    obtain ⟨c, ec⟩ := xs_pow n
    rw [← e] at ec
    rw [lcg_xs, lcg_xs, xs_add, ec, Nat.mul_left_comm, Nat.mul_add_mod]
  rw [← ea]
  rcases Nat.lt_or_ge b a with c | c
  · refine ⟨b + (m + 1) - a, by omega, ?_⟩
    rw [lcgN_add, show a + (b + (m + 1) - a) = m + 1 + b by omega, per, eb]
  · exact ⟨b - a, by omega, by rw [lcgN_add, show a + (b - a) = b by omega, eb]⟩
theorem Gm.bds {m : Nat} (g : Gm m) : 7 ≤ m ∧ m ≤ 8191 ∧ m % 2 = 1 := by
  obtain ⟨n, h1, h2, e⟩ := g
  have : n = 3 ∨ n = 4 ∨ n = 5 ∨ n = 6 ∨ n = 7 ∨ n = 8 ∨ n = 9 ∨ n = 10 ∨ n = 11 ∨ n = 12 ∨ n = 13 := by omega
  rcases this with rfl | rfl | rfl | rfl | rfl | rfl | rfl | rfl | rfl | rfl | rfl <;> (simp at e; omega)
theorem gm7 : Gm 7 := ⟨3, by decide, by decide, rfl⟩
theorem gm31 : Gm 31 := ⟨5, by decide, by decide, rfl⟩
theorem gm127 : Gm 127 := ⟨7, by decide, by decide, rfl⟩
theorem gm511 : Gm 511 := ⟨9, by decide, by decide, rfl⟩
theorem gm2047 : Gm 2047 := ⟨11, by decide, by decide, rfl⟩
theorem gm8191 : Gm 8191 := ⟨13, by decide, by decide, rfl⟩
/-- every slot begins a run soon -/
theorem Gm.runs {m : Nat} (g : Gm m) (h : Int) {j : Nat} (hj : j ≤ m) : ∃ n, n ≤ m + 12 ∧ runI m (SetTable.bits h) n = j := by
  obtain ⟨k, hk, e⟩ := g.all (runI_le m (SetTable.bits h) 12) hj
  exact ⟨12 + k, by omega, (runI_tail (bits_lt h) k).trans e⟩
theorem way_in {m : Nat} (h : Int) (k : Nat) : way m h k ≤ m := by
  have hi : SetTable.bits h % (m + 1) ≤ m := Nat.le_of_lt_succ (Nat.mod_lt _ (Nat.succ_pos _))
  have r := runEnd_bd hi
  have q : (nth m (runAt m (SetTable.bits h % (m + 1)) (SetTable.bits h)) k).j + (nth m (runAt m (SetTable.bits h % (m + 1)) (SetTable.bits h)) k).more ≤ m :=
    nth_in k _ (by show SetTable.bits h % (m + 1) + (SetTable.runEnd m (SetTable.bits h % (m + 1)) - SetTable.bits h % (m + 1)) ≤ m; omega)
  exact Nat.le_trans (Nat.le_add_right _ _) q
end SG

/-! ### sets of tuples: the table, for any mask of SGA -/
namespace SG
open PySem PySem.Spec PyProof.Rows L2
theorem off_le (m : Nat) : ∀ (n i b : Nat), off m i b n ≤ 10 * n
  | 0, _, _ => Nat.zero_le _
  | n + 1, i, b => by
    have r : SetTable.runEnd m i ≤ i + 9 := by unfold SetTable.runEnd; split <;> omega
    have q := off_le m n (SetTable.leap m i b).1 (SetTable.leap m i b).2
    show (SetTable.runEnd m i - i + 1) + off m (SetTable.leap m i b).1 (SetTable.leap m i b).2 n ≤ 10 * (n + 1)
    omega
/-- the first place of the way of which something is true that is true of some slot -/
theorem Gm.first {m : Nat} (g : Gm m) (h : Int) {p : Nat → Prop} {j : Nat} (hj : j ≤ m) (hp : p j) :
    ∃ n K, n ≤ m + 12 ∧ K ≤ off m (SetTable.bits h % (m + 1)) (SetTable.bits h) n ∧ p (way m h K) ∧ ∀ k, k < K → ¬ p (way m h k) := by
  obtain ⟨n, hn, e⟩ := g.runs h hj
  have e2 : way m h (off m (SetTable.bits h % (m + 1)) (SetTable.bits h) n) = j := by
    show (nth m (runAt m (SetTable.bits h % (m + 1)) (SetTable.bits h)) (off m (SetTable.bits h % (m + 1)) (SetTable.bits h) n)).j = j
    rw [nth_off, itL_run]
    exact e
  obtain ⟨K, k1, k2, k3⟩ := st_least (p := fun k => p (way m h k)) _ (show p (way m h (off m (SetTable.bits h % (m + 1)) (SetTable.bits h) n)) from e2.symm ▸ hp)
  exact ⟨n, K, hn, k1, k2, k3⟩

/-- j lies on the way of h, and all ahead of it is taken -/
def Led (m : Nat) (ps : List Nat) (h : Int) (j : Nat) : Prop := ∃ k, way m h k = j ∧ ∀ k', k' < k → way m h k' ∈ ps
structure TG (t : SetTable) (hs : List Int) : Prop where
  g : Gm t.mask
  ris : Ris t.place.toList
  dm : t.dummies = #[]
  sz : t.place.toList.length = hs.length
  led : ∀ q ∈ hs.zip t.place.toList, Led t.mask t.place.toList q.1 q.2
section
variable {t : SetTable} {hs : List Int}
theorem TG.size (T : TG t hs) : t.place.size = hs.length := by rw [← T.sz]; rfl
theorem TG.hole (T : TG t hs) (hl : hs.length ≤ t.mask) (h : Int) : ∃ K, K < 10 * SetTable.turns t.mask ∧ way t.mask h K ∉ t.place.toList ∧ ∀ k, k < K → way t.mask h k ∈ t.place.toList := by
  obtain ⟨j, hj, hn⟩ := st_missing t.place.toList (t.mask + 1) (by rw [T.sz]; omega)
  obtain ⟨n, K, h1, h2, h3, h4⟩ := T.g.first h (p := fun j => j ∉ t.place.toList) (Nat.le_of_lt_succ hj) hn
  refine ⟨K, ?_, h3, fun k hk => Classical.not_not.mp (h4 k hk)⟩
  have := off_le t.mask n (SetTable.bits h % (t.mask + 1)) (SetTable.bits h)
  unfold SetTable.turns
  omega
/-- an entry stands ahead of the hole of its hash -/
theorem TG.ahead (T : TG t hs) {h : Int} {K i j : Nat} (hK : way t.mask h K ∉ t.place.toList) (hi : hs[i]? = some h) (hj : t.place.toList[i]? = some j) : ∃ k, k < K ∧ way t.mask h k = j := by
  have hz : (h, j) ∈ hs.zip t.place.toList := List.mem_of_getElem? (i := i) (by rw [List.getElem?_zip_eq_some]; exact ⟨hi, hj⟩)
  obtain ⟨k, e, hb⟩ := T.led _ hz
  have hjm : j ∈ t.place.toList := List.mem_of_getElem? hj
  refine ⟨k, ?_, e⟩
  rcases Nat.lt_or_ge k K with c | c
  · exact c
  · exfalso
    rcases Nat.lt_or_eq_of_le c with c | c
    · exact hK (hb K c)
    · rw [c] at hK
      exact hK (by rw [show way t.mask h k = j from e]; exact hjm)
theorem nth_dm (m : Nat) : ∀ (n : Nat) (p : SetTable.Probe), p.dummy = none → (nth m p n).dummy = none
  | 0, _, h => h
  | n + 1, p, h => nth_dm m n (adv m p) (by unfold adv; split <;> exact h)
/-- the c-th state of the way -/
def st (m : Nat) (h : Int) (c : Nat) : SetTable.Probe := nth m (runAt m (SetTable.bits h % (m + 1)) (SetTable.bits h)) c
theorem st_j (m : Nat) (h : Int) (c : Nat) : (st m h c).j = way m h c := rfl
theorem nth_st (m : Nat) (h : Int) (c q : Nat) : nth m (st m h c) q = st m h (c + q) := (nth_add m c _ q).symm
/-- what probing from the c-th state on answers -/
theorem TG.probe (T : TG t hs) {hashAt : Nat → Int} (ha : ∀ i h, hs[i]? = some h → hashAt i = h) {h : Int} {K : Nat} (hKf : K < 10 * SetTable.turns t.mask) (hK : way t.mask h K ∉ t.place.toList) (hb : ∀ k, k < K → way t.mask h k ∈ t.place.toList) {c : Nat} (hc : c ≤ K) :
    (∃ (q i : Nat), c ≤ q ∧ q < K ∧ t.place.toList[i]? = some (way t.mask h q) ∧ hs[i]? = some h ∧ (∀ (k j : Nat), c ≤ k → k < q → hs[j]? = some h → t.place.toList[j]? ≠ some (way t.mask h k)) ∧ t.probe hashAt h (st t.mask h c) = some (.candidate (way t.mask h q) i (st t.mask h (q + 1)))) ∨
    ((∀ (k j : Nat), c ≤ k → k < K → hs[j]? = some h → t.place.toList[j]? ≠ some (way t.mask h k)) ∧ t.probe hashAt h (st t.mask h c) = some (.empty (way t.mask h K) none)) := by
  have ej : ∀ q, (nth t.mask (st t.mask h c) q).j = way t.mask h (c + q) := fun q => by rw [nth_st]; rfl
  have sp := go_spec t T.ris T.dm hashAt h (10 * SetTable.turns t.mask) (K - c) (st t.mask h c) (nth_dm _ _ _ rfl) (by omega) (fun k hk => by rw [ej]; exact hb _ (by omega)) (by rw [ej, show c + (K - c) = K by omega]; exact hK)
  have hs_at : ∀ (i j : Nat), t.place.toList[i]? = some j → hs[i]? = some (hashAt i) := fun i j hi => by
    have hl : i < hs.length := by rw [← T.sz]; exact (List.getElem?_eq_some_iff.mp hi).1
    have e := List.getElem?_eq_getElem hl
    rw [e, ha i _ e]
  have no : ∀ Q, (∀ k' i', k' < Q → t.place.toList[i']? = some (nth t.mask (st t.mask h c) k').j → hashAt i' ≠ h) → ∀ (k j : Nat), c ≤ k → k < c + Q → hs[j]? = some h → t.place.toList[j]? ≠ some (way t.mask h k) := fun Q hq k j h1 h2 h3 h4 =>
    hq (k - c) j (by omega) (by rw [ej, show c + (k - c) = k by omega]; exact h4) (ha j h h3)
  rcases sp with ⟨q, i, h1, h2, h3, h4, h5⟩ | ⟨h1, h2⟩
  · rw [ej] at h2
    refine .inl ⟨c + q, i, by omega, by omega, h2, by rw [hs_at i _ h2, h3], no q h4, ?_⟩
    rw [ej, nth_st] at h5
    exact h5
  · refine .inr ⟨fun k j a1 a2 => no (K - c) h1 k j a1 (by omega), ?_⟩
    rw [ej, show c + (K - c) = K by omega] at h2
    exact h2
/-- one put in -/
theorem TG.put (T : TG t hs) {h : Int} {K : Nat} (hK : way t.mask h K ∉ t.place.toList) (hb : ∀ k, k < K → way t.mask h k ∈ t.place.toList) :
    ∃ p t', t.put (way t.mask h K) = (t', p) ∧ p ≤ hs.length ∧ TG t' (hs.take p ++ h :: hs.drop p) ∧ t'.mask = t.mask ∧ t'.led = t.led ∧ t'.plain = t.plain ∧ t'.fill = hs.length + 1 := by
  generalize hj : way t.mask h K = j at hK
  have c1 : SetTable.below t.place j ≤ t.place.toList.length := (below_cut T.ris j).1
  have hpp := put_place t j
  have c2 : SetTable.below t.place j ≤ hs.length := T.sz ▸ c1
  have hnp : t.place[SetTable.below t.place j]? ≠ some j := fun e => hK (List.mem_of_getElem? (by rw [Array.getElem?_toList]; exact e))
  have hm : (t.put j).1.mask = t.mask := rfl
  have hsz : (t.put j).1.place.toList.length = hs.length + 1 := by rw [hpp, len_ins _ c1, T.sz]
  refine ⟨SetTable.below t.place j, (t.put j).1, rfl, c2, ⟨T.g, ris_insert T.ris hnp, put_dm T.dm j, ?_, fun q hq => ?_⟩, rfl, rfl, rfl, ?_⟩
  · rw [hsz, len_ins _ c2]
  · have up : ∀ {x : Nat}, x ∈ t.place.toList → x ∈ (t.put j).1.place.toList := fun hx => by rw [hpp]; exact mem_ins.2 (.inr hx)
    have hq2 : q = (h, j) ∨ q ∈ hs.zip t.place.toList := by
      rw [hpp, List.zip_append (by rw [List.length_take, List.length_take, T.sz]), List.zip_cons_cons] at hq
      rcases List.mem_append.mp hq with z | z
      · refine .inr ?_
        rw [List.zip, ← List.take_zipWith] at z
        exact List.mem_of_mem_take z
      · rcases List.mem_cons.mp z with z | z
        · exact .inl z
        · refine .inr ?_
          rw [List.zip, ← List.drop_zipWith] at z
          exact List.mem_of_mem_drop z
    rcases hq2 with e | hq2
    · subst e
      exact ⟨K, hj, fun k hk => up (hb k hk)⟩
    · obtain ⟨k, e, z⟩ := T.led q hq2
      exact ⟨k, e, fun k' hk => up (z k' hk)⟩
  · have e1 : (t.put j).1.place.size = hs.length + 1 := hsz
    show (t.put j).1.place.size + (t.put j).1.dummies.size = _
    rw [e1, put_dm T.dm j]
    rfl
end

/-! ### laid anew -/
theorem own_step {m : Nat} (g : Gm m) {done : List Int} {owner : Array (Option Nat)} (W : Own m done owner) (hl : done.length ≤ m) (h : Int) :
    ∃ j, SetTable.layClean.free m owner (SetTable.turns m) (SetTable.bits h % (m + 1)) (SetTable.bits h) = some j ∧ Own m (done ++ [h]) (owner.setIfInBounds j (some done.length)) := by
  obtain ⟨ps, hps, hin⟩ := W.ps
  obtain ⟨j0, h0, hn0⟩ := st_missing ps (m + 1) (by omega)
  have hj0 : oAt owner j0 = none := Classical.byContradiction fun z => hn0 (hin j0 (Nat.le_of_lt_succ h0) z)
  obtain ⟨n, K, k0, k1, k2, k3⟩ := g.first h (p := fun j => oAt owner j = none) (Nat.le_of_lt_succ h0) hj0
  have hfr : SetTable.layClean.free m owner (SetTable.turns m) (SetTable.bits h % (m + 1)) (SetTable.bits h) = some (way m h K) :=
    free_spec m owner (SetTable.turns m) n _ _ K (by unfold SetTable.turns; omega) k1
      (fun k hk => Option.isNone_eq_false_iff.mpr (Option.isSome_iff_ne_none.mpr (k3 k hk))) (Option.isNone_iff_eq_none.mpr k2)
  generalize hj : way m h K = j at hfr k2
  have hjm : j ≤ m := hj ▸ way_in h K
  have self : oAt (owner.setIfInBounds j (some done.length)) j = some done.length := oAt_set_self _ (by rw [W.sz]; omega)
  have other : ∀ {i}, i ≠ j → oAt (owner.setIfInBounds j (some done.length)) i = oAt owner i := fun hi => oAt_set_ne _ hi
  have mono : ∀ {i}, oAt owner i ≠ none → oAt (owner.setIfInBounds j (some done.length)) i ≠ none := fun {i} hi => by
    rw [other fun z : i = j => hi (by rw [z]; exact k2)]
    exact hi
  have lapp : ∀ {k : Nat} {x : Int}, done[k]? = some x → (done ++ [h])[k]? = some x := fun {k x} e => by
    rw [List.getElem?_append_left (List.getElem?_eq_some_iff.mp e).1]
    exact e
  refine ⟨j, hfr, by rw [Array.size_setIfInBounds, W.sz], fun i k hi e => ?_, fun k hk => ?_, j :: ps, by simp [hps], fun i hi e => ?_⟩
  · rcases Nat.decEq i j with c | c
    · rw [other c] at e
      obtain ⟨h', K', a1, a2, a3⟩ := W.at_ i k hi e
      exact ⟨h', K', lapp a1, a2, fun k' hk' => mono (a3 k' hk')⟩
    · rw [c, self] at e
      cases e
      exact ⟨h, K, by simp, hj.trans c.symm, fun k' hk' => mono (k3 k' hk')⟩
  · rcases Nat.lt_or_ge k done.length with c | c
    · obtain ⟨i, hi, e⟩ := W.all k c
      exact ⟨i, hi, by rw [other fun z => by rw [z, k2] at e; cases e]; exact e⟩
    · rw [List.length_append, List.length_singleton] at hk
      exact ⟨j, hjm, by rw [self]; congr 1; omega⟩
  · rcases Nat.decEq i j with c | c
    · rw [other c] at e
      exact List.mem_cons_of_mem _ (hin i hi e)
    · exact c ▸ List.mem_cons_self
theorem lay_fold {m : Nat} (g : Gm m) : ∀ (rest done : List Int) (owner : Array (Option Nat)), Own m done owner → done.length + rest.length ≤ m →
    ∃ o', rest.foldl (stepF m) (some (owner, done.length)) = some (o', (done ++ rest).length) ∧ Own m (done ++ rest) o'
  | [], done, owner, W, _ => ⟨owner, by simp, by rw [List.append_nil]; exact W⟩
  | h :: rest, done, owner, W, hl => by
    rw [List.length_cons] at hl
    obtain ⟨j, e, W'⟩ := own_step g W (by omega) h
    have := lay_fold g rest (done ++ [h]) _ W' (by simp; omega)
    rw [List.append_assoc, List.singleton_append, List.length_append, List.length_singleton] at this
    rw [List.foldl_cons, stepF_some e]
    exact this
theorem lay_new (t : SetTable) {hs : Array Int} {wanted M : Nat} (hw : SetTable.sizeAbove wanted - 1 = M) (g : Gm M) (hn : hs.size ≤ M) :
    ∃ t' order, t.relaid hs wanted = some (t', order) ∧ order.toList.Perm (List.range hs.size) ∧ TG t' (order.toList.map fun i => hs.getD i 0) ∧ t'.mask = M ∧ t'.led = t.led ∧ t'.plain = t.plain := by
  obtain ⟨owner, f, W⟩ := lay_fold g hs.toList [] _ (Own.init M) (by simpa using hn)
  rw [List.nil_append] at f W
  have f : hs.toList.foldl (stepF M) (some (Array.replicate (M + 1) none, 0)) = some (owner, hs.toList.length) := f
  have hr : t.relaid hs wanted = some (tabOf t M owner, ((liveOf M owner).map (·.2)).toArray) := by
    rw [relaid_eq, hw, layClean_eq, f]
    rfl
  have r1 := ris_live (fun j => owner.getD j none) (List.range (M + 1)) List.pairwise_lt_range
  have r1 : Ris ((liveOf M owner).map (·.1)) := r1.1
  have nd : ((liveOf M owner).map (·.1)).Nodup := r1.imp fun h => Nat.ne_of_lt h
  have hall : ∀ k, k < hs.size → k ∈ (liveOf M owner).map (·.2) := fun k hk => by
    obtain ⟨j, b1, b2⟩ := W.all k hk
    exact List.mem_map.mpr ⟨(j, k), (mem_live W.sz).2 ⟨b1, b2⟩, rfl⟩
  have hlen : (liveOf M owner).length = hs.size := by
    obtain ⟨ps, p1, p2⟩ := W.ps
    have a := nat_nodup_len _ ps nd fun x hx => by
      obtain ⟨q, hq, rfl⟩ := List.mem_map.mp hx
      obtain ⟨b1, b2⟩ := (mem_live W.sz (j := q.1) (k := q.2)).1 hq
      exact p2 _ b1 (by rw [b2]; exact fun z => nomatch z)
    have b := nat_nodup_len (List.range hs.size) _ List.nodup_range fun k hk => hall k (List.mem_range.mp hk)
    rw [List.length_map] at a b
    rw [List.length_range] at b
    have : hs.toList.length = hs.size := rfl
    omega
  refine ⟨_, _, hr, perm_range hs.size _ (by simpa using hlen) (by simpa using hall), ⟨g, r1, rfl, ?_, fun q hq => ?_⟩, rfl, rfl, rfl⟩
  · show ((liveOf M owner).map (·.1)).length = (((liveOf M owner).map (·.2)).map _).length
    simp
  · have hq : q ∈ (((liveOf M owner).map (·.2)).map fun i => hs.getD i 0).zip ((liveOf M owner).map (·.1)) := hq
    rw [List.map_map, List.zip_map'] at hq
    obtain ⟨⟨j, k⟩, hx, rfl⟩ := List.mem_map.mp hq
    obtain ⟨b1, b2⟩ := (mem_live W.sz).1 hx
    obtain ⟨h0, K, a1, a2, a3⟩ := W.at_ j k b1 b2
    have e0 : hs.getD k 0 = h0 := by
      rw [Array.getD_eq_getD_getElem?, ← Array.getElem?_toList, a1]
      rfl
    refine ⟨K, ?_, fun k' hk' => ?_⟩
    · show way M (hs.getD k 0) K = j
      rw [e0]
      exact a2
    · show way M (hs.getD k 0) k' ∈ (liveOf M owner).map (·.1)
      rw [e0]
      obtain ⟨k2, z⟩ := Option.ne_none_iff_exists'.mp (a3 k' hk')
      exact List.mem_map.mpr ⟨(way M h0 k', k2), (mem_live W.sz).2 ⟨way_in h0 k', z⟩, rfl⟩
/-- the growths -/
theorem grow {m u : Nat} (g : Gm m) (ho : ∃ n, m + 1 = 2 ^ (2 * n + 1)) (h1 : (u - 1) * 5 < m * 3) (h2 : m * 3 ≤ u * 5) (h3 : u ≤ 4000) (h0 : 0 < u) :
    ∃ M, SetTable.sizeAbove (SetTable.grown u) - 1 = M ∧ Gm M ∧ (∃ n, M + 1 = 2 ^ (2 * n + 1)) ∧ SetTable.sizeAbove (SetTable.grown u) ≤ 8192 ∧ u * 5 < M * 3 := by
  obtain ⟨n, e⟩ := ho
  obtain ⟨b1, b2, _⟩ := g.bds
  have hn : n = 1 ∨ n = 2 ∨ n = 3 ∨ n = 4 ∨ n = 5 ∨ n = 6 := by
    rcases Nat.lt_or_ge n 7 with c | c
    · have : n ≠ 0 := fun z => by rw [z] at e; simp at e; omega
      omega
    · exfalso
      have : 2 ^ 15 ≤ 2 ^ (2 * n + 1) := Nat.pow_le_pow_right (by decide) (by omega)
      have h15 : (2 : Nat) ^ 15 = 32768 := by decide
      omega
  rcases hn with rfl | rfl | rfl | rfl | rfl | rfl
  · have em : m = 7 := by simpa using e
    subst em
    obtain rfl : u = 5 := by omega
    exact ⟨31, by decide +kernel, gm31, ⟨2, rfl⟩, by decide +kernel, by decide⟩
  · have em : m = 31 := by simpa using e
    subst em
    obtain rfl : u = 19 := by omega
    exact ⟨127, by decide +kernel, gm127, ⟨3, rfl⟩, by decide +kernel, by decide⟩
  · have em : m = 127 := by simpa using e
    subst em
    obtain rfl : u = 77 := by omega
    exact ⟨511, by decide +kernel, gm511, ⟨4, rfl⟩, by decide +kernel, by decide⟩
  · have em : m = 511 := by simpa using e
    subst em
    obtain rfl : u = 307 := by omega
    exact ⟨2047, by decide +kernel, gm2047, ⟨5, rfl⟩, by decide +kernel, by decide⟩
  · have em : m = 2047 := by simpa using e
    subst em
    obtain rfl : u = 1229 := by omega
    exact ⟨8191, by decide +kernel, gm8191, ⟨6, rfl⟩, by decide +kernel, by decide⟩
  · have em : m = 8191 := by simpa using e
    subst em
    omega
end SG

/-! ### sets of tuples of ints, up to 4000 -/
namespace SG
open PySem PySem.Spec PyProof.Rows L2
section
variable {P : Program} {w : World} {A : Around} {E : Value → Shared → Prop} {s : Shared}
/-- entries and table of a set whose items are L -/
structure SO (P : Program) (w : World) (L : List (Addr × List Int)) (es : Array (Int × Value)) (t : SetTable) : Prop where
  rows : es.toList = rowsOf P w L
  tab : TG t (L.map fun p => thash P w p.2)
  odd : ∃ n, t.mask + 1 = 2 ^ (2 * n + 1)
  nd : (L.map (·.2)).Nodup
  plain : t.plain = true
  led : w.params.followText "set-order" = true ∨ t.led = true
  room : L.length * 5 < t.mask * 3
variable {a : Addr} {L : List (Addr × List Int)} {es : Array (Int × Value)} {ep : Nat} {t : SetTable}
theorem rows_len {L : List (Addr × List Int)} {es : Array (Int × Value)} (h : es.toList = rowsOf P w L) : es.size = L.length := by
  have := congrArg List.length h
  simpa [rowsOf] using this
theorem rows_at {L : List (Addr × List Int)} {es : Array (Int × Value)} (h : es.toList = rowsOf P w L) {i : Nat} {p : Addr × List Int} (e : L[i]? = some p) : es[i]? = some (thash P w p.2, Value.ref p.1) := by
  rw [← Array.getElem?_toList, h]
  unfold rowsOf
  rw [List.getElem?_map, e]
  rfl
theorem fits_of {t : SetTable} {hs : List Int} (T : TG t hs) {n : Nat} (h1 : hs.length = n) (h2 : n ≤ t.mask) : t.fits n = true := by
  unfold SetTable.fits SetTable.fill
  rw [T.dm, T.size, h1]
  simp [h2]
theorem SO.fits (S : SO P w L es t) : t.fits es.size = true := by
  have := S.room
  exact fits_of S.tab (by rw [List.length_map, rows_len S.rows]) (by rw [rows_len S.rows]; omega)
theorem SO.gw (S : SO P w L es t) : ¬ t.gaveWay = true := by
  unfold SetTable.gaveWay
  rw [S.tab.g.bds.2.2]
  decide
/-- the tuples are there -/
def TK (P : Program) (w : World) (h : Heap) (L : List (Addr × List Int)) : Prop := ∀ p ∈ L, IsT P w h p.2 p.1
/-- the search for k from the c-th place of its way on -/
theorem search_go (S : SO P w L es t) {o : Obj} (ho : s.heap.get? a = some o) (hd : o.data = .set es ep t) (tk : TK P w s.heap L) {x : Addr} {k : List Int} (hx : IsT P w s.heap k x) (hu : A.units < cLine) {K : Nat}
    (hKf : K < 10 * SetTable.turns t.mask) (hK : way t.mask (thash P w k) K ∉ t.place.toList) (hb : ∀ c, c < K → way t.mask (thash P w k) c ∈ t.place.toList) {Q : SetFound → Shared → Prop}
    (hin : k ∈ L.map (·.2) → Q (.there none) s) (hout : k ∉ L.map (·.2) → Q (.free (way t.mask (thash P w k) K) false) s) : ∀ (f c : Nat) (sd : Option SetTable.Probe), sd.getD (t.probeStart (thash P w k)) = st t.mask (thash P w k) c → c ≤ K → K - c < f →
      (∀ (i : Nat) (p : Addr × List Int) (c' : Nat), L[i]? = some p → p.2 = k → c' < c → t.place.toList[i]? ≠ some (way t.mask (thash P w k) c')) → wpAny (model P w) A (setSearchFrom a (.ref x) (thash P w k) true f sd) Q E s := by
  intro f
  induction f with
  | zero => intro c sd _ _ h; exact absurd h (Nat.not_lt_zero _)
  | succ f ih =>
    intro c sd hsd hc hf inv
    have hat : ∀ (i : Nat) (h : Int), (L.map fun p => thash P w p.2)[i]? = some h → (es[i]?.map (·.1)).getD 0 = h := fun i h e => by
      rw [List.getElem?_map] at e
      obtain ⟨p, hp, rfl⟩ := Option.map_eq_some_iff.mp e
      rw [rows_at S.rows hp]
      rfl
    rw [setSearchFrom_succ]
    refine wpAny_bind (wpAny_setState_of ho hd S.fits ?_)
    dsimp only
    refine wp_if_neg S.gw ?_
    try refine wpAny_bind (wpAny_pure ?_)
    rw [hsd]
    rcases S.tab.probe (hashAt := fun i => (es[i]?.map (·.1)).getD 0) hat hKf hK hb hc with ⟨q, i, a1, a2, a3, a4, a5, pr⟩ | ⟨b1, pr⟩
    · rw [pr]
      dsimp only
      rw [List.getElem?_map] at a4
      obtain ⟨p, hp, hph⟩ := Option.map_eq_some_iff.mp a4
      have hpm : p ∈ L := List.mem_of_getElem? hp
      have goal : wpAny (model P w) A (searchRest a (.ref x) (thash P w k) true f es t (way t.mask (thash P w k) q) i (st t.mask (thash P w k) (q + 1))) Q E s := by
        unfold searchRest
        rw [rows_at S.rows hp]
        dsimp only
        refine wpAny_bind (wpAny_holding (wpAny_eqBool_tuple hu (tk p hpm) hx (wpAny_bind (wpAny_setState_of ho hd S.fits ?_))))
        dsimp only
        rcases Classical.em (p.2 = k) with hk | hk
        · exact wp_if_pos (by simp [hk]) (wpAny_pure (hin (List.mem_map.mpr ⟨p, hpm, hk⟩)))
        · refine wp_if_neg (by simp [hk]) ?_
          try refine wpAny_bind (wpAny_pure ?_)
          have hsl : t.slot (way t.mask (thash P w k) q) = .live i := slot_live S.tab.ris a3
          rw [sameMem]
          simp only [if_true, hsl, rows_at S.rows hp]
          refine wpAny_bind (wpAny_isSame_ref_self (wpAny_bind (wpAny_pure ?_)))
          simp only [if_true]
          refine wp_if_neg (by simp [hk]) (ih (q + 1) _ rfl a2 (by omega) fun j p' c' hj hk' hlt => ?_)
          rcases Nat.lt_or_ge c' c with z | z
          · exact inv j p' c' hj hk' z
          · rcases Nat.lt_or_ge c' q with y | y
            · exact a5 c' j z y (by rw [List.getElem?_map, hj, ← hk'] <;> rfl)
            · obtain rfl : c' = q := by omega
              intro e
              have e2 := slot_live S.tab.ris e
              rw [hsl] at e2
              injection e2 with e2
              subst e2
              rw [hp] at hj
              exact hk ((congrArg Prod.snd (Option.some.inj hj)).trans hk')
      by_cases hl : t.led = true
      · refine wp_if_neg (by simp [hl]) ?_
        try refine wpAny_bind (wpAny_pure ?_)
        exact goal
      · refine wp_if_pos (by simp [hl]) (wpAny_bind (seen_tup hx (fun y hy => ?_) ?_))
        · obtain ⟨e, he, rfl⟩ := List.mem_map.mp hy
          have he1 : e ∈ es := by
            have : e ∈ es ∧ e.1 = thash P w k := by simpa using he
            exact this.1
          have he : e ∈ rowsOf P w L := by
            rw [← S.rows]
            simpa using he1
          obtain ⟨p', hp', rfl⟩ := List.mem_map.mp he
          exact ⟨_, _, rfl, tk p' hp'⟩
        · refine wp_if_neg (by decide) ?_
          try refine wpAny_bind (wpAny_pure ?_)
          exact goal
    · rw [pr]
      dsimp only
      refine wpAny_pure (hout fun hm => ?_)
      obtain ⟨p, hp, hk⟩ := List.mem_map.mp hm
      obtain ⟨i, hi, e⟩ := List.getElem_of_mem hp
      have e1 : L[i]? = some p := by rw [List.getElem?_eq_getElem hi, e]
      have e2 : (L.map fun p => thash P w p.2)[i]? = some (thash P w k) := by rw [List.getElem?_map, e1, ← hk] <;> rfl
      have hil : i < t.place.toList.length := by rw [S.tab.sz, List.length_map]; exact hi
      have e3 := List.getElem?_eq_getElem hil
      obtain ⟨c', hc', e4⟩ := S.tab.ahead hK e2 e3
      rw [← e4] at e3
      rcases Nat.lt_or_ge c' c with z | z
      · exact inv i p c' e1 hk z e3
      · exact b1 c' i z hc' e2 e3
theorem search_set (S : SO P w L es t) {o : Obj} (ho : s.heap.get? a = some o) (hd : o.data = .set es ep t) (tk : TK P w s.heap L) {x : Addr} {k : List Int} (hx : IsT P w s.heap k x) (hu : A.units < cLine) {Q : SetFound → Shared → Prop}
    (hin : k ∈ L.map (·.2) → Q (.there none) s)
    (hout : ∀ K, k ∉ L.map (·.2) → way t.mask (thash P w k) K ∉ t.place.toList → (∀ c, c < K → way t.mask (thash P w k) c ∈ t.place.toList) → Q (.free (way t.mask (thash P w k) K) false) s) :
    wpAny (model P w) A (setSearch a (.ref x) (thash P w k) true) Q E s := by
  have hr := S.room
  have hm := S.tab.g.bds
  obtain ⟨K, h1, h2, h3⟩ := S.tab.hole (by rw [List.length_map]; omega) (thash P w k)
  have hz : K < 100000 := by unfold SetTable.turns at h1; omega
  unfold setSearch
  exact search_go S ho hd tk hx hu h1 h2 h3 hin (fun z => hout K z h2 h3) 100000 0 none rfl (Nat.zero_le _) (by omega) fun _ _ _ _ _ z => absurd z (Nat.not_lt_zero _)
/-- laid anew, larger -/
theorem relay_set {o : Obj} (ho : s.heap.get? a = some o) (hex : o.ExactSet) (hd : o.data = .set es ep t) (hrows : es.toList = rowsOf P w L) (T : TG t (L.map fun p => thash P w p.2)) (hfl : L.length ≤ t.mask) (nd : (L.map (·.2)).Nodup) (pl : t.plain = true)
    (ld : w.params.followText "set-order" = true ∨ t.led = true) {wanted M : Nat} (hw : SetTable.sizeAbove wanted - 1 = M) (g : Gm M) (ho' : ∃ n, M + 1 = 2 ^ (2 * n + 1)) (hw2 : SetTable.sizeAbove wanted ≤ 8192) (hn : L.length * 5 < M * 3) {Q : Unit → Shared → Prop}
    (hQ : ∀ h' L' es' ep' t' o', Heap.SameBut a s.heap h' → h'.get? a = some o' → o'.ExactSet → o'.data = .set es' ep' t' → SO P w L' es' t' → L'.Perm L → Q () { s with heap := h' }) : wpAny (model P w) A (setRelay a wanted) Q E s := by
  have hsl := rows_len hrows
  obtain ⟨t', order, e, hp, T', em, el, epl⟩ := lay_new t (hs := es.map (·.1)) hw g (by rw [Array.size_map, hsl]; omega)
  rw [Array.size_map, hsl] at hp
  obtain ⟨L2, r1, r2, r3⟩ := order_rows L es order hrows hp
  rw [← r3] at T'
  have hs2 : (order.filterMap (es[·]?)).size = es.size := by rw [rows_len r1, r2.length_eq, hsl]
  rw [setRelay_eq]
  refine wpAny_bind (wpAny_setState_of ho hd (fits_of T (by rw [List.length_map, hsl]) (by rw [hsl]; exact hfl)) ?_)
  dsimp only
  refine wp_if_neg (by rw [sizeLine_eq]; omega) ?_
  try refine wpAny_bind (wpAny_pure ?_)
  rw [e]
  dsimp only
  refine wpAny_bind (wp_if_neg (by rw [hs2]; simp) ?_)
  try refine wpAny_bind (wpAny_pure ?_)
  refine wpAny_pure ?_
  dsimp only
  have hM := g.bds
  refine wpAny_storeSet_of ho hd (hQ _ L2 _ (ep + 1) t' _ (Heap.SameBut.update ..) (store_at ho hd) ⟨hex.1, hex.2.1, hex.2.2⟩ rfl ⟨r1, T', em ▸ ho', (r2.map (·.2)).nodup_iff.mpr nd, epl.trans pl, by rw [el]; exact ld, by rw [r2.length_eq, em]; exact hn⟩ r2) ?_
  rw [hs2, hsl, sizeLine_eq]
  omega
theorem TK.same {h h' : Heap} {o : Obj} (tk : TK P w h L) (ho : h.get? a = some o) (hd : o.data = .set es ep t) (hs : Heap.SameBut a h h') : TK P w h' L := fun p hp => isT_same (tk p hp) ho hd hs
/-- the set at a -/
def SAt (P : Program) (w : World) (h : Heap) (a : Addr) (L : List (Addr × List Int)) : Prop := ∃ o es ep t, h.get? a = some o ∧ o.ExactSet ∧ o.data = .set es ep t ∧ SO P w L es t
/-- one more -/
theorem add_set (S : SAt P w s.heap a L) (tk : TK P w s.heap L) {x : Addr} {k : List Int} (hx : IsT P w s.heap k x) (hu : A.units < cLine) (hfew : k ∉ L.map (·.2) → L.length + 1 ≤ 4000) {Q : Bool → Shared → Prop}
    (hQ : ∀ b h' L', Heap.SameBut a s.heap h' → SAt P w h' a L' → (k ∈ L.map (·.2) → L' = L) → (k ∉ L.map (·.2) → L'.Perm ((x, k) :: L)) → Q b { s with heap := h' }) :
    wpAny (model P w) A (setAddHashed a (.ref x) (thash P w k)) Q E s := by
  obtain ⟨o, es, ep, t, ho, hex, hd, S⟩ := S
  unfold setAddHashed
  refine wpAny_holding ?_
  rw [show (100000 : Nat) = 99999 + 1 from rfl, setAddHashedIn_succ]
  refine wpAny_bind (wpAny_setState_of ho hd S.fits ?_)
  dsimp only
  refine wp_if_neg (by simp [byScan, Value.scannable]) ?_
  try refine wpAny_bind (wpAny_pure ?_)
  refine wpAny_bind (search_set S ho hd tk hx hu (fun hm => ?_) fun K hm hK hb => ?_)
  · exact wpAny_pure (hQ false s.heap L (Heap.SameBut.refl a s.heap) ⟨o, es, ep, t, ho, hex, hd, S⟩ (fun _ => rfl) fun z => absurd hm z)
  · dsimp only
    refine wpAny_bind (wpAny_setState_of ho hd S.fits ?_)
    dsimp only
    obtain ⟨p, t1, e1, e2, T1, em, el, epl, ef⟩ := S.tab.put hK hb
    rw [e1]
    dsimp only
    have hp1 : t1.plain = true := epl.trans S.plain
    first
      | (refine wpAny_bind ?_; refine wp_if_pos hp1 ?_; refine hashBy_tup hx ?_)
      | refine wp_if_pos hp1 (wpAny_bind (hashBy_tup hx ?_))
    simp only [if_true]
    have pm := put_perm L p (x, k)
    have hr1 : (SetTable.insertAt es p (thash P w k, Value.ref x)).toList = rowsOf P w (L.take p ++ (x, k) :: L.drop p) := by rw [SetTable.toList_insertAt, rows_put, S.rows]
    have T2 : TG t1 ((L.take p ++ (x, k) :: L.drop p).map fun q => thash P w q.2) := by
      rw [List.map_append, List.map_cons, List.map_take, List.map_drop]
      exact T1
    generalize SetTable.insertAt es p (thash P w k, Value.ref x) = es1 at hr1 ⊢
    generalize L.take p ++ (x, k) :: L.drop p = L1 at pm hr1 T2
    have hl1 : L1.length = L.length + 1 := pm.length_eq
    have hfew := hfew hm
    have hes := rows_len hr1
    have nd1 : (L1.map (·.2)).Nodup := (pm.map (·.2)).nodup_iff.mpr (List.nodup_cons.mpr ⟨hm, S.nd⟩)
    have ld1 : w.params.followText "set-order" = true ∨ t1.led = true := by rw [el]; exact S.led
    rw [List.length_map] at ef
    have ef2 : t1.tooFull = decide ((L.length + 1) * 5 ≥ t.mask * 3) := by unfold SetTable.tooFull; rw [ef, em]
    refine wpAny_bind (wpAny_storeSet_of ho hd ?_ (by rw [hes, sizeLine_eq]; omega))
    have sb : Heap.SameBut a s.heap (s.heap.update a (Obj.putSet es1 t1)) := Heap.SameBut.update ..
    have ho1 := store_at (es' := es1) (t' := t1) ho hd
    have hex1 : Obj.ExactSet { o with data := .set es1 (ep + 1) t1 } := ⟨hex.1, hex.2.1, hex.2.2⟩
    generalize s.heap.update a (Obj.putSet es1 t1) = h1 at sb ho1 ⊢
    have hroom := S.room
    by_cases hf : t1.tooFull = true
    · rw [ef2] at hf
      have hfull := of_decide_eq_true hf
      obtain ⟨M, m1, m2, m3, m4, m5⟩ := grow (u := L.length + 1) S.tab.g S.odd (by omega) hfull hfew (by omega)
      rw [rows_len S.rows]
      have go : wpAny (model P w) A (setRelay a (SetTable.grown (L.length + 1))) (fun _ s' => wpAny (model P w) A (pure true) Q E s') E { s with heap := h1 } :=
        relay_set (s := { s with heap := h1 }) ho1 hex1 rfl hr1 T2 (by rw [hl1, em]; omega) nd1 hp1 ld1 m1 m2 m3 m4 (by rw [hl1]; exact m5) fun h2 L2 es2 ep2 t2 o2 sb2 ho2 hex2 hd2 S2 pm2 =>
          wpAny_pure (hQ true h2 L2 (sb.trans sb2) ⟨o2, es2, ep2, t2, ho2, hex2, hd2, S2⟩ (fun z => absurd z hm) fun _ => pm2.trans pm)
      first
        | (refine wpAny_bind ?_; refine wp_if_pos (by simp [ef2, hf]) ?_; exact go)
        | (refine wp_if_pos (by simp [ef2, hf]) ?_; refine wpAny_bind ?_; exact go)
    · first
        | refine wp_if_neg (by simp [hf]) ?_
        | (refine wpAny_bind ?_; refine wp_if_neg (by simp [hf]) ?_; refine wpAny_pure ?_)
      rw [ef2, decide_eq_true_eq] at hf
      exact wpAny_pure (hQ true h1 L1 sb ⟨_, es1, ep + 1, t1, ho1, hex1, rfl, ⟨hr1, T2, em ▸ S.odd, nd1, hp1, ld1, by rw [hl1, em]; omega⟩⟩ (fun z => absurd z hm) fun _ => pm)
end
end SG

/-! ### set(xs), xs a list of up to 4000 tuples of ints -/
namespace SG
open PySem PySem.Spec PyProof.Rows L2
section
variable {P : Program} {w : World} {A : Around} {E : Value → Shared → Prop} {s : Shared}
theorem TK.keep {h h' : Heap} {L : List (Addr × List Int)} (tk : TK P w h L) (k : ∀ b o, h.get? b = some o → h'.get? b = some o) : TK P w h' L := fun p hp => isT_keep (tk p hp) k
/-- no more than 4000 different ones -/
def Few (ks : List (Addr × List Int)) : Prop := ∀ M : List (List Int), M.Nodup → (∀ k ∈ M, k ∈ ks.map (·.2)) → M.length ≤ 4000
theorem sat_nd {h : Heap} {a : Addr} {L : List (Addr × List Int)} (S : SAt P w h a L) : (L.map (·.2)).Nodup := by
  obtain ⟨_, _, _, _, _, _, _, so⟩ := S
  exact so.nd
/-- the loop: W walks over the items, h0 is the heap before -/
theorem upd_loop {I : Addr} {fp wr : List Addr} {G : Array GenState → Array GenState → Prop} {Pv : Nat → Value → Prop} {St : Nat → Shared → Prop} {ks : List (Addr × List Int)} (W : WalksS P w A.in1 I fp wr G ks.length Pv St) {S : Addr} (hSf : S ∉ fp) (hfew : Few ks)
    (hval : ∀ i v, Pv i v → ∃ p, ks[i]? = some p ∧ v = .ref p.1) {h0 : Heap} (hk : TK P w h0 ks) (hS0 : h0.get? S = none) (hw0 : ∀ b ∈ wr, h0.get? b = none) (hu : A.in1.units < cLine) {R : Result → Shared → Prop} :
    ∀ (r i : Nat) (s : Shared) (L : List (Addr × List Int)), i + r = ks.length → St i s → (∀ b o, h0.get? b = some o → s.heap.get? b = some o) → SAt P w s.heap S L → Got ks i L →
      (∀ s' L', Moved (S :: wr) G s s' → SAt P w s'.heap S L' → Got ks ks.length L' → (∀ b o, h0.get? b = some o → s'.heap.get? b = some o) → R (.ok (.ret .none)) s') →
      codeAny (model P w) A (.builtin "set.update.loop" ⟨[.ref S, .ref I], []⟩) R s := by
  have up : ∀ b ∈ wr, b ∈ S :: wr := fun b hb => List.mem_cons_of_mem _ hb
  have hSw : S ∉ wr := fun z => hSf (W.sub _ z)
  have old : ∀ {s s' : Shared}, Moved wr G s s' → (∀ b o, h0.get? b = some o → s.heap.get? b = some o) → ∀ b o, h0.get? b = some o → s'.heap.get? b = some o := fun m kp b o e =>
    m.heap b o (fun z => nomatch (hw0 b z).symm.trans e) (kp b o e)
  have stay : ∀ {s s' : Shared} {L : List (Addr × List Int)}, Moved wr G s s' → SAt P w s.heap S L → SAt P w s'.heap S L := fun m ⟨o, es, ep, t, ho, q⟩ => ⟨o, es, ep, t, m.heap S o hSw ho, q⟩
  intro r
  induction r with
  | zero =>
    intro i s L hi hst kp hS g hR
    have hi : i = ks.length := hi
    subst hi
    refine codeAny_builtin F.entry_set_update_loop ?_
    rw [Around.under_plainId F.plain_set_update_loop _]
    show wpAny _ A.in1 (pyNext (.ref I) >>= _) _ _ s
    refine wpAny_bind (W.done s _ _ hst fun s' hm => ?_)
    show wpAny _ A.in1 (ret Value.none) _ _ s'
    exact wpAny_pure (hR s' L (hm.mono up) (stay hm hS) g (old hm kp))
  | succ r ih =>
    intro i s L hi hst kp hS g hR
    refine codeAny_builtin F.entry_set_update_loop ?_
    rw [Around.under_plainId F.plain_set_update_loop _]
    show wpAny _ A.in1 (pyNext (.ref I) >>= _) _ _ s
    refine wpAny_bind (W.item i s _ _ (by omega) hst fun v s1 hP hst1 hm => ?_)
    obtain ⟨p, hp, rfl⟩ := hval i v hP
    have kp1 := old hm kp
    have tk1 : TK P w s1.heap ks := hk.keep kp1
    have tkL : TK P w s1.heap L := fun q hq => tk1 q (List.mem_of_mem_take (g.sub q hq))
    have hx := tk1 p (List.mem_of_getElem? hp)
    show wpAny _ A.in1 (holding [Value.ref p.1] (setAdd S (.ref p.1)) >>= _) _ _ s1
    refine wpAny_bind (wpAny_holding ?_)
    unfold setAdd
    refine wpAny_holding (wpAny_bind (wpAny_pyHash_tuple hu hx ?_))
    have sub : ∀ k ∈ L.map (·.2), k ∈ ks.map (·.2) := fun k hk => by
      obtain ⟨q, hq, rfl⟩ := List.mem_map.mp hk
      exact List.mem_map.mpr ⟨q, List.mem_of_mem_take (g.sub q hq), rfl⟩
    refine add_set (s := { s1 with toks := s1.toks + (p.2.length + 1) }) (show SAt P w s1.heap S L from stay hm hS) tkL hx hu (fun c => by
      have := hfew (p.2 :: L.map (·.2)) (List.nodup_cons.mpr ⟨c, sat_nd hS⟩) fun k hk => by
        rcases List.mem_cons.mp hk with z | z
        · rw [z]
          exact List.mem_map.mpr ⟨p, List.mem_of_getElem? hp, rfl⟩
        · exact sub k z
      rwa [List.length_cons, List.length_map] at this) fun b h2 L2 sb hS2 c1 c2 => ?_
    have hne : ∀ b o, h0.get? b = some o → b ≠ S := fun b o e z => by rw [z, hS0] at e; cases e
    refine wpAny_pure ⟨plainId_quiet F.plain_set_update_loop _, ih (i + 1) _ L2 (by omega) (W.frame _ s1 _ _ hst1 (Nat.le_add_right _ _) fun b hb o e => ?_) (fun b o e => (sb.2 b (hne b o e)).trans (kp1 b o e)) hS2 ?_ fun s3 L3 hm3 hS3 g3 kp3 => ?_⟩
    · exact (sb.2 b fun z => hSf (z ▸ hb)).trans e
    · rcases Classical.em (p.2 ∈ L.map (·.2)) with c | c
      · exact c1 c ▸ g.same hp c
      · exact g.more hp (c2 c)
    · refine hR s3 L3 (Moved.trans W.gtrans ((hm.mono up).then_heap (Nat.le_add_right _ _) fun b o hb e => ?_) hm3) hS3 g3 kp3
      exact (sb.2 b fun z => hb (z ▸ List.mem_cons_self)).trans e
/-- the empty set object -/
abbrev mtSet (w : World) : Obj := { cls := .type "set", dict := none, data := .set #[] 0 (.fresh 0 0 (!w.params.followText "set-order")) }
theorem sat_new {h : Heap} {a : Addr} (e : h.get? a = some (mtSet w)) : SAt P w h a [] := by
  refine ⟨_, _, _, _, e, ⟨rfl, rfl, rfl⟩, rfl, ⟨rfl, ⟨gm7, List.Pairwise.nil, rfl, rfl, fun q hq => ?_⟩, ⟨1, rfl⟩, List.nodup_nil, rfl, ?_, by show 0 * 5 < 7 * 3; decide⟩⟩
  · cases hq
  · show _ ∨ (!w.params.followText "set-order") = true
    cases w.params.followText "set-order"
    · exact .inr rfl
    · exact .inl rfl
theorem call_set_many {l : Addr} {items : Array Value} {ks : List (Addr × List Int)} {Q : Value → Shared → Prop} (hh : A.handled = none) (hl : s.heap.IsList l items) (hit : items.toList = ks.map fun p => Value.ref p.1) (hk : TK P w s.heap ks) (hfew : Few ks) (hu : A.units + 3 < cLine)
    (h : ∀ (h' : Heap) (tk : Nat) L, SAt P w h' s.heap.objs.size L → Got ks ks.length L → (∀ b o, s.heap.get? b = some o → h'.get? b = some o) → Q (.ref s.heap.objs.size) { s with heap := h', toks := tk }) :
    wpAny (model P w) A (call (.type "set") [.ref l]) Q E s := by
  have hisz : items.size = ks.length := by
    have q := congrArg List.length hit
    rwa [Array.length_toList, List.length_map] at q
  obtain ⟨c, tl, hmro⟩ := F.called_set.mro
  have hmade := F.called_set.made
  have hsub := F.called_set.sub
  have h1 := F.called_set.notType
  have h2 := F.called_set.canCreate
  have hct := F.typeCall_set_1 (.ref l)
  refine wpAny_call (codeAny_of_tree ?_)
  show wpAny _ _ (callAny (.type "set") _) _ _ _
  refine wpAny_pure ⟨Code.quiet_builtin _ (by decide +kernel), codeAny_builtin F.entry_type_call ?_⟩
  rw [Around.under_plain (weight_type_call_type "set" [.ref l] []) rfl]
  repeat (any_goals (first | assumption | wp_step))
  refine codeAny_mono (code_set_led1 (.ref l) (E := E) (Q₁ := fun obj s₁ => obj = .ref s.heap.objs.size ∧ s₁ = { s with heap := s.heap.push (mtSet w) }) ⟨rfl, rfl⟩) fun r s₁ hr => ?_
  cases r with
  | error e => exact hr
  | ok fl =>
    cases fl with
    | ret obj =>
      obtain ⟨rfl, rfl⟩ := hr
      have hS : (s.heap.push (mtSet w)).get? s.heap.objs.size = some (mtSet w) := Heap.get?_push_size _ rfl
      have hT : Shared.TypeIs { s with heap := s.heap.push (mtSet w) } (.ref s.heap.objs.size) "set" := ⟨_, hS, rfl⟩
      have hli := F.called_set.init.lookup
      have hbi := F.called_set.init.bind (.ref s.heap.objs.size)
      repeat (any_goals (first | assumption | wp_step))
      refine codeAny_mono (codeAny_call_builtin (R := wants (fun r s₂ => r = .none ∧ ∃ h' tk L, s₂ = { s with heap := h', toks := tk } ∧ SAt P w h' s.heap.objs.size L ∧ Got ks ks.length L ∧ ∀ b o, s.heap.get? b = some o → h'.get? b = some o) E) F.called_set.init.plain F.entry_set_init (check_set_init_1 hT ?_)) fun r₂ s₂ hr₂ => ?_
      · have hl1 : (s.heap.push (mtSet w)).IsList l items := hl.push _
        obtain ⟨⟨ocls, odict, odata, oslots⟩, hol, hcl, nl, hdl⟩ := hl
        simp only at hcl hdl
        subst hcl hdl
        have hol' : (s.heap.push (mtSet w)).get? l = some { cls := .type "list", dict := odict, data := .seq items nl, slots := oslots } := Heap.get?_push_of_some _ hol
        have hsls := F.sub_list_set
        have hslf := F.sub_list_frozenset
        have hne : (Value.type "list" == Value.type "dict") = false := by decide
        unfold Builtin.«set.__init__» noKeywords Builtin.Frozenset.updateFrom
        generalize hPI : pyIter = PI
        wp_walk
        subst hPI
        refine wpAny_pyIter_list hl1 (wpAny_bind (wpAny_runValue ?_))
        have hlS : l < s.heap.objs.size := Heap.lt_size hol
        have hsz : (s.heap.push (mtSet w)).objs.size = s.heap.objs.size + 1 := Heap.size_push ..
        have hval : ∀ (i : Nat) (v : Value), items[i]? = some v → ∃ p, ks[i]? = some p ∧ v = .ref p.1 := fun i v hv => by
          rw [← Array.getElem?_toList, hit, List.getElem?_map] at hv
          obtain ⟨p, hp, e⟩ := Option.map_eq_some_iff.mp hv
          exact ⟨p, hp, e.symm⟩
        have gone : ∀ b, s.heap.objs.size ≤ b → s.heap.get? b = none := fun b hb => by
          cases q : s.heap.get? b with
          | none => rfl
          | some o => exact absurd (Heap.lt_size q) (Nat.not_lt.mpr hb)
        have hn1 : l ≠ (s.heap.push (mtSet w)).objs.size := by rw [hsz]; exact Nat.ne_of_lt (Nat.lt_succ_of_lt hlS)
        have hn2 : s.heap.objs.size ∉ [(s.heap.push (mtSet w)).objs.size, l] := by
          rw [hsz]
          simp only [List.mem_cons, List.not_mem_nil, or_false, not_or]
          exact ⟨Nat.ne_of_lt (Nat.lt_succ_self _), Nat.ne_of_gt hlS⟩
        have WW := (Walks.list (prog := P) (w := w) (A := A.in1.in1.in1) (by simp [hh]) (s.heap.push (mtSet w)).objs.size l hn1 items).toS
        rw [hisz] at WW
        refine upd_loop WW hn2 hfew hval hk (gone _ (Nat.le_refl _)) (fun b hb => gone b (by
            rw [List.mem_singleton.mp hb, hsz]
            exact Nat.le_succ _)) hu ks.length 0 _ [] (by omega)
          ⟨⟨_, Heap.get?_push_size _ rfl, rfl, rfl⟩, hl1.push _⟩ (fun b o e => Heap.get?_push_of_some _ (Heap.get?_push_of_some _ e)) (sat_new (Heap.get?_push_of_some _ hS)) (Got.zero ks) fun s' L' hm hS' g' kp => ?_
        obtain ⟨h', g2, d', tk', os'⟩ := s'
        obtain rfl : g2 = s.gens := hm.gens
        obtain rfl : d' = s.drawn := hm.drawn
        obtain rfl : os' = s.os := hm.os
        show wpAny _ _ _ _ _ _
        refine wpAny_pure ?_
        show wpAny _ _ (ret Value.none) _ _ _
        exact wpAny_pure ⟨rfl, h', tk', L', rfl, hS', g', kp⟩
      · cases r₂ with
        | error e => exact hr₂
        | ok fl₂ =>
          cases fl₂ with
          | ret r =>
            obtain ⟨rfl, h', tk, L', rfl, hS', g', kp⟩ := hr₂
            repeat (any_goals (first | assumption | wp_step))
            exact h _ _ _ hS' g' kp
          | _ => exact hr₂.elim
    | _ => exact hr.elim
end
end SG

/-! ### sorted(set(xs)), xs a list of fewer than 64 pairs of small ints -/
namespace DL
open PySem PySem.Spec PyProof.Rows L2
/-- a pair's place among all -/
def pcode : List Int → Option Int
  | [x, y] => if (0 ≤ x ∧ x < 64) ∧ (0 ≤ y ∧ y < 64) then some (x * 64 + y) else none
  | _ => none
def pback (c : Int) : List Int := [c / 64, c % 64]
theorem pcode_ok {ns : List Int} {c : Int} (h : pcode ns = some c) : ns.length = 2 ∧ TS.Bd 64 ns ∧ TS.code 64 ns = c ∧ pback c = ns := by
  match ns, h with
  | [x, y], h =>
    have h : (if (0 ≤ x ∧ x < 64) ∧ (0 ≤ y ∧ y < 64) then some (x * 64 + y) else none) = some c := h
    split at h
    · next b =>
      cases h
      refine ⟨rfl, fun m hm => ?_, code_pair x y, ?_⟩
      · simp only [List.mem_cons, List.not_mem_nil, or_false] at hm
        rcases hm with rfl | rfl
        · exact b.1
        · exact b.2
      · show [(x * 64 + y) / 64, (x * 64 + y) % 64] = [x, y]
        congr 1
        · omega
        · congr 1
          omega
    · cases h
  | [], h => cases h
  | [_], h => cases h
  | _ :: _ :: _ :: _, h => cases h
def pcodes : List (List Int) → Option (List Int)
  | [] => some []
  | ns :: r => (pcode ns).bind fun c => (pcodes r).map (c :: ·)
theorem pcodes_ok : ∀ {nss : List (List Int)} {cs : List Int}, pcodes nss = some cs → cs.map pback = nss ∧ ∀ ns ∈ nss, ∃ c ∈ cs, pcode ns = some c
  | [], cs, e => by cases e; exact ⟨rfl, fun ns h => (nomatch h)⟩
  | ns :: r, cs, e => by
    have e : ((pcode ns).bind fun c => (pcodes r).map (c :: ·)) = some cs := e
    cases c1 : pcode ns with
    | none => rw [c1] at e; cases e
    | some c =>
      cases c2 : pcodes r with
      | none => rw [c1, c2] at e; cases e
      | some ds =>
        rw [c1, c2] at e
        cases e
        obtain ⟨h1, h2⟩ := pcodes_ok c2
        refine ⟨by rw [List.map_cons, (pcode_ok c1).2.2.2, h1], fun ms hm => ?_⟩
        rcases List.mem_cons.mp hm with rfl | hm
        · exact ⟨c, List.mem_cons_self, c1⟩
        · obtain ⟨d, hd, e⟩ := h2 ms hm
          exact ⟨d, List.mem_cons_of_mem _ hd, e⟩
def fSrtST : List Vw → Option Rv
  | [.ob (.lst ds)] => (D.intss ds).bind fun nss => (pcodes nss).bind fun cs => if cs.length < 64 then some (.own (.lst ((sortU cs).map fun c => intsD (pback c)))) else none
  | _ => none
def rSrtST (K : PySem.W.Frag) (P : Program) (w : World) : List V → Hp → VK → Prop := fun vs H Q => rSetOfT K P w vs H fun v H1 => rSortedT K P w [v] H1 Q
variable [Tbs]
theorem sd_srtST {K : PySem.W.Frag} {cad : Str → Addr} {P : Program} {w : World} : SdB K cad (rSrtST K P w) fSrtST := by
  intro F ι μ H ws vs rv Q rs hw e q
  unfold fSrtST at e
  split at e
  · next ds =>
    cases c : D.intss ds with
    | none => simp [c] at e
    | some nss =>
      cases c2 : pcodes nss with
      | none => simp [c, c2] at e
      | some cs =>
        simp only [c, c2, Option.bind_some] at e
        split at e
        · next h64 =>
          cases e
          obtain ⟨v, rfl, a, rfl, us, e1, r⟩ := pr1 hw
          obtain ⟨k, k1, k2⟩ := intss_k rs r c
          obtain ⟨p1, p2⟩ := pcodes_ok c2
          have hcl : cs.length = us.length := by
            have h1 := congrArg List.length p1
            have h2 := congrArg List.length k1
            rw [List.length_map] at h1 h2
            omega
          -- the items with their ints
          let ad : V → Addr := fun x => match x with | .ref t => t | _ => 0
          have had : ∀ x ∈ us, x = V.ref (ad x) := fun x hx => by
            obtain ⟨t, rfl, _⟩ := k2 x hx
            rfl
          have hm : (us.map fun x => (ad x, k x)).map (fun p => V.ref p.1) = us := by
            rw [List.map_map]
            conv => rhs; rw [← List.map_id us]
            exact List.map_congr_left fun x hx => (had x hx).symm
          have hF : ∀ p ∈ us.map (fun x => (ad x, k x)), F p.1 = some (.tup (p.2.map V.int)) ∧ p.2 ≠ [] ∧ ∃ c ∈ cs, pcode p.2 = some c := fun p hp => by
            obtain ⟨x, hx, rfl⟩ := List.mem_map.mp hp
            obtain ⟨t, rfl, f2, f3⟩ := k2 x hx
            exact ⟨f2, f3, p2 _ (by rw [← k1]; exact List.mem_map.mpr ⟨_, hx, rfl⟩)⟩
          have hc : ∀ c ∈ cs, ∃ p ∈ us.map (fun x => (ad x, k x)), pcode p.2 = some c := fun c hcm => by
            have hb : pback c ∈ nss := by rw [← p1]; exact List.mem_map.mpr ⟨c, hcm, rfl⟩
            rw [← k1] at hb
            obtain ⟨x, hx, e⟩ := List.mem_map.mp hb
            obtain ⟨c', hc', e'⟩ := p2 (k x) (by rw [← k1]; exact List.mem_map.mpr ⟨x, hx, rfl⟩)
            have e2 := (pcode_ok e').2.2.2
            rw [e] at e2
            have h1 : c' / 64 = c / 64 := by injection e2
            have h2 : c' % 64 = c % 64 := by injection e2 with _ z; injection z
            have : c' = c := by omega
            subst this
            exact ⟨_, List.mem_map.mpr ⟨x, hx, rfl⟩, e'⟩
          refine ⟨a, us.map fun x => (ad x, k x), rfl, by rw [hm]; exact SqL.of e1, fun p hp => SqT.of (rs.sub _ _ (hF p hp).1), by rw [List.length_map]; omega, fun b L hb hL1 hL2 => ?_⟩
          have sT : ∀ p ∈ L, F p.1 = some (.tup (p.2.map V.int)) := fun p hp => (hF p (hL1 p hp)).1
          have ne : ∀ p ∈ L, p.1 ≠ b := fun p hp z => by
            have := rs.sub _ _ (sT p hp)
            rw [z, hb] at this
            cases this
          refine ⟨b, L, 2, 64, rfl, upd_same, fun p hp => SqT.of (by rw [upd_ne (ne p hp)]; exact rs.sub _ _ (sT p hp)), by omega, fun p hp => ?_, fun L' p' hpm hnd _ hpw hp' => ?_⟩
          · obtain ⟨_, _, c, _, e⟩ := hF p (hL1 p hp)
            exact ⟨(pcode_ok e).1, (pcode_ok e).2.1⟩
          · have cd : ∀ p ∈ L', ∃ c ∈ cs, pcode p.2 = some c := fun p hp => (hF p (hL1 p (hpm.mem_iff.mp hp))).2.2
            have hmm : L'.map (fun p => TS.code 64 p.2) = sortU cs := by
              refine lt_uniq ?_ (sortU_lt cs) fun z => ?_
              · refine List.pairwise_map.mpr ?_
                have h1 : L'.Pairwise fun q r => TS.code 64 q.2 ≤ TS.code 64 r.2 := hpw
                have h2 : L'.Pairwise fun q r => q.2 ≠ r.2 := List.pairwise_map.mp hnd
                refine (h1.and h2).imp_of_mem fun {q r} hq hr ⟨x1, x2⟩ => ?_
                obtain ⟨c1, _, e1⟩ := cd q hq
                obtain ⟨c2, _, e2⟩ := cd r hr
                have := (pcode_ok e1).2.2
                have := (pcode_ok e2).2.2
                rcases Int.lt_or_eq_of_le x1 with z | z
                · exact z
                · exfalso
                  refine x2 ?_
                  rw [← (pcode_ok e1).2.2.2, ← (pcode_ok e2).2.2.2, ← (pcode_ok e1).2.2.1, ← (pcode_ok e2).2.2.1, z]
              · rw [sortU_mem]
                constructor
                · intro hz
                  obtain ⟨p, hp, rfl⟩ := List.mem_map.mp hz
                  obtain ⟨c, hc1, e⟩ := cd p hp
                  rw [(pcode_ok e).2.2.1]
                  exact hc1
                · intro hz
                  obtain ⟨p, hp, e⟩ := hc z hz
                  obtain ⟨q, hq, e2⟩ := List.mem_map.mp (hL2 p hp)
                  refine List.mem_map.mpr ⟨q, hpm.mem_iff.mpr hq, ?_⟩
                  rw [e2, (pcode_ok e).2.2.1]
            have hrow : ∀ {M : List (Addr × List Int)}, (∀ p ∈ M, F p.1 = some (.tup (p.2.map V.int)) ∧ ∃ c, pcode p.2 = some c) → VRs K cad ι F ((M.map fun p => TS.code 64 p.2).map fun c => intsD (pback c)) (M.map fun q => V.ref q.1) := fun {M} => by
              induction M with
              | nil => exact fun _ => rfl
              | cons p M ih =>
                intro hM
                obtain ⟨f, c, e⟩ := hM p List.mem_cons_self
                refine ⟨_, _, rfl, ?_, ih fun q hq => hM q (List.mem_cons_of_mem _ hq)⟩
                show VR K cad ι F (intsD (pback (TS.code 64 p.2))) _
                rw [(pcode_ok e).2.2.1, (pcode_ok e).2.2.2]
                exact VR.tup_.mpr ⟨p.1, _, rfl, f, ints_D⟩
            have hr := hrow (M := L') fun p hp => ⟨sT p (hpm.mem_iff.mp hp), by obtain ⟨c, _, e⟩ := cd p hp; exact ⟨c, e⟩⟩
            rw [hmm] at hr
            have rs1 := rs.newH (o := SetTO P w b L) hb
            have hne : p' ≠ b := fun z => by rw [z, upd_same] at hp'; cases hp'
            have hp2 : H p' = none := by rw [upd_ne hne] at hp'; exact hp'
            exact q F ι _ _ ((Ext.newH hb).trans (Ext.newH hp')) (rs1.newH hp') ⟨p', _, rfl, (rs.fresh hp2).1, (rs.fresh hp2).2, hp2, upd_same, _, rfl, hr⟩
        · cases e
  · cases e
theorem de_srtST {X : Cx} {cad : Str → Addr} {W : WX} {m : ME} {a : Expr} {p p2 q pos : Pos} (hc : X.calm = true) (hu : X.A.units + 100 < cLine) (hg : Gl X "sorted") (hm : X.mg "sorted" = none) (hg2 : Gl X "set") (hm2 : X.mg "set" = none) (ha : PE X a (tE X.K cad W m))
    (h1 : starEach [a] X.env = (false, eval a X.env) :: starEach [] X.env := by rfl) (h2 : starEach [.Call (.Name "set" p2) [a] [] q] X.env = (false, eval (.Call (.Name "set" p2) [a] [] q) X.env) :: starEach [] X.env := by rfl) :
    PE X (.Call (.Name "sorted" p) [.Call (.Name "set" p2) [a] [] q] [] pos) (tE X.K cad W (eCB fSrtST (oCons m oNil))) := by
  have i1 : PE X (.Call (.Name "set" p2) [a] [] q) (tCB (rSetOfT X.K X.prog X.w) (tOs X.K cad W (oCons m oNil))) := pe_callTy (cr_setOfT hc (by omega)) hg2 hm2 boot_set (do_cons ha do_nil h1) (by decide) (by decide) h1 rfl
  refine pe_imp (pe_callB (cr_sortedT hc) hg hm boot_sorted (pa_cons i1 pa_nil h2) (by decide) (by decide) h2 rfl) fun σ H Q h => ?_
  exact eCB_ok (r := rSrtST X.K X.prog X.w) sd_srtST h
end DL

/-! ### sorted(set(xs)), xs a list of up to 4000 tuples of ints -/
namespace SG
open PySem PySem.Spec PyProof.Rows L2 Srt SrtO SrtT
theorem perm_map {α β : Type} {f : α → β} {l m : List β} (h : l.Perm m) : ∀ L : List α, m = L.map f → ∃ L' : List α, l = L'.map f ∧ L'.Perm L := by
  induction h with
  | nil => intro L e; exact ⟨[], rfl, by rw [List.map_eq_nil_iff.mp e.symm]⟩
  | cons x h ih =>
    intro L e
    obtain ⟨y, L1, rfl, rfl, e2⟩ := List.map_eq_cons_iff.mp e.symm
    obtain ⟨L', rfl, p⟩ := ih L1 e2.symm
    exact ⟨y :: L', rfl, p.cons y⟩
  | swap x y l =>
    intro L e
    obtain ⟨u, L1, rfl, rfl, e2⟩ := List.map_eq_cons_iff.mp e.symm
    obtain ⟨v, L2, rfl, rfl, rfl⟩ := List.map_eq_cons_iff.mp e2
    exact ⟨v :: u :: L2, rfl, List.Perm.swap u v L2⟩
  | trans h1 h2 i1 i2 =>
    intro L e
    obtain ⟨L1, e1, p1⟩ := i2 L e
    obtain ⟨L2, e2, p2⟩ := i1 L1 e1
    exact ⟨L2, e2, p2.trans p1⟩
section
variable {P : Program} {w : World} {A : Around} {E : Value → Shared → Prop} {s : Shared}
theorem sorted_sat {a : Addr} {L : List (Addr × List Int)} {Q : Value → Shared → Prop} (S : SAt P w s.heap a L) (tk : TK P w s.heap L) (hne : ∀ p ∈ L, p.2 ≠ []) (hfew : L.length ≤ 4000) (hh : A.handled = none)
    (hQ : ∀ s' p (out : List Value) (c : Nat) (L' : List (Addr × List Int)), (∀ b o, s.heap.get? b = some o → s'.heap.get? b = some o) → s'.gens = s.gens → s'.os = s.os → s.heap.objs.size ≤ p →
      s'.heap.get? p = some (seqObj "list" out.toArray c) → out = L'.map (fun q => Value.ref q.1) → L'.Perm L → L'.Pairwise (fun q r => HT.lexLt r.2 q.2 = false) → Q (.ref p) s') :
    wpAny (model P w) A (call (.builtin "sorted") [.ref a]) Q E s := by
  obtain ⟨o, es, ep, t, ho, hex, hd, S⟩ := S
  have hsz := rows_len S.rows
  refine Calls.call_function_entry kind_sorted plain_sorted entry_sorted (args_sorted1 _) ?_
  unfold Builtin.«sorted»
  refine wpAny_bind (m := checkCount "sorted" 1 1 _) (wpAny_pure ?_)
  refine wpAny_bind (collect_set (A := A.in1) hh ⟨o, ho, hex.1, hd⟩ S.fits (by unfold scanBound; omega) S.tab.ris S.led fun s1 vs k1 hz g1 o1 pm => ?_)
  have hes : es.toList.map (·.2) = L.map fun q => Value.ref q.1 := by
    rw [S.rows]
    unfold rowsOf
    rw [List.map_map]
    rfl
  rw [hes] at pm
  have hvl : vs.length ≤ sizeLine := by rw [pm.length_eq, List.length_map, sizeLine_eq]; omega
  refine wpAny_bind (wpAny_newList ?_ hvl)
  have hoL : (s1.heap.push (seqObj "list" vs.toArray 0)).get? s1.heap.objs.size = some (seqObj "list" vs.toArray 0) := Heap.get?_push_size _ rfl
  let k : Value → List Int := TS.intsOf s.heap
  have ti : ∀ q ∈ L, TI s.heap (.ref q.1) q.2 := fun q hq => tupInts_of (P := P) (w := w) (tk q hq)
  have hp : ∀ v ∈ vs, TI s.heap v (k v) ∧ k v ≠ [] := fun v hv => by
    obtain ⟨q, hq, rfl⟩ := List.mem_map.mp (pm.mem_iff.mp hv)
    have e : k (.ref q.1) = q.2 := (ti q hq).ints
    rw [e]
    exact ⟨ti q hq, hne q hq⟩
  have kp : ∀ b o, s.heap.get? b = some o → (s1.heap.push (seqObj "list" vs.toArray 0)).get? b = some o := fun b o e => Heap.get?_push_of_some _ (k1 b o e)
  refine wpAny_bind (wpAny_holding (wpAny_call_entry slot_list_sort ⟨_, hoL, rfl⟩ entry_list_sort (list_sort_ord (s := { s1 with heap := s1.heap.push (seqObj "list" vs.toArray 0) }) (swo_lexLt k) hoL hvl (fun h2 => ?_) fun out hs hb => ⟨_, rfl, ?_⟩) (args_list_sort _)))
  · refine tups_sortable (by omega) (fun v hm => ⟨(hp v hm).1.keeps fun b o e _ => kp b o e, (hp v hm).2⟩) fun o e => ?_
    have e' : some o = some (seqObj "list" vs.toArray 0) := e.symm.trans hoL
    cases e'
    intro c
    exact absurd (Value.type.inj c) (by decide)
  · obtain ⟨L', e', p'⟩ := perm_map (hb.perm.trans pm) L rfl
    obtain ⟨c, hc⟩ := sortedHeap_at (vs := vs) (out := out.toArray) hoL
    refine wpAny_pure ⟨_, rfl, hQ _ s1.heap.objs.size out c L' (fun b u e => ?_) g1 o1 hz hc e' p' ?_⟩
    · have q := k1 b u e
      have hlt := Heap.lt_size q
      show (sortedHeap (s1.heap.push (seqObj "list" vs.toArray 0)) s1.heap.objs.size vs out.toArray).get? b = some u
      rw [sortedHeap_old (Nat.ne_of_lt hlt) (by rw [size_push']; exact Nat.lt_succ_of_lt hlt)]
      exact Heap.get?_push_of_some _ q
    · have hs : out.Pairwise fun a b => HT.lexLt (k b) (k a) = false := hs
      rw [e'] at hs
      refine List.Pairwise.imp_of_mem (fun {q r} hq hr h => ?_) (List.pairwise_map.mp hs)
      have e1 : k (.ref q.1) = q.2 := (ti q (p'.mem_iff.mp hq)).ints
      have e2 : k (.ref r.1) = r.2 := (ti r (p'.mem_iff.mp hr)).ints
      rw [e1, e2] at h
      exact h
end
section
variable {X : Cx}
/-- sorted(set(l)) -/
def rSetM (K : PySem.W.Frag) : List V → Hp → VK → Prop := fun vs H Q => ∃ (l : Addr) (ks : List (Addr × List Int)), vs = [V.ref l] ∧ SqL K H l (ks.map fun p => V.ref p.1) ∧ (∀ p ∈ ks, SqT K H p.1 (p.2.map V.int) ∧ p.2 ≠ []) ∧ Few ks ∧
  ∀ (L : List (Addr × List Int)) (p : Addr), (∀ q ∈ L, q ∈ ks) → (∀ q ∈ ks, q.2 ∈ L.map (·.2)) → (L.map (·.2)).Nodup → (L.map (·.2)).Pairwise (fun a b => HT.lexLt b a = false) → H p = none → Q (.ref p) (upd H p (.lst (L.map fun q => V.ref q.1)))
theorem pe_sortSetM {a : Expr} {ta : TA} {p p2 q pos : Pos} (hc : X.calm = true) (hu : X.A.units + 100 < cLine) (hg : Gl X "sorted") (hm : X.mg "sorted" = none) (hg2 : Gl X "set") (hm2 : X.mg "set" = none) (ha : PA X [a] ta)
    (he : starEach [a] X.env = (false, eval a X.env) :: starEach [] X.env := by rfl) (hpl : (backTo q (starEach [] X.env)).any (·.1) = false := by rfl)
    (na : starEach [.Call (.Name "set" p2) [a] [] q] X.env = (false, eval (.Call (.Name "set" p2) [a] [] q) X.env) :: starEach [] X.env := by rfl) :
    PE X (.Call (.Name "sorted" p) [.Call (.Name "set" p2) [a] [] q] [] pos) (tCB (rSetM X.K) ta) := by
  refine ⟨fun pins s σ H Q I h => ?_⟩
  refine Call_ (ld_blt I hg hm boot_sorted ?_)
  refine PyProof.Rows.callWith_builtin1 (PyProof.Rows.args_cons ?_ na) na rfl
  refine wpAny_Call_Name_kw (ld_blt I hg2 hm2 PyProof.Rows.boot_set ?_)
  refine PyProof.Rows.callWith_type1 (thn (ha.run q pins s σ H _ I h) fun us s1 ⟨vs, H1, I1, r1, q1⟩ => ?_) he hpl
  obtain ⟨l, ks, rfl, hl, hk, hf, q1⟩ := q1
  obtain rfl := Vals.ref1 r1
  obtain ⟨its, rv, pl, hz⟩ := I1.list hl
  refine call_set_many (P := X.prog) (w := X.w) (ks := ks) (I1.ok.hd hc) pl.isList (by simpa using refs_of_vals rv) (fun p hp => I1.isT (hk p hp).1) hf (by omega) fun h' tk L S g kp => ?_
  have I2 : Inv X pins σ H1 { s1 with heap := h', toks := tk } := I1.kept kp
  have sub : ∀ q ∈ L, q ∈ ks := fun q hq => List.mem_of_mem_take (g.sub q hq)
  refine PyProof.Rows.args_nil ?_
  have hlen : L.length ≤ 4000 := by
    have := hf (L.map (·.2)) (sat_nd S) fun k hk => by
      obtain ⟨q, hq, rfl⟩ := List.mem_map.mp hk
      exact List.mem_map.mpr ⟨q, sub q hq, rfl⟩
    rwa [List.length_map] at this
  refine sorted_sat (s := { s1 with heap := h', toks := tk }) S (fun p hp => I2.isT (hk p (sub p hp)).1) (fun p hp => (hk p (sub p hp)).2) hlen (I2.ok.hd hc) fun s' p' out c L' kp2 g2 o2 hp hg out_eq pm pw => ?_
  have hn : H1 p' = none := I2.hok.fresh hp
  have J : Inv X pins σ (upd H1 p' (.lst (L'.map fun q => V.ref q.1))) { s1 with heap := s'.heap, gens := s'.gens, drawn := s'.drawn, toks := s'.toks } :=
    (show Inv X pins σ (upd H1 p' (.lst (L'.map fun q => V.ref q.1))) { ({ s1 with heap := h', toks := tk } : Shared) with heap := s'.heap, gens := s'.gens, drawn := s'.drawn, toks := s'.toks } from I2.call (ch := []) (Un.laid kp2 hp hn) (I2.hok.laid kp2 hp ⟨by rw [List.length_map, pm.length_eq, sizeLine_eq]; omega, out, c, by rw [out_eq]; exact vals_of_refs L', hg⟩) (by rw [g2]; exact I2.bare) (fun _ z => nomatch z))
  have e : s' = { s1 with heap := s'.heap, gens := s'.gens, drawn := s'.drawn, toks := s'.toks } := by
    cases s'
    cases s1
    cases o2
    rfl
  rw [e]
  have nd : (L.map (·.2)).Nodup := sat_nd S
  refine ⟨.ref p', _, J, rfl, q1 L' p' (fun q hq => sub q (pm.mem_iff.mp hq)) (fun q hq => ?_) ((pm.map (·.2)).nodup_iff.mpr nd) (List.pairwise_map.mpr pw) hn⟩
  exact (pm.map (·.2)).mem_iff.mpr (g.all q (by rw [List.take_length]; exact hq))
end
end SG
namespace DL
open PySem PySem.Spec PyProof.Rows L2
/-- each once, rising -/
def usortL (nss : List (List Int)) : List (List Int) := sortL (nss.foldr (fun n l => if n ∈ l then l else n :: l) [])
theorem nub_ok (nss : List (List Int)) : (nss.foldr (fun n l => if n ∈ l then l else n :: l) []).Nodup ∧ ∀ n, n ∈ nss.foldr (fun n l => if n ∈ l then l else n :: l) [] ↔ n ∈ nss := by
  induction nss with
  | nil => exact ⟨List.nodup_nil, fun n => Iff.rfl⟩
  | cons m r ih =>
    rw [List.foldr_cons]
    split
    · next h =>
      refine ⟨ih.1, fun n => ?_⟩
      rw [ih.2, List.mem_cons]
      constructor
      · exact .inr
      · rintro (rfl | h')
        · exact (ih.2 _).mp h
        · exact h'
    · next h =>
      refine ⟨List.nodup_cons.mpr ⟨h, ih.1⟩, fun n => ?_⟩
      rw [List.mem_cons, List.mem_cons, ih.2]
theorem usortL_ok (nss : List (List Int)) : SortedL (usortL nss) ∧ (usortL nss).Nodup ∧ ∀ n, n ∈ usortL nss ↔ n ∈ nss :=
  ⟨sortL_sorted _, (sortL_perm _).nodup_iff.mpr (nub_ok nss).1, fun n => (sortL_perm _).mem_iff.trans ((nub_ok nss).2 n)⟩
theorem usortL_uniq {nss l : List (List Int)} (h1 : SortedL l) (h2 : l.Nodup) (h3 : ∀ n, n ∈ l ↔ n ∈ nss) : usortL nss = l := by
  obtain ⟨a, b, c⟩ := usortL_ok nss
  exact sorted_uniq a h1 ((List.perm_ext_iff_of_nodup b h2).mpr fun n => (c n).trans (h3 n).symm)
theorem nd_len {α : Type} [DecidableEq α] : ∀ (l D : List α), l.Nodup → (∀ x ∈ l, x ∈ D) → l.length ≤ D.length
  | [], _, _, _ => Nat.zero_le _
  | x :: l, D, hn, hs => by
    obtain ⟨h1, h2⟩ := List.nodup_cons.mp hn
    have hx : x ∈ D := hs x List.mem_cons_self
    have ih := nd_len l (D.erase x) h2 fun y hy => (List.mem_erase_of_ne fun e : y = x => h1 (by rw [← e]; exact hy)).2 (hs y (List.mem_cons_of_mem _ hy))
    rw [List.length_erase_of_mem hx] at ih
    have := List.length_pos_of_mem hx
    rw [List.length_cons]
    omega
def fSrtSM : List Vw → Option Rv
  | [.ob (.lst ds)] => (D.intss ds).bind fun nss => if (usortL nss).length ≤ 4000 then some (.own (.lst ((usortL nss).map intsD))) else none
  | _ => none
variable [Tbs]
theorem sd_srtSM {K : PySem.W.Frag} {cad : Str → Addr} : SdB K cad (SG.rSetM K) fSrtSM := by
  intro F ι μ H ws vs rv Q rs hw e q
  unfold fSrtSM at e
  split at e
  · next ds =>
    cases c : D.intss ds with
    | none => simp [c] at e
    | some nss =>
      simp only [c, Option.bind_some] at e
      split at e
      · next hz =>
        cases e
        obtain ⟨v, rfl, a, rfl, us, e1, r⟩ := pr1 hw
        obtain ⟨k, k1, k2⟩ := intss_k rs r c
        let ad : V → Addr := fun x => match x with | .ref t => t | _ => 0
        have had : ∀ x ∈ us, x = V.ref (ad x) := fun x hx => by
          obtain ⟨t, rfl, _⟩ := k2 x hx
          rfl
        have hm : (us.map fun x => (ad x, k x)).map (fun p => V.ref p.1) = us := by
          rw [List.map_map]
          conv => rhs; rw [← List.map_id us]
          exact List.map_congr_left fun x hx => (had x hx).symm
        have hm2 : (us.map fun x => (ad x, k x)).map (·.2) = nss := by
          rw [List.map_map, ← k1]
          rfl
        have hF : ∀ p ∈ us.map (fun x => (ad x, k x)), F p.1 = some (.tup (p.2.map V.int)) ∧ p.2 ≠ [] := fun p hp => by
          obtain ⟨x, hx, rfl⟩ := List.mem_map.mp hp
          obtain ⟨t, rfl, f2, f3⟩ := k2 x hx
          exact ⟨f2, f3⟩
        have hl : SG.Few (us.map fun x => (ad x, k x)) := fun M hM hs => by
          rw [hm2] at hs
          exact Nat.le_trans (nd_len M _ hM fun k hk => ((usortL_ok nss).2.2 k).mpr (hs k hk)) hz
        refine ⟨a, us.map fun x => (ad x, k x), rfl, by rw [hm]; exact SqL.of e1, fun p hp => ⟨SqT.of (rs.sub _ _ (hF p hp).1), (hF p hp).2⟩, hl, fun L p hL1 hL2 hnd hpw hp => ?_⟩
        have hus : usortL nss = L.map (·.2) := by
          refine usortL_uniq hpw hnd fun n => ⟨fun h => ?_, fun h => ?_⟩
          · obtain ⟨q, hq, rfl⟩ := List.mem_map.mp h
            rw [← hm2]
            exact List.mem_map.mpr ⟨q, hL1 q hq, rfl⟩
          · rw [← hm2] at h
            obtain ⟨q, hq, rfl⟩ := List.mem_map.mp h
            exact hL2 q hq
        have hrow : ∀ {M : List (Addr × List Int)}, (∀ p ∈ M, F p.1 = some (.tup (p.2.map V.int))) → VRs K cad ι F ((M.map (·.2)).map intsD) (M.map fun q => V.ref q.1) := fun {M} => by
          induction M with
          | nil => exact fun _ => rfl
          | cons p M ih =>
            intro hM
            exact ⟨_, _, rfl, VR.tup_.mpr ⟨p.1, _, rfl, hM p List.mem_cons_self, ints_D⟩, ih fun q hq => hM q (List.mem_cons_of_mem _ hq)⟩
        refine q F ι _ _ (Ext.newH hp) (rs.newH hp) ⟨p, _, rfl, (rs.fresh hp).1, (rs.fresh hp).2, hp, upd_same, _, rfl, ?_⟩
        rw [hus]
        exact hrow fun q hq => (hF q (hL1 q hq)).1
      · cases e
  · cases e
theorem de_srtSM {X : Cx} {cad : Str → Addr} {W : WX} {m : ME} {a : Expr} {p p2 q pos : Pos} (hc : X.calm = true) (hu : X.A.units + 100 < cLine) (hg : Gl X "sorted") (hm : X.mg "sorted" = none) (hg2 : Gl X "set") (hm2 : X.mg "set" = none) (ha : PE X a (tE X.K cad W m))
    (h1 : starEach [a] X.env = (false, eval a X.env) :: starEach [] X.env := by rfl) (h2 : starEach [.Call (.Name "set" p2) [a] [] q] X.env = (false, eval (.Call (.Name "set" p2) [a] [] q) X.env) :: starEach [] X.env := by rfl) :
    PE X (.Call (.Name "sorted" p) [.Call (.Name "set" p2) [a] [] q] [] pos) (tE X.K cad W (eCB fSrtSM (oCons m oNil))) :=
  pe_imp (SG.pe_sortSetM hc hu hg hm hg2 hm2 (do_cons ha do_nil h1) h1 rfl h2) fun σ H Q h => eCB_ok (r := SG.rSetM X.K) sd_srtSM h
end DL

namespace Law
open PySem PySem.Spec PyProof.Rows L2 DL
def toldL : List Str := ["BadStretches", "NoHouse"]
def b_is_row : MS := mRet (eB (mAnd (mT (e2 fEq (eCB fLenB (oCons (eVar 0) (oNil))) (eC (.int 3)))) (mAnd (mT (eCh2 fLe fLt (eC (.int 0)) (e2 fIx (eVar 0) (eC (.int 0))) (eC (.int 8)))) (mT (eCh3 fLe fLe fLe (eC (.int 1)) (e2 fIx (eVar 0) (eC (.int 1))) (e2 fIx (eVar 0) (eC (.int 2))) (eC (.int 1000000000000)))))))
def m_is_row : List D → Store → Res Rv := runB 1 1 b_is_row
def b_need_rows_1 : MS := mIf (mOr (mT (e2 fGe (eVar 1) (eC (.int 200)))) (mNot (mT (eCall (noX m_is_row) (aCons (eVar 2) (aNil)))))) (mRaise1 "BadStretches" "at" (eVar 1)) (mNx)
def b_need_rows : MS := mFor (iEnumD (eVar 0)) (gT [1, 2]) (b_need_rows_1)
def m_need_rows : List D → Store → Res Rv := runB 3 1 b_need_rows
def b_need_house : MS := mIf (mNot (mT (eCh2 fLe fLt (eC (.int 0)) (eVar 0) (eC (.int 8))))) (mRaise0 "NoHouse") (mNx)
def m_need_house : List D → Store → Res Rv := runB 1 1 b_need_house
def b_merged_1 : MS := mIf (mAnd (mT (e2 fNe (eVar 1) (eLst (aNil)))) (mAnd (mT (e2 fEq (e2 fIx (e2 fIx (eVar 1) (e1 fNeg (eC (.int 1)))) (eC (.int 0))) (eVar 2))) (mT (e2 fLe (eVar 3) (e2 fAdd (e2 fIx (e2 fIx (eVar 1) (e1 fNeg (eC (.int 1)))) (eC (.int 2))) (eC (.int 1))))))) (mSetIt (eTup (aCons (eVar 2) (aCons (e2 fIx (e2 fIx (eVar 1) (e1 fNeg (eC (.int 1)))) (eC (.int 1))) (aCons (eCB fMax2 (oCons (e2 fIx (e2 fIx (eVar 1) (e1 fNeg (eC (.int 1)))) (eC (.int 2))) (oCons (eVar 4) (oNil)))) (aNil))))) (eVar 1) (e1 fNeg (eC (.int 1)))) (mApp (eVar 1) (eTup (aCons (eVar 2) (aCons (eVar 3) (aCons (eVar 4) (aNil))))))
def b_merged : MS := mSeq (mOwn 1 (eLst (aNil))) (mSeq (mFor (iSeq (eCB fSrtB (oCons (eVar 0) (oNil)))) (gT [2, 3, 4]) (b_merged_1)) (mRet (eVar 1)))
def m_merged : List D → Store → Res Rv := runB 5 1 b_merged
def b_cut_out_1 : MS := mIf (mAnd (mT (e2 fEq (eVar 6) (eVar 3))) (mAnd (mT (e2 fLe (eVar 7) (eVar 5))) (mT (e2 fLe (eVar 4) (eVar 8))))) (mSeq (mIf (mT (e2 fLt (eVar 4) (eVar 7))) (mApp (eVar 2) (eTup (aCons (eVar 3) (aCons (eVar 4) (aCons (e2 fSub (eVar 7) (eC (.int 1))) (aNil)))))) (mNx)) (mSet 4 (e2 fAdd (eVar 8) (eC (.int 1))))) (mNx)
def b_cut_out_2 : MS := mSeq (mFor (iSeq (eVar 1)) (gT [6, 7, 8]) (b_cut_out_1)) (mIf (mT (e2 fLe (eVar 4) (eVar 5))) (mApp (eVar 2) (eTup (aCons (eVar 3) (aCons (eVar 4) (aCons (eVar 5) (aNil)))))) (mNx))
def b_cut_out : MS := mSeq (mOwn 2 (eLst (aNil))) (mSeq (mFor (iSeq (eVar 0)) (gT [3, 4, 5]) (b_cut_out_2)) (mRet (eVar 2)))
def m_cut_out : List D → Store → Res Rv := runB 9 2 b_cut_out
def b_in_both_1 : MS := mIf (mAnd (mT (e2 fEq (eVar 6) (eVar 3))) (mT (e2 fLe (eCB fMax2 (oCons (eVar 4) (oCons (eVar 7) (oNil)))) (eCB fMin2 (oCons (eVar 5) (oCons (eVar 8) (oNil))))))) (mApp (eVar 2) (eTup (aCons (eVar 3) (aCons (eCB fMax2 (oCons (eVar 4) (oCons (eVar 7) (oNil)))) (aCons (eCB fMin2 (oCons (eVar 5) (oCons (eVar 8) (oNil)))) (aNil)))))) (mNx)
def b_in_both_2 : MS := mFor (iSeq (eVar 1)) (gT [6, 7, 8]) (b_in_both_1)
def b_in_both : MS := mSeq (mOwn 2 (eLst (aNil))) (mSeq (mFor (iSeq (eVar 0)) (gT [3, 4, 5]) (b_in_both_2)) (mRet (eVar 2)))
def m_in_both : List D → Store → Res Rv := runB 9 2 b_in_both
def t_held_1 : MT := mAnd (mT (e2 fEq (e2 fIx (eVar 3) (eC (.int 0))) (eVar 1))) (mT (eCh2 fLe fLe (e2 fIx (eVar 3) (eC (.int 1))) (eVar 2) (e2 fIx (eVar 3) (eC (.int 2)))))
def e_held_1 : ME := eVar 3
def b_held : MS := mRet (e2 fNe (eLc (iSeq (eVar 0)) (gN 3) [3] (t_held_1) (e_held_1)) (eLst (aNil)))
def m_held : List D → Store → Res Rv := runB 4 3 b_held
def e_count_of_1 : ME := e2 fAdd (e2 fSub (e2 fIx (eVar 1) (eC (.int 2))) (e2 fIx (eVar 1) (eC (.int 1)))) (eC (.int 1))
def b_count_of : MS := mRet (eCB fSum (oCons (eLc (iSeq (eVar 0)) (gN 1) [1] (mYes) (e_count_of_1)) (oNil)))
def m_count_of : List D → Store → Res Rv := runB 2 1 b_count_of
def b_plain : MS := mSeq (mDrop (eCall m_need_rows (aCons (eVar 0) (aNil)))) (mRet (eCall (noX m_merged) (aCons (eVar 0) (aNil))))
def m_plain : List D → Store → Res Rv := runB 1 1 b_plain
def b_joined : MS := mRet (eCall (noX m_merged) (aCons (e2 fAdd (eCall m_plain (aCons (eVar 0) (aNil))) (eCall m_plain (aCons (eVar 1) (aNil)))) (aNil)))
def m_joined : List D → Store → Res Rv := runB 2 2 b_joined
def b_common : MS := mRet (eCall (noX m_in_both) (aCons (eCall m_plain (aCons (eVar 0) (aNil))) (aCons (eCall m_plain (aCons (eVar 1) (aNil))) (aNil))))
def m_common : List D → Store → Res Rv := runB 2 2 b_common
def b_less : MS := mRet (eCall (noX m_cut_out) (aCons (eCall m_plain (aCons (eVar 0) (aNil))) (aCons (eCall m_plain (aCons (eVar 1) (aNil))) (aNil))))
def m_less : List D → Store → Res Rv := runB 2 2 b_less
def b_within : MS := mRet (e2 fEq (eCall m_less (aCons (eVar 0) (aCons (eVar 1) (aNil)))) (eLst (aNil)))
def m_within : List D → Store → Res Rv := runB 2 2 b_within
def b_has : MS := mSeq (mDrop (eCall m_need_rows (aCons (eVar 0) (aNil)))) (mSeq (mDrop (eCall m_need_house (aCons (eVar 1) (aNil)))) (mRet (eCall (noX m_held) (aCons (eVar 0) (aCons (eVar 1) (aCons (eVar 2) (aNil)))))))
def m_has : List D → Store → Res Rv := runB 3 3 b_has
def b_amount : MS := mRet (eCall (noX m_count_of) (aCons (eCall m_plain (aCons (eVar 0) (aNil))) (aNil)))
def m_amount : List D → Store → Res Rv := runB 1 1 b_amount
def b_reach_1 : MS := mIf (mAnd (mT (e2 fEq (eVar 2) (eVar 1))) (mT (e2 fEq (eVar 3) (eC (.int 1))))) (mRet (eVar 4)) (mNx)
def b_reach : MS := mSeq (mFor (iSeq (eVar 0)) (gT [2, 3, 4]) (b_reach_1)) (mRet (eC (.int 0)))
def m_reach : List D → Store → Res Rv := runB 5 2 b_reach
def b_whole_to : MS := mSeq (mSet 2 (eCall m_plain (aCons (eVar 0) (aNil)))) (mSeq (mDrop (eCall m_need_house (aCons (eVar 1) (aNil)))) (mRet (eCall (noX m_reach) (aCons (eVar 2) (aCons (eVar 1) (aNil))))))
def m_whole_to : List D → Store → Res Rv := runB 3 2 b_whole_to
def b_gaps_1 : MS := mSetIt (eVar 5) (eVar 2) (eVar 3)
def e_gaps_1 : ME := eTup (aCons (eVar 3) (aCons (eC (.int 1)) (aCons (e2 fIx (eVar 2) (eVar 3)) (aNil))))
def b_gaps : MS := mSeq (mSet 1 (eCall m_plain (aCons (eVar 0) (aNil)))) (mSeq (mOwn 2 (eDK)) (mSeq (mFor (iSeq (eVar 1)) (gT [3, 4, 5]) (b_gaps_1)) (mRet (eCall (noX m_cut_out) (aCons (eLc (iSeq (eCB fSrtB (oCons (eVar 2) (oNil)))) (gN 3) [3] (mYes) (e_gaps_1)) (aCons (eVar 1) (aNil)))))))
def m_gaps : List D → Store → Res Rv := runB 6 1 b_gaps
def b__law_dice_1 : MS := mSet 1 (e2 fMod (e2 fAdd (e2 fAdd (e2 fMul (eVar 1) (eC (.int 48271))) (e2 fMul (e2 fMod (eVar 2) (eC (.int 2147483647))) (eC (.int 69621)))) (eC (.int 11))) (eC (.int 2147483647)))
def b__law_dice : MS := mSeq (mSet 1 (eC (.int 0))) (mSeq (mFor (iSeq (eVar 0)) (gN 2) (b__law_dice_1)) (mRet (eLst (aCons (eVar 0) (aCons (eC (.int 0)) (aCons (e2 fMul (eVar 1) (eCB fIntB (oCons (e2 fGt (eCB fLenB (oCons (eVar 0) (oNil))) (eC (.int 2))) (oNil)))) (aCons (eC (.int 0)) (aNil))))))))
def m__law_dice : List D → Store → Res Rv := runB 3 1 b__law_dice
def b__law_next : MS := mSeq (mIf (mT (e2 fGt (e2 fIx (eVar 0) (eC (.int 3))) (eC (.int 0)))) (mSeq (mSet 2 (e2 fMod (e2 fIx (eVar 0) (eC (.int 3))) (eVar 1))) (mSeq (mSetIt (e2 fDiv (e2 fIx (eVar 0) (eC (.int 3))) (eVar 1)) (eVar 0) (eC (.int 3))) (mRet (eVar 2)))) (mNx)) (mSeq (mSetIt (e2 fAdd (e2 fIx (eVar 0) (eC (.int 1))) (eC (.int 1))) (eVar 0) (eC (.int 1))) (mSeq (mIf (mT (e2 fLe (e2 fIx (eVar 0) (eC (.int 1))) (eCB fLenB (oCons (e2 fIx (eVar 0) (eC (.int 0))) (oNil))))) (mSeq (mSet 3 (e2 fIx (e2 fIx (eVar 0) (eC (.int 0))) (e2 fSub (e2 fIx (eVar 0) (eC (.int 1))) (eC (.int 1))))) (mSeq (mSetIt (eIf (mT (e2 fGe (eVar 3) (e2 fPow (eC (.int 10)) (eC (.int 18))))) (e2 fDiv (eVar 3) (eVar 1)) (eC (.int 0))) (eVar 0) (eC (.int 3))) (mRet (e2 fMod (eVar 3) (eVar 1))))) (mNx)) (mSeq (mSetIt (e2 fMod (e2 fMul (e2 fIx (eVar 0) (eC (.int 2))) (eC (.int 48271))) (eC (.int 2147483647))) (eVar 0) (eC (.int 2))) (mRet (e2 fMod (e2 fDiv (e2 fIx (eVar 0) (eC (.int 2))) (eC (.int 7))) (eVar 1))))))
def m__law_next : List D → Store → Res Rv := runB 4 2 b__law_next
def b__law_like_1 (rec : List D → Store → Res Rv) : MS := mIf (mNot (mT (eCall (noX rec) (aCons (e2 fIx (eVar 0) (eVar 2)) (aCons (e2 fIx (eVar 1) (eVar 2)) (aNil)))))) (mRet (eC (.bl false))) (mNx)
def b__law_like (rec : List D → Store → Res Rv) : MS := mSeq (mIf (mT (eIsi "bool" (eVar 1))) (mRet (eB (mAnd (mT (eIsi "bool" (eVar 0))) (mT (e2 fEq (eVar 0) (eVar 1)))))) (mNx)) (mSeq (mIf (mT (eIsi "str" (eVar 1))) (mRet (eB (mAnd (mT (eIsi "str" (eVar 0))) (mT (e2 fEq (eVar 0) (eVar 1)))))) (mNx)) (mSeq (mIf (mT (eIsi "int" (eVar 1))) (mRet (eB (mAnd (mT (eIsi "int" (eVar 0))) (mAnd (mNot (mT (eIsi "bool" (eVar 0)))) (mT (e2 fEq (eVar 0) (eVar 1))))))) (mNx)) (mSeq (mIf (mT (e2 (fIs id) (eVar 1) (eC .non))) (mRet (e2 (fIs id) (eVar 0) (eC .non))) (mNx)) (mSeq (mIf (mOr (mT (e2 fNe (eIsi "tuple" (eVar 1)) (eIsi "tuple" (eVar 0)))) (mT (e2 fNe (eIsi "list" (eVar 1)) (eIsi "list" (eVar 0))))) (mRet (eC (.bl false))) (mNx)) (mSeq (mIf (mT (e2 fNe (eCB fLenB (oCons (eVar 0) (oNil))) (eCB fLenB (oCons (eVar 1) (oNil))))) (mRet (eC (.bl false))) (mNx)) (mSeq (mFor (iRange1 (eCB fLenB (oCons (eVar 1) (oNil)))) (gN 2) (b__law_like_1 rec)) (mRet (eC (.bl true)))))))))
def m__law_like : Nat → List D → Store → Res Rv
  | 0 => fun _ _ => .stk
  | n + 1 => runB 3 2 (b__law_like (m__law_like n))
def b__law_rows_1 : MS := mSeq (mSet 6 (e2 fAdd (eC (.int 1)) (eCall (noX m__law_next) (aCons (eVar 0) (aCons (eVar 2) (aNil)))))) (mSeq (mSet 7 (e2 fIx (eLst (aCons (eC (.int 0)) (aCons (eCall (noX m__law_next) (aCons (eVar 0) (aCons (eC (.int 3)) (aNil)))) (aCons (eCall (noX m__law_next) (aCons (eVar 0) (aCons (eVar 2) (aNil)))) (aNil))))) (eCall (noX m__law_next) (aCons (eVar 0) (aCons (eC (.int 3)) (aNil)))))) (mApp (eVar 4) (eTup (aCons (eCall (noX m__law_next) (aCons (eVar 0) (aCons (eVar 1) (aNil)))) (aCons (eVar 6) (aCons (eCB fMin2 (oCons (eVar 2) (oCons (e2 fAdd (eVar 6) (eVar 7)) (oNil)))) (aNil)))))))
def b__law_rows : MS := mSeq (mOwn 4 (eLst (aNil))) (mSeq (mFor (iRange1 (eCall (noX m__law_next) (aCons (eVar 0) (aCons (e2 fAdd (eVar 3) (eC (.int 1))) (aNil))))) (gN 5) (b__law_rows_1)) (mRet (eVar 4)))
def m__law_rows : List D → Store → Res Rv := runB 8 4 b__law_rows
def e__law_moved_1 : ME := eTup (aCons (eVar 2) (aCons (e2 fAdd (eVar 3) (eVar 1)) (aCons (e2 fAdd (eVar 4) (eVar 1)) (aNil))))
def b__law_moved : MS := mRet (eLc (iSeq (eVar 0)) (gT [2, 3, 4]) [2, 3, 4] (mYes) (e__law_moved_1))
def m__law_moved : List D → Store → Res Rv := runB 5 2 b__law_moved
def b__law_names_1 : MS := mSetIt (eC (.bl true)) (eVar 1) (eTup (aCons (eVar 2) (aCons (eVar 5) (aNil))))
def b__law_names_2 : MS := mFor (iRange2 (eVar 3) (e2 fAdd (eVar 4) (eC (.int 1)))) (gN 5) (b__law_names_1)
def b__law_names : MS := mSeq (mOwn 1 (eDT)) (mSeq (mFor (iSeq (eVar 0)) (gT [2, 3, 4]) (b__law_names_2)) (mRet (eCB fSrtB (oCons (eVar 1) (oNil)))))
def m__law_names : List D → Store → Res Rv := runB 6 1 b__law_names
def b__law_told_rows_1 : MS := mIf (mAnd (mT (e2 fNe (eVar 1) (eLst (aNil)))) (mAnd (mT (e2 fEq (e2 fIx (e2 fIx (eVar 1) (e1 fNeg (eC (.int 1)))) (eC (.int 0))) (eVar 2))) (mT (e2 fEq (e2 fAdd (e2 fIx (e2 fIx (eVar 1) (e1 fNeg (eC (.int 1)))) (eC (.int 2))) (eC (.int 1))) (eVar 3))))) (mSetIt (eTup (aCons (eVar 2) (aCons (e2 fIx (e2 fIx (eVar 1) (e1 fNeg (eC (.int 1)))) (eC (.int 1))) (aCons (eVar 3) (aNil))))) (eVar 1) (e1 fNeg (eC (.int 1)))) (mApp (eVar 1) (eTup (aCons (eVar 2) (aCons (eVar 3) (aCons (eVar 3) (aNil))))))
def b__law_told_rows : MS := mSeq (mOwn 1 (eLst (aNil))) (mSeq (mFor (iSeq (eVar 0)) (gT [2, 3]) (b__law_told_rows_1)) (mRet (eVar 1)))
def m__law_told_rows : List D → Store → Res Rv := runB 4 1 b__law_told_rows
def e__law_gaps_1 : ME := eTup (aCons (eVar 3) (aCons (eC (.bl true)) (aNil)))
def t__law_gaps_1 : MT := mT (e2 fEq (eVar 6) (eVar 4))
def e__law_gaps_2 : ME := eVar 7
def t__law_gaps_2 : MT := mT (e2 (fIn not) (eTup (aCons (eVar 4) (aCons (eVar 7) (aNil)))) (eVar 2))
def e__law_gaps_3 : ME := eTup (aCons (eVar 4) (aCons (eVar 7) (aNil)))
def b__law_gaps_1 : MS := mSeq (mSet 5 (eCB fMaxL (oCons (e2 fAdd (eLst (aCons (eC (.int 0)) (aNil))) (eLc (iSeq (eVar 0)) (gT [6, 7]) [6, 7] (t__law_gaps_1) (e__law_gaps_2))) (oNil)))) (mSet 1 (e2 fAdd (eVar 1) (eLc (iRange2 (eC (.int 1)) (eVar 5)) (gN 7) [7] (t__law_gaps_2) (e__law_gaps_3))))
def b__law_gaps : MS := mSeq (mSet 1 (eLst (aNil))) (mSeq (mOwn 2 (eCB fDictT (oCons (eLc (iSeq (eVar 0)) (gN 3) [3] (mYes) (e__law_gaps_1)) (oNil)))) (mSeq (mFor (iRange1 (eC (.int 8))) (gN 4) (b__law_gaps_1)) (mRet (eVar 1))))
def m__law_gaps : List D → Store → Res Rv := runB 8 1 b__law_gaps
def t__law_reach_1 : MT := mT (e2 (fIn id) (eTup (aCons (eVar 1) (aCons (e2 fAdd (eVar 2) (eC (.int 1))) (aNil)))) (eVar 0))
def b__law_reach_1 : MS := mSet 2 (e2 fAdd (eVar 2) (eC (.int 1)))
def b__law_reach : MS := mSeq (mSet 2 (eC (.int 0))) (mSeq (whileL (t__law_reach_1) (b__law_reach_1) 1000000000) (mRet (eVar 2)))
def m__law_reach : List D → Store → Res Rv := runB 3 2 b__law_reach
def b__law_case : MS := mSeq (mPar [1, 2, 3] (aCons (e2 fAdd (eC (.int 1)) (eCall (noX m__law_next) (aCons (eVar 0) (aCons (eC (.int 8)) (aNil))))) (aCons (e2 fIx (eLst (aCons (eC (.int 6)) (aCons (eC (.int 30)) (aNil)))) (eCall (noX m__law_next) (aCons (eVar 0) (aCons (eC (.int 2)) (aNil))))) (aCons (e2 fIx (eLst (aCons (eC (.int 4)) (aCons (eC (.int 40)) (aNil)))) (eCall (noX m__law_next) (aCons (eVar 0) (aCons (eC (.int 2)) (aNil))))) (aNil))))) (mSeq (mIf (mT (e2 fEq (eCall (noX m__law_next) (aCons (eVar 0) (aCons (eC (.int 6)) (aNil)))) (eC (.int 5)))) (mUnp [1, 2, 3] (eTup (aCons (eC (.int 8)) (aCons (eC (.int 400)) (aCons (eC (.int 200)) (aNil)))))) (mNx)) (mRet (eTup (aCons (eCall (noX m__law_rows) (aCons (eVar 0) (aCons (eVar 1) (aCons (eVar 2) (aCons (eVar 3) (aNil)))))) (aCons (eCall (noX m__law_rows) (aCons (eVar 0) (aCons (eVar 1) (aCons (eVar 2) (aCons (eVar 3) (aNil)))))) (aNil))))))
def m__law_case : List D → Store → Res Rv := runB 4 1 b__law_case
def e_law_1 : ME := eTup (aCons (eVar 9) (aCons (eC (.bl true)) (aNil)))
def t_law_1 : MT := mT (e2 (fIn id) (eVar 9) (eVar 8))
def e_law_2 : ME := eVar 9
def t_law_2 : MT := mT (e2 (fIn not) (eVar 9) (eVar 8))
def e_law_3 : ME := eVar 9
def e_law_4 : ME := eCall (noX m__law_told_rows) (aCons (eVar 13) (aNil))
def e_law_5 : ME := eCall (noX m__law_moved) (aCons (eVar 17) (aCons (eVar 14) (aNil)))
def b_law_1 : MS := mApp (eVar 17) (eTup (aCons (eC (.int 0)) (aCons (eC (.int 1)) (aCons (eC (.int 1)) (aNil)))))
def b_law_2 : MS := mSeq (mSet 15 (eTup (aCons (eCall (noX m__law_moved) (aCons (eVar 4) (aCons (eVar 14) (aNil)))) (aCons (eCall (noX m__law_moved) (aCons (eVar 5) (aCons (eVar 14) (aNil)))) (aNil))))) (mSeq (mOwn 16 (eLst (aCons (eLoc (eCall m_plain (aCons (e2 fIx (eVar 15) (eC (.int 0))) (aNil)))) (aCons (eLoc (eCall m_joined (aCons (e2 fIx (eVar 15) (eC (.int 0))) (aCons (e2 fIx (eVar 15) (eC (.int 1))) (aNil))))) (aCons (eLoc (eCall m_common (aCons (e2 fIx (eVar 15) (eC (.int 0))) (aCons (e2 fIx (eVar 15) (eC (.int 1))) (aNil))))) (aNil)))))) (mSeq (mApp (eVar 16) (eLoc (eCall m_less (aCons (e2 fIx (eVar 15) (eC (.int 0))) (aCons (e2 fIx (eVar 15) (eC (.int 1))) (aNil)))))) (mSeq (mFrz 16) (mSeq (mIf (mNot (mT (eCall (noX (m__law_like 8)) (aCons (eVar 16) (aCons (eLc (iSeq (eVar 12)) (gN 17) [17] (mYes) (e_law_5)) (aNil)))))) (mRet (eC (.bl false))) (mNx)) (mSeq (mSet 18 (eLst (aCons (eCall m_amount (aCons (e2 fIx (eVar 15) (eC (.int 0))) (aNil))) (aCons (eCall m_within (aCons (e2 fIx (eVar 15) (eC (.int 0))) (aCons (e2 fIx (eVar 15) (eC (.int 1))) (aNil)))) (aNil))))) (mSeq (mIf (mNot (mT (eCall (noX (m__law_like 8)) (aCons (eVar 18) (aCons (eLst (aCons (eCB fLenB (oCons (eVar 6) (oNil))) (aCons (e2 fEq (eVar 11) (eLst (aNil))) (aNil)))) (aNil)))))) (mRet (eC (.bl false))) (mNx)) (mSeq (mPar [19, 20] (aCons (eCall (noX m__law_next) (aCons (eVar 1) (aCons (eC (.int 8)) (aNil)))) (aCons (e2 fAdd (eC (.int 1)) (eCall (noX m__law_next) (aCons (eVar 1) (aCons (eC (.int 32)) (aNil))))) (aNil)))) (mSeq (mIf (mNot (mT (eCall (noX (m__law_like 8)) (aCons (eCall m_has (aCons (e2 fIx (eVar 15) (eC (.int 0))) (aCons (eVar 19) (aCons (e2 fAdd (eVar 20) (eVar 14)) (aNil))))) (aCons (e2 (fIn id) (eTup (aCons (eVar 19) (aCons (eVar 20) (aNil)))) (eVar 6)) (aNil)))))) (mRet (eC (.bl false))) (mNx)) (mSeq (mFor (iSeq (eVar 16)) (gN 17) (b_law_1)) (mIf (mT (e2 fNe (eVar 15) (eTup (aCons (eCall (noX m__law_moved) (aCons (eVar 4) (aCons (eVar 14) (aNil)))) (aCons (eCall (noX m__law_moved) (aCons (eVar 5) (aCons (eVar 14) (aNil)))) (aNil)))))) (mRet (eC (.bl false))) (mNx)))))))))))
def b_law_3 : MS := mIf (mNot (mT (eCall (noX (m__law_like 8)) (aCons (eCall m_whole_to (aCons (eVar 4) (aCons (eVar 19) (aNil)))) (aCons (eCall (noX m__law_reach) (aCons (eVar 6) (aCons (eVar 19) (aNil)))) (aNil)))))) (mRet (eC (.bl false))) (mNx)
def b_law_4 : MS := mSeq (mPar [6, 7] (aCons (eCall (noX m__law_names) (aCons (eVar 4) (aNil))) (aCons (eCall (noX m__law_names) (aCons (eVar 5) (aNil))) (aNil)))) (mSeq (mOwn 8 (eCB fDictT (oCons (eLc (iSeq (eVar 7)) (gN 9) [9] (mYes) (e_law_1)) (oNil)))) (mSeq (mSet 10 (eLc (iSeq (eVar 6)) (gN 9) [9] (t_law_1) (e_law_2))) (mSeq (mSet 11 (eLc (iSeq (eVar 6)) (gN 9) [9] (t_law_2) (e_law_3))) (mSeq (mSet 12 (eLc (iSeq (eLst (aCons (eVar 6) (aCons (eCB fSrtSM (oCons (e2 fAdd (eVar 6) (eVar 7)) (oNil))) (aCons (eVar 10) (aCons (eVar 11) (aNil))))))) (gN 13) [13] (mYes) (e_law_4))) (mSeq (mFor (iSeq (eLst (aCons (eC (.int 0)) (aCons (eVar 3) (aNil))))) (gN 14) (b_law_2)) (mSeq (mIf (mNot (mT (eCall (noX (m__law_like 8)) (aCons (eCall m_gaps (aCons (eVar 4) (aNil))) (aCons (eCall (noX m__law_told_rows) (aCons (eCall (noX m__law_gaps) (aCons (eVar 6) (aNil))) (aNil))) (aNil)))))) (mRet (eC (.bl false))) (mNx)) (mFor (iRange1 (eC (.int 8))) (gN 19) (b_law_3))))))))
def b_law : MS := mSeq (mSet 1 (eLoc (eCall (noX m__law_dice) (aCons (eVar 0) (aNil))))) (mSeq (mSet 2 (eLst (aCons (eCall (noX m__law_case) (aCons (eVar 1) (aNil))) (aCons (eCall (noX m__law_case) (aCons (eVar 1) (aNil))) (aNil))))) (mSeq (mSet 3 (e2 fSub (e2 fSub (e2 fPow (eC (.int 10)) (eC (.int 12))) (eC (.int 400))) (eCall (noX m__law_next) (aCons (eVar 1) (aCons (e2 fPow (eC (.int 10)) (eC (.int 9))) (aNil)))))) (mSeq (mFor (iSeq (e2 fAdd (eVar 2) (eCut (eVar 2) (oNone) (oSome (eC (.int 1)))))) (gT [4, 5]) (b_law_4)) (mRet (eC (.bl true))))))
def m_law : List D → Store → Res Rv := runB 21 1 b_law
end Law

namespace Law
open PySem PySem.Spec PyProof.Rows L2 DL
structure Glob (mg : Str → Option Value) : Prop where
  bool : mg "bool" = none
  dict : mg "dict" = none
  enumerate : mg "enumerate" = none
  int : mg "int" = none
  isinstance : mg "isinstance" = none
  len : mg "len" = none
  list : mg "list" = none
  max : mg "max" = none
  min : mg "min" = none
  range : mg "range" = none
  set : mg "set" = none
  sorted : mg "sorted" = none
  str : mg "str" = none
  sum : mg "sum" = none
  tuple : mg "tuple" = none
  c_MOST_HOUSES : ∃ t, mg "MOST_HOUSES" = some (.int 8 t)
  c_MOST_NUMBER : ∃ t, mg "MOST_NUMBER" = some (.int 1000000000000 t)
  c_MOST_ROWS : ∃ t, mg "MOST_ROWS" = some (.int 200 t)
structure ClsF (w : World) (K : PySem.W.Frag) (cad : Str → Addr) (mg : Str → Option Value) : Prop where
  x_NoHouse : ExN K (cad "NoHouse")
  m_BadStretches : mg "BadStretches" = some (.ref (cad "BadStretches"))
  m_DoneError : mg "DoneError" = some (.ref (cad "DoneError"))
  m_NoHouse : mg "NoHouse" = some (.ref (cad "NoHouse"))
section
variable [Tbs]
variable {P : Program} {w : World} {K : PySem.W.Frag} {mg : Str → Option Value} {base : Heap} {cad : Str → Addr}
theorem sc_BadStretches___init__ : FnScope ["self", "at"] ["self", "at"] (defScope s_BadStretches___init__) := ⟨rfl, rfl, rfl, by decide +kernel, rfl, by decide +kernel, by decide +kernel⟩
theorem ok_BadStretches___init__ {f : Addr} {fd : FuncData} (C : ClsF w K cad mg) (F : Fun K "__init__" "BadStretches.__init__" s_BadStretches___init__ f fd) (oex : OexC K (cad "BadStretches")) (xi : PySem.W.findIn K (.ref (cad "BadStretches")) "__init__" = some (some (.ref f)) ∧ PySem.W.typeIn K (.ref f) = some (.type "function")) (nf : PySem.W.findIn K (.ref (cad "BadStretches")) "at" = some none) (xb : ExB K (cad "DoneError")) : DefE P w K mg base cad "BadStretches" "at" 1 := by
  have hb : Binds K fd ["self", "at"] [] := F.binds (ps := ["self", "at"]) fun _ _ _ _ _ _ us hl => match us, hl with | [_, _], _ => rfl
  exact mkE (k := 0) (b := "DoneError") F sc_BadStretches___init__ rfl hb oex xi.1 xi.2 C.m_BadStretches nf xb rfl C.m_DoneError (by first | exact Or.inl rfl | exact Or.inr (Or.inl rfl)) (by first | exact Or.inl rfl | exact Or.inr (Or.inl rfl)) (by decide) (by decide) (by decide) (fun env he => by obtain ⟨sc, _⟩ := env; subst he; exact ⟨_, rfl⟩)
theorem sc_is_row : FnScope ["row"] ["row"] (defScope s_is_row) := ⟨rfl, rfl, rfl, by decide +kernel, rfl, by decide +kernel, by decide +kernel⟩
theorem ok_is_row {f : Addr} {fd : FuncData} (G : Glob mg) (C : ClsF w K cad mg)
    (F : Fun K "is_row" "is_row" s_is_row f fd) (hm : mg "is_row" = some (.ref f)) : Def0 P w K mg base cad "is_row" 1 1 m_is_row := by
  have hb : Binds K fd ["row"] [] := F.binds (ps := ["row"]) fun _ _ _ _ _ _ us hl => match us, hl with | [_], _ => rfl
  exact mk0 (N := ["row"]) (ps := ["row"]) (k := 0) (b := b_is_row) F sc_is_row hm hb (fun cdv A outer s H E E0 hcd hr tk hp => by
    have hU := hU_of hr
    unfold b_is_row
    exact dss_one (ds_ret (PB.v (pb_and (pb_val (de_cmp (op_eqA hU) sd_eq (de_callB call_lenB sd_lenB (by rfl) G.len bb_len (do_cons (de_var 0) (do_nil))) (de_int))) (pb_and (pb_val (de_ch2 (op_leA hU) sd_ord (op_ltA hU) sd_ord (de_int) (de_ix (ix_all hU) sd_ix (de_var 0) (de_int)) (de_gint (by rfl) G.c_MOST_HOUSES))) (pb_one (pb_val (de_ch3 (op_leA hU) sd_ord (op_leA hU) sd_ord (op_leA hU) sd_ord (de_int) (de_ix (ix_all hU) sd_ix (de_var 0) (de_int)) (de_ix (ix_all hU) sd_ix (de_var 0) (de_int)) (de_gint (by rfl) G.c_MOST_NUMBER)))))))))
theorem sc_need_rows : FnScope ["rows", "at", "row"] ["rows"] (defScope s_need_rows) := ⟨rfl, rfl, rfl, by decide +kernel, rfl, by decide +kernel, by decide +kernel⟩
theorem ok_need_rows {f : Addr} {fd : FuncData} (G : Glob mg) (C : ClsF w K cad mg)
    (e_BadStretches : DefE P w K mg base cad "BadStretches" "at" 1)
    (d_is_row : Def0 P w K mg base cad "is_row" 1 1 m_is_row)
    (F : Fun K "need_rows" "need_rows" s_need_rows f fd) (hm : mg "need_rows" = some (.ref f)) : Def0 P w K mg base cad "need_rows" 3 1 m_need_rows := by
  have hb : Binds K fd ["rows"] [] := F.binds (ps := ["rows"]) fun _ _ _ _ _ _ us hl => match us, hl with | [_], _ => rfl
  exact mk0 (N := ["rows", "at", "row"]) (ps := ["rows"]) (k := 2) (b := b_need_rows) F sc_need_rows hm hb (fun cdv A outer s H E E0 hcd hr tk hp => by
    have hU := hU_of hr
    unfold b_need_rows
    unfold b_need_rows_1
    exact dss_one (ds_for hp rfl (di_enum (by rfl) G.enumerate (de_var 0)) (pg_tup rfl (pgs_cons (pg_name (i := 1) sc_need_rows.nd rfl (by first | exact Or.inl rfl | exact Or.inr rfl)) (pgs_cons (pg_name (i := 2) sc_need_rows.nd rfl (by first | exact Or.inl rfl | exact Or.inr rfl)) (pgs_nil)))) (g_tup [1, 2] rfl) (dss_one (ds_if (PW.pt (dw_or (dt_cmp (op_geA hU) sd_ord (de_var 1) (de_gint (by rfl) G.c_MOST_ROWS)) (pw_or1 (dt_not (dt_val (de_callD d_is_row hr (by decide) (by rfl) (da_cons (de_var 2) (da_nil)) (aLenS (aLen0)))))))) (dss_one (ds_raise1 rfl tk e_BadStretches hr (by decide) (by rfl) (de_var 1))) (dss_nil)))))
theorem sc_need_house : FnScope ["house"] ["house"] (defScope s_need_house) := ⟨rfl, rfl, rfl, by decide +kernel, rfl, by decide +kernel, by decide +kernel⟩
theorem ok_need_house {f : Addr} {fd : FuncData} (G : Glob mg) (C : ClsF w K cad mg)
    (F : Fun K "need_house" "need_house" s_need_house f fd) (hm : mg "need_house" = some (.ref f)) : Def0 P w K mg base cad "need_house" 3 1 m_need_house := by
  have hb : Binds K fd ["house"] [] := F.binds (ps := ["house"]) fun _ _ _ _ _ _ us hl => match us, hl with | [_], _ => rfl
  exact mk0 (N := ["house"]) (ps := ["house"]) (k := 2) (b := b_need_house) F sc_need_house hm hb (fun cdv A outer s H E E0 hcd hr tk hp => by
    have hU := hU_of hr
    unfold b_need_house
    exact dss_one (ds_if (dt_not (dt_ch2 (op_leA hU) sd_ord (op_ltA hU) sd_ord (de_int) (de_var 0) (de_gint (by rfl) G.c_MOST_HOUSES))) (dss_one (ds_raise0 rfl tk C.x_NoHouse C.m_NoHouse (by rfl))) (dss_nil)))
theorem sc_merged : FnScope ["rows", "found", "house", "first", "last"] ["rows"] (defScope s_merged) := ⟨rfl, rfl, rfl, by decide +kernel, rfl, by decide +kernel, by decide +kernel⟩
theorem ok_merged {f : Addr} {fd : FuncData} (G : Glob mg) (C : ClsF w K cad mg)
    (F : Fun K "merged" "merged" s_merged f fd) (hm : mg "merged" = some (.ref f)) : Def0 P w K mg base cad "merged" 1 1 m_merged := by
  have hb : Binds K fd ["rows"] [] := F.binds (ps := ["rows"]) fun _ _ _ _ _ _ us hl => match us, hl with | [_], _ => rfl
  exact mk0 (N := ["rows", "found", "house", "first", "last"]) (ps := ["rows"]) (k := 0) (b := b_merged) F sc_merged hm hb (fun cdv A outer s H E E0 hcd hr tk hp => by
    have hU := hU_of hr
    unfold b_merged
    unfold b_merged_1
    exact dss_cons (ds_own 1 sc_merged.nd (de_lst (da_nil))) (dss_cons (ds_for hp rfl (di_seq (de_callB (cr_srtB (by rfl)) sd_srtB (by rfl) G.sorted bb_sorted (do_cons (de_var 0) (do_nil)))) (pg_tup rfl (pgs_cons (pg_name (i := 2) sc_merged.nd rfl (by first | exact Or.inl rfl | exact Or.inr rfl)) (pgs_cons (pg_name (i := 3) sc_merged.nd rfl (by first | exact Or.inl rfl | exact Or.inr rfl)) (pgs_cons (pg_name (i := 4) sc_merged.nd rfl (by first | exact Or.inl rfl | exact Or.inr rfl)) (pgs_nil))))) (g_tup [2, 3, 4] rfl) (dss_one (ds_if (PW.pt (dw_and (dt_cmp (op_neA hU) sd_ne (de_var 1) (de_lst (da_nil))) (dw_and (dt_cmp (op_eqA hU) sd_eq (de_ix (ix_all hU) sd_ix (de_ix (ix_all hU) sd_ix (de_var 1) (de_un un_neg sd_neg (de_int))) (de_int)) (de_var 2)) (pw_and1 (dt_cmp (op_leA hU) sd_ord (de_var 3) (de_bin op_addA sd_add (de_ix (ix_all hU) sd_ix (de_ix (ix_all hU) sd_ix (de_var 1) (de_un un_neg sd_neg (de_int))) (de_int)) (de_int))))))) (dss_one (ds_setit hU (de_tup (da_cons (de_var 2) (da_cons (de_ix (ix_all hU) sd_ix (de_ix (ix_all hU) sd_ix (de_var 1) (de_un un_neg sd_neg (de_int))) (de_int)) (da_cons (de_callB (call_max2 (by rfl)) sd_max2 (by rfl) G.max bb_max (do_cons (de_ix (ix_all hU) sd_ix (de_ix (ix_all hU) sd_ix (de_var 1) (de_un un_neg sd_neg (de_int))) (de_int)) (do_cons (de_var 4) (do_nil)))) (da_nil))))) (de_var 1) (de_un un_neg sd_neg (de_int)))) (dss_one (ds_app (de_var 1) (de_tup (da_cons (de_var 2) (da_cons (de_var 3) (da_cons (de_var 4) (da_nil)))))))))) (dss_one (ds_ret (de_var 1)))))
theorem sc_cut_out : FnScope ["rows", "others", "found", "house", "first", "last", "other", "begin", "end"] ["rows", "others"] (defScope s_cut_out) := ⟨rfl, rfl, rfl, by decide +kernel, rfl, by decide +kernel, by decide +kernel⟩
theorem ok_cut_out {f : Addr} {fd : FuncData} (G : Glob mg) (C : ClsF w K cad mg)
    (F : Fun K "cut_out" "cut_out" s_cut_out f fd) (hm : mg "cut_out" = some (.ref f)) : Def0 P w K mg base cad "cut_out" 1 2 m_cut_out := by
  have hb : Binds K fd ["rows", "others"] [] := F.binds (ps := ["rows", "others"]) fun _ _ _ _ _ _ us hl => match us, hl with | [_, _], _ => rfl
  exact mk0 (N := ["rows", "others", "found", "house", "first", "last", "other", "begin", "end"]) (ps := ["rows", "others"]) (k := 0) (b := b_cut_out) F sc_cut_out hm hb (fun cdv A outer s H E E0 hcd hr tk hp => by
    have hU := hU_of hr
    unfold b_cut_out
    unfold b_cut_out_2
    unfold b_cut_out_1
    exact dss_cons (ds_own 2 sc_cut_out.nd (de_lst (da_nil))) (dss_cons (ds_for hp rfl (di_seq (de_var 0)) (pg_tup rfl (pgs_cons (pg_name (i := 3) sc_cut_out.nd rfl (by first | exact Or.inl rfl | exact Or.inr rfl)) (pgs_cons (pg_name (i := 4) sc_cut_out.nd rfl (by first | exact Or.inl rfl | exact Or.inr rfl)) (pgs_cons (pg_name (i := 5) sc_cut_out.nd rfl (by first | exact Or.inl rfl | exact Or.inr rfl)) (pgs_nil))))) (g_tup [3, 4, 5] rfl) (dss_cons (ds_for hp rfl (di_seq (de_var 1)) (pg_tup rfl (pgs_cons (pg_name (i := 6) sc_cut_out.nd rfl (by first | exact Or.inl rfl | exact Or.inr rfl)) (pgs_cons (pg_name (i := 7) sc_cut_out.nd rfl (by first | exact Or.inl rfl | exact Or.inr rfl)) (pgs_cons (pg_name (i := 8) sc_cut_out.nd rfl (by first | exact Or.inl rfl | exact Or.inr rfl)) (pgs_nil))))) (g_tup [6, 7, 8] rfl) (dss_one (ds_if (PW.pt (dw_and (dt_cmp (op_eqA hU) sd_eq (de_var 6) (de_var 3)) (dw_and (dt_cmp (op_leA hU) sd_ord (de_var 7) (de_var 5)) (pw_and1 (dt_cmp (op_leA hU) sd_ord (de_var 4) (de_var 8)))))) (dss_cons (ds_if (dt_cmp (op_ltA hU) sd_ord (de_var 4) (de_var 7)) (dss_one (ds_app (de_var 2) (de_tup (da_cons (de_var 3) (da_cons (de_var 4) (da_cons (de_bin op_subA sd_sub (de_var 7) (de_int)) (da_nil))))))) (dss_nil)) (dss_one (ds_set 4 sc_cut_out.nd (de_bin op_addA sd_add (de_var 8) (de_int))))) (dss_nil)))) (dss_one (ds_if (dt_cmp (op_leA hU) sd_ord (de_var 4) (de_var 5)) (dss_one (ds_app (de_var 2) (de_tup (da_cons (de_var 3) (da_cons (de_var 4) (da_cons (de_var 5) (da_nil))))))) (dss_nil))))) (dss_one (ds_ret (de_var 2)))))
theorem sc_in_both : FnScope ["rows", "others", "found", "house", "first", "last", "other", "begin", "end"] ["rows", "others"] (defScope s_in_both) := ⟨rfl, rfl, rfl, by decide +kernel, rfl, by decide +kernel, by decide +kernel⟩
theorem ok_in_both {f : Addr} {fd : FuncData} (G : Glob mg) (C : ClsF w K cad mg)
    (F : Fun K "in_both" "in_both" s_in_both f fd) (hm : mg "in_both" = some (.ref f)) : Def0 P w K mg base cad "in_both" 1 2 m_in_both := by
  have hb : Binds K fd ["rows", "others"] [] := F.binds (ps := ["rows", "others"]) fun _ _ _ _ _ _ us hl => match us, hl with | [_, _], _ => rfl
  exact mk0 (N := ["rows", "others", "found", "house", "first", "last", "other", "begin", "end"]) (ps := ["rows", "others"]) (k := 0) (b := b_in_both) F sc_in_both hm hb (fun cdv A outer s H E E0 hcd hr tk hp => by
    have hU := hU_of hr
    unfold b_in_both
    unfold b_in_both_2
    unfold b_in_both_1
    exact dss_cons (ds_own 2 sc_in_both.nd (de_lst (da_nil))) (dss_cons (ds_for hp rfl (di_seq (de_var 0)) (pg_tup rfl (pgs_cons (pg_name (i := 3) sc_in_both.nd rfl (by first | exact Or.inl rfl | exact Or.inr rfl)) (pgs_cons (pg_name (i := 4) sc_in_both.nd rfl (by first | exact Or.inl rfl | exact Or.inr rfl)) (pgs_cons (pg_name (i := 5) sc_in_both.nd rfl (by first | exact Or.inl rfl | exact Or.inr rfl)) (pgs_nil))))) (g_tup [3, 4, 5] rfl) (dss_one (ds_for hp rfl (di_seq (de_var 1)) (pg_tup rfl (pgs_cons (pg_name (i := 6) sc_in_both.nd rfl (by first | exact Or.inl rfl | exact Or.inr rfl)) (pgs_cons (pg_name (i := 7) sc_in_both.nd rfl (by first | exact Or.inl rfl | exact Or.inr rfl)) (pgs_cons (pg_name (i := 8) sc_in_both.nd rfl (by first | exact Or.inl rfl | exact Or.inr rfl)) (pgs_nil))))) (g_tup [6, 7, 8] rfl) (dss_one (ds_if (PW.pt (dw_and (dt_cmp (op_eqA hU) sd_eq (de_var 6) (de_var 3)) (pw_and1 (dt_cmp (op_leA hU) sd_ord (de_callB (call_max2 (by rfl)) sd_max2 (by rfl) G.max bb_max (do_cons (de_var 4) (do_cons (de_var 7) (do_nil)))) (de_callB (call_min2 (by rfl)) sd_min2 (by rfl) G.min bb_min (do_cons (de_var 5) (do_cons (de_var 8) (do_nil)))))))) (dss_one (ds_app (de_var 2) (de_tup (da_cons (de_var 3) (da_cons (de_callB (call_max2 (by rfl)) sd_max2 (by rfl) G.max bb_max (do_cons (de_var 4) (do_cons (de_var 7) (do_nil)))) (da_cons (de_callB (call_min2 (by rfl)) sd_min2 (by rfl) G.min bb_min (do_cons (de_var 5) (do_cons (de_var 8) (do_nil)))) (da_nil))))))) (dss_nil)))))) (dss_one (ds_ret (de_var 2)))))
theorem sc_held : FnScope ["rows", "house", "number", "row"] ["rows", "house", "number"] (defScope s_held) := ⟨rfl, rfl, rfl, by decide +kernel, rfl, by decide +kernel, by decide +kernel⟩
theorem ok_held {f : Addr} {fd : FuncData} (G : Glob mg) (C : ClsF w K cad mg)
    (F : Fun K "held" "held" s_held f fd) (hm : mg "held" = some (.ref f)) : Def0 P w K mg base cad "held" 1 3 m_held := by
  have hb : Binds K fd ["rows", "house", "number"] [] := F.binds (ps := ["rows", "house", "number"]) fun _ _ _ _ _ _ us hl => match us, hl with | [_, _, _], _ => rfl
  exact mk0 (N := ["rows", "house", "number", "row"]) (ps := ["rows", "house", "number"]) (k := 0) (b := b_held) F sc_held hm hb (fun cdv A outer s H E E0 hcd hr tk hp => by
    have hU := hU_of hr
    unfold b_held
    unfold e_held_1
    unfold t_held_1
    exact dss_one (ds_ret (de_cmp (op_neA hU) sd_ne (de_lc (own := [("row", 3)]) rfl sc_held.nd (di_seq (de_var 0)) (blkOk_by (own := [("row", 3)]) (N := ["rows", "house", "number", "row"]) (sc := defScope s_held) (by decide +kernel)) (fun _ _ _ _ _ => pg_name (i := 3) sc_held.nd rfl (by first | exact Or.inl rfl | exact Or.inr rfl)) (g_name 3) (fun _ _ _ _ _ => pts_one (PW.pt (dw_and (dt_cmp (op_eqA hU) sd_eq (de_ix (ix_all hU) sd_ix (de_var 3) (de_int)) (de_var 1)) (pw_and1 (dt_ch2 (op_leA hU) sd_ord (op_leA hU) sd_ord (de_ix (ix_all hU) sd_ix (de_var 3) (de_int)) (de_var 2) (de_ix (ix_all hU) sd_ix (de_var 3) (de_int))))))) (fun _ _ _ _ _ => de_var 3)) (de_lst (da_nil)))))
theorem sc_count_of : FnScope ["rows", "row"] ["rows"] (defScope s_count_of) := ⟨rfl, rfl, rfl, by decide +kernel, rfl, by decide +kernel, by decide +kernel⟩
theorem ok_count_of {f : Addr} {fd : FuncData} (G : Glob mg) (C : ClsF w K cad mg)
    (F : Fun K "count_of" "count_of" s_count_of f fd) (hm : mg "count_of" = some (.ref f)) : Def0 P w K mg base cad "count_of" 1 1 m_count_of := by
  have hb : Binds K fd ["rows"] [] := F.binds (ps := ["rows"]) fun _ _ _ _ _ _ us hl => match us, hl with | [_], _ => rfl
  exact mk0 (N := ["rows", "row"]) (ps := ["rows"]) (k := 0) (b := b_count_of) F sc_count_of hm hb (fun cdv A outer s H E E0 hcd hr tk hp => by
    have hU := hU_of hr
    unfold b_count_of
    unfold e_count_of_1
    exact dss_one (ds_ret (de_callB (cr_sum (by rfl)) sd_sum (by rfl) G.sum bb_sum (do_cons (de_lc (own := [("row", 1)]) rfl sc_count_of.nd (di_seq (de_var 0)) (blkOk_by (own := [("row", 1)]) (N := ["rows", "row"]) (sc := defScope s_count_of) (by decide +kernel)) (fun _ _ _ _ _ => pg_name (i := 1) sc_count_of.nd rfl (by first | exact Or.inl rfl | exact Or.inr rfl)) (g_name 1) (fun _ _ _ _ _ => dts_nil) (fun _ _ _ _ _ => de_bin op_addA sd_add (de_bin op_subA sd_sub (de_ix (ix_all hU) sd_ix (de_var 1) (de_int)) (de_ix (ix_all hU) sd_ix (de_var 1) (de_int))) (de_int))) (do_nil)))))
theorem sc_plain : FnScope ["rows"] ["rows"] (defScope s_plain) := ⟨rfl, rfl, rfl, by decide +kernel, rfl, by decide +kernel, by decide +kernel⟩
theorem ok_plain {f : Addr} {fd : FuncData} (G : Glob mg) (C : ClsF w K cad mg)
    (d_merged : Def0 P w K mg base cad "merged" 1 1 m_merged)
    (d_need_rows : Def0 P w K mg base cad "need_rows" 3 1 m_need_rows)
    (F : Fun K "plain" "plain" s_plain f fd) (hm : mg "plain" = some (.ref f)) : Def0 P w K mg base cad "plain" 4 1 m_plain := by
  have hb : Binds K fd ["rows"] [] := F.binds (ps := ["rows"]) fun _ _ _ _ _ _ us hl => match us, hl with | [_], _ => rfl
  exact mk0 (N := ["rows"]) (ps := ["rows"]) (k := 3) (b := b_plain) F sc_plain hm hb (fun cdv A outer s H E E0 hcd hr tk hp => by
    have hU := hU_of hr
    unfold b_plain
    exact dss_cons (ds_drop (de_callX tk d_need_rows hr (by decide) (by rfl) (da_cons (de_var 0) (da_nil)) (aLenS (aLen0)))) (dss_one (ds_ret (de_callD d_merged hr (by decide) (by rfl) (da_cons (de_var 0) (da_nil)) (aLenS (aLen0))))))
theorem sc_joined : FnScope ["one", "other"] ["one", "other"] (defScope s_joined) := ⟨rfl, rfl, rfl, by decide +kernel, rfl, by decide +kernel, by decide +kernel⟩
theorem ok_joined {f : Addr} {fd : FuncData} (G : Glob mg) (C : ClsF w K cad mg)
    (d_merged : Def0 P w K mg base cad "merged" 1 1 m_merged)
    (d_plain : Def0 P w K mg base cad "plain" 4 1 m_plain)
    (F : Fun K "joined" "joined" s_joined f fd) (hm : mg "joined" = some (.ref f)) : Def0 P w K mg base cad "joined" 5 2 m_joined := by
  have hb : Binds K fd ["one", "other"] [] := F.binds (ps := ["one", "other"]) fun _ _ _ _ _ _ us hl => match us, hl with | [_, _], _ => rfl
  exact mk0 (N := ["one", "other"]) (ps := ["one", "other"]) (k := 4) (b := b_joined) F sc_joined hm hb (fun cdv A outer s H E E0 hcd hr tk hp => by
    have hU := hU_of hr
    unfold b_joined
    exact dss_one (ds_ret (de_callD d_merged hr (by decide) (by rfl) (da_cons (de_bin op_addA sd_add (de_callX tk d_plain hr (by decide) (by rfl) (da_cons (de_var 0) (da_nil)) (aLenS (aLen0))) (de_callX tk d_plain hr (by decide) (by rfl) (da_cons (de_var 1) (da_nil)) (aLenS (aLen0)))) (da_nil)) (aLenS (aLen0)))))
theorem sc_common : FnScope ["one", "other"] ["one", "other"] (defScope s_common) := ⟨rfl, rfl, rfl, by decide +kernel, rfl, by decide +kernel, by decide +kernel⟩
theorem ok_common {f : Addr} {fd : FuncData} (G : Glob mg) (C : ClsF w K cad mg)
    (d_in_both : Def0 P w K mg base cad "in_both" 1 2 m_in_both)
    (d_plain : Def0 P w K mg base cad "plain" 4 1 m_plain)
    (F : Fun K "common" "common" s_common f fd) (hm : mg "common" = some (.ref f)) : Def0 P w K mg base cad "common" 5 2 m_common := by
  have hb : Binds K fd ["one", "other"] [] := F.binds (ps := ["one", "other"]) fun _ _ _ _ _ _ us hl => match us, hl with | [_, _], _ => rfl
  exact mk0 (N := ["one", "other"]) (ps := ["one", "other"]) (k := 4) (b := b_common) F sc_common hm hb (fun cdv A outer s H E E0 hcd hr tk hp => by
    have hU := hU_of hr
    unfold b_common
    exact dss_one (ds_ret (de_callD d_in_both hr (by decide) (by rfl) (da_cons (de_callX tk d_plain hr (by decide) (by rfl) (da_cons (de_var 0) (da_nil)) (aLenS (aLen0))) (da_cons (de_callX tk d_plain hr (by decide) (by rfl) (da_cons (de_var 1) (da_nil)) (aLenS (aLen0))) (da_nil))) (aLenS (aLenS (aLen0))))))
theorem sc_less : FnScope ["one", "other"] ["one", "other"] (defScope s_less) := ⟨rfl, rfl, rfl, by decide +kernel, rfl, by decide +kernel, by decide +kernel⟩
theorem ok_less {f : Addr} {fd : FuncData} (G : Glob mg) (C : ClsF w K cad mg)
    (d_cut_out : Def0 P w K mg base cad "cut_out" 1 2 m_cut_out)
    (d_plain : Def0 P w K mg base cad "plain" 4 1 m_plain)
    (F : Fun K "less" "less" s_less f fd) (hm : mg "less" = some (.ref f)) : Def0 P w K mg base cad "less" 5 2 m_less := by
  have hb : Binds K fd ["one", "other"] [] := F.binds (ps := ["one", "other"]) fun _ _ _ _ _ _ us hl => match us, hl with | [_, _], _ => rfl
  exact mk0 (N := ["one", "other"]) (ps := ["one", "other"]) (k := 4) (b := b_less) F sc_less hm hb (fun cdv A outer s H E E0 hcd hr tk hp => by
    have hU := hU_of hr
    unfold b_less
    exact dss_one (ds_ret (de_callD d_cut_out hr (by decide) (by rfl) (da_cons (de_callX tk d_plain hr (by decide) (by rfl) (da_cons (de_var 0) (da_nil)) (aLenS (aLen0))) (da_cons (de_callX tk d_plain hr (by decide) (by rfl) (da_cons (de_var 1) (da_nil)) (aLenS (aLen0))) (da_nil))) (aLenS (aLenS (aLen0))))))
theorem sc_within : FnScope ["one", "other"] ["one", "other"] (defScope s_within) := ⟨rfl, rfl, rfl, by decide +kernel, rfl, by decide +kernel, by decide +kernel⟩
theorem ok_within {f : Addr} {fd : FuncData} (G : Glob mg) (C : ClsF w K cad mg)
    (d_less : Def0 P w K mg base cad "less" 5 2 m_less)
    (F : Fun K "within" "within" s_within f fd) (hm : mg "within" = some (.ref f)) : Def0 P w K mg base cad "within" 6 2 m_within := by
  have hb : Binds K fd ["one", "other"] [] := F.binds (ps := ["one", "other"]) fun _ _ _ _ _ _ us hl => match us, hl with | [_, _], _ => rfl
  exact mk0 (N := ["one", "other"]) (ps := ["one", "other"]) (k := 5) (b := b_within) F sc_within hm hb (fun cdv A outer s H E E0 hcd hr tk hp => by
    have hU := hU_of hr
    unfold b_within
    exact dss_one (ds_ret (de_cmp (op_eqA hU) sd_eq (de_callX tk d_less hr (by decide) (by rfl) (da_cons (de_var 0) (da_cons (de_var 1) (da_nil))) (aLenS (aLenS (aLen0)))) (de_lst (da_nil)))))
theorem sc_has : FnScope ["rows", "house", "number"] ["rows", "house", "number"] (defScope s_has) := ⟨rfl, rfl, rfl, by decide +kernel, rfl, by decide +kernel, by decide +kernel⟩
theorem ok_has {f : Addr} {fd : FuncData} (G : Glob mg) (C : ClsF w K cad mg)
    (d_held : Def0 P w K mg base cad "held" 1 3 m_held)
    (d_need_house : Def0 P w K mg base cad "need_house" 3 1 m_need_house)
    (d_need_rows : Def0 P w K mg base cad "need_rows" 3 1 m_need_rows)
    (F : Fun K "has" "has" s_has f fd) (hm : mg "has" = some (.ref f)) : Def0 P w K mg base cad "has" 4 3 m_has := by
  have hb : Binds K fd ["rows", "house", "number"] [] := F.binds (ps := ["rows", "house", "number"]) fun _ _ _ _ _ _ us hl => match us, hl with | [_, _, _], _ => rfl
  exact mk0 (N := ["rows", "house", "number"]) (ps := ["rows", "house", "number"]) (k := 3) (b := b_has) F sc_has hm hb (fun cdv A outer s H E E0 hcd hr tk hp => by
    have hU := hU_of hr
    unfold b_has
    exact dss_cons (ds_drop (de_callX tk d_need_rows hr (by decide) (by rfl) (da_cons (de_var 0) (da_nil)) (aLenS (aLen0)))) (dss_cons (ds_drop (de_callX tk d_need_house hr (by decide) (by rfl) (da_cons (de_var 1) (da_nil)) (aLenS (aLen0)))) (dss_one (ds_ret (de_callD d_held hr (by decide) (by rfl) (da_cons (de_var 0) (da_cons (de_var 1) (da_cons (de_var 2) (da_nil)))) (aLenS (aLenS (aLenS (aLen0)))))))))
theorem sc_amount : FnScope ["rows"] ["rows"] (defScope s_amount) := ⟨rfl, rfl, rfl, by decide +kernel, rfl, by decide +kernel, by decide +kernel⟩
theorem ok_amount {f : Addr} {fd : FuncData} (G : Glob mg) (C : ClsF w K cad mg)
    (d_count_of : Def0 P w K mg base cad "count_of" 1 1 m_count_of)
    (d_plain : Def0 P w K mg base cad "plain" 4 1 m_plain)
    (F : Fun K "amount" "amount" s_amount f fd) (hm : mg "amount" = some (.ref f)) : Def0 P w K mg base cad "amount" 5 1 m_amount := by
  have hb : Binds K fd ["rows"] [] := F.binds (ps := ["rows"]) fun _ _ _ _ _ _ us hl => match us, hl with | [_], _ => rfl
  exact mk0 (N := ["rows"]) (ps := ["rows"]) (k := 4) (b := b_amount) F sc_amount hm hb (fun cdv A outer s H E E0 hcd hr tk hp => by
    have hU := hU_of hr
    unfold b_amount
    exact dss_one (ds_ret (de_callD d_count_of hr (by decide) (by rfl) (da_cons (de_callX tk d_plain hr (by decide) (by rfl) (da_cons (de_var 0) (da_nil)) (aLenS (aLen0))) (da_nil)) (aLenS (aLen0)))))
theorem sc_reach : FnScope ["rows", "house", "other", "first", "last"] ["rows", "house"] (defScope s_reach) := ⟨rfl, rfl, rfl, by decide +kernel, rfl, by decide +kernel, by decide +kernel⟩
theorem ok_reach {f : Addr} {fd : FuncData} (G : Glob mg) (C : ClsF w K cad mg)
    (F : Fun K "reach" "reach" s_reach f fd) (hm : mg "reach" = some (.ref f)) : Def0 P w K mg base cad "reach" 1 2 m_reach := by
  have hb : Binds K fd ["rows", "house"] [] := F.binds (ps := ["rows", "house"]) fun _ _ _ _ _ _ us hl => match us, hl with | [_, _], _ => rfl
  exact mk0 (N := ["rows", "house", "other", "first", "last"]) (ps := ["rows", "house"]) (k := 0) (b := b_reach) F sc_reach hm hb (fun cdv A outer s H E E0 hcd hr tk hp => by
    have hU := hU_of hr
    unfold b_reach
    unfold b_reach_1
    exact dss_cons (ds_for hp rfl (di_seq (de_var 0)) (pg_tup rfl (pgs_cons (pg_name (i := 2) sc_reach.nd rfl (by first | exact Or.inl rfl | exact Or.inr rfl)) (pgs_cons (pg_name (i := 3) sc_reach.nd rfl (by first | exact Or.inl rfl | exact Or.inr rfl)) (pgs_cons (pg_name (i := 4) sc_reach.nd rfl (by first | exact Or.inl rfl | exact Or.inr rfl)) (pgs_nil))))) (g_tup [2, 3, 4] rfl) (dss_one (ds_if (PW.pt (dw_and (dt_cmp (op_eqA hU) sd_eq (de_var 2) (de_var 1)) (pw_and1 (dt_cmp (op_eqA hU) sd_eq (de_var 3) (de_int))))) (dss_one (ds_ret (de_var 4))) (dss_nil)))) (dss_one (ds_ret (de_int))))
theorem sc_whole_to : FnScope ["rows", "house", "some"] ["rows", "house"] (defScope s_whole_to) := ⟨rfl, rfl, rfl, by decide +kernel, rfl, by decide +kernel, by decide +kernel⟩
theorem ok_whole_to {f : Addr} {fd : FuncData} (G : Glob mg) (C : ClsF w K cad mg)
    (d_need_house : Def0 P w K mg base cad "need_house" 3 1 m_need_house)
    (d_plain : Def0 P w K mg base cad "plain" 4 1 m_plain)
    (d_reach : Def0 P w K mg base cad "reach" 1 2 m_reach)
    (F : Fun K "whole_to" "whole_to" s_whole_to f fd) (hm : mg "whole_to" = some (.ref f)) : Def0 P w K mg base cad "whole_to" 5 2 m_whole_to := by
  have hb : Binds K fd ["rows", "house"] [] := F.binds (ps := ["rows", "house"]) fun _ _ _ _ _ _ us hl => match us, hl with | [_, _], _ => rfl
  exact mk0 (N := ["rows", "house", "some"]) (ps := ["rows", "house"]) (k := 4) (b := b_whole_to) F sc_whole_to hm hb (fun cdv A outer s H E E0 hcd hr tk hp => by
    have hU := hU_of hr
    unfold b_whole_to
    exact dss_cons (ds_set 2 sc_whole_to.nd (de_callX tk d_plain hr (by decide) (by rfl) (da_cons (de_var 0) (da_nil)) (aLenS (aLen0)))) (dss_cons (ds_drop (de_callX tk d_need_house hr (by decide) (by rfl) (da_cons (de_var 1) (da_nil)) (aLenS (aLen0)))) (dss_one (ds_ret (de_callD d_reach hr (by decide) (by rfl) (da_cons (de_var 2) (da_cons (de_var 1) (da_nil))) (aLenS (aLenS (aLen0))))))))
theorem sc_gaps : FnScope ["rows", "some", "last", "house", "first", "end"] ["rows"] (defScope s_gaps) := ⟨rfl, rfl, rfl, by decide +kernel, rfl, by decide +kernel, by decide +kernel⟩
theorem ok_gaps {f : Addr} {fd : FuncData} (G : Glob mg) (C : ClsF w K cad mg)
    (d_cut_out : Def0 P w K mg base cad "cut_out" 1 2 m_cut_out)
    (d_plain : Def0 P w K mg base cad "plain" 4 1 m_plain)
    (F : Fun K "gaps" "gaps" s_gaps f fd) (hm : mg "gaps" = some (.ref f)) : Def0 P w K mg base cad "gaps" 5 1 m_gaps := by
  have hb : Binds K fd ["rows"] [] := F.binds (ps := ["rows"]) fun _ _ _ _ _ _ us hl => match us, hl with | [_], _ => rfl
  exact mk0 (N := ["rows", "some", "last", "house", "first", "end"]) (ps := ["rows"]) (k := 4) (b := b_gaps) F sc_gaps hm hb (fun cdv A outer s H E E0 hcd hr tk hp => by
    have hU := hU_of hr
    unfold b_gaps
    unfold e_gaps_1
    unfold b_gaps_1
    exact dss_cons (ds_set 1 sc_gaps.nd (de_callX tk d_plain hr (by decide) (by rfl) (da_cons (de_var 0) (da_nil)) (aLenS (aLen0)))) (dss_cons (ds_own 2 sc_gaps.nd (de_dK)) (dss_cons (ds_for hp rfl (di_seq (de_var 1)) (pg_tup rfl (pgs_cons (pg_name (i := 3) sc_gaps.nd rfl (by first | exact Or.inl rfl | exact Or.inr rfl)) (pgs_cons (pg_name (i := 4) sc_gaps.nd rfl (by first | exact Or.inl rfl | exact Or.inr rfl)) (pgs_cons (pg_name (i := 5) sc_gaps.nd rfl (by first | exact Or.inl rfl | exact Or.inr rfl)) (pgs_nil))))) (g_tup [3, 4, 5] rfl) (dss_one (ds_setit hU (de_var 5) (de_var 2) (de_var 3)))) (dss_one (ds_ret (de_callD d_cut_out hr (by decide) (by rfl) (da_cons (de_lc (own := [("house", 3)]) rfl sc_gaps.nd (di_seq (de_callB (cr_srtB (by rfl)) sd_srtB (by rfl) G.sorted bb_sorted (do_cons (de_var 2) (do_nil)))) (blkOk_by (own := [("house", 3)]) (N := ["rows", "some", "last", "house", "first", "end"]) (sc := defScope s_gaps) (by decide +kernel)) (fun _ _ _ _ _ => pg_name (i := 3) sc_gaps.nd rfl (by first | exact Or.inl rfl | exact Or.inr rfl)) (g_name 3) (fun _ _ _ _ _ => dts_nil) (fun _ _ _ _ _ => de_tup (da_cons (de_var 3) (da_cons (de_int) (da_cons (de_ix (ix_all hU) sd_ix (de_var 2) (de_var 3)) (da_nil)))))) (da_cons (de_var 1) (da_nil))) (aLenS (aLenS (aLen0)))))))))
theorem sc__law_dice : FnScope ["_law_script", "_law_mixed", "_law_cell"] ["_law_script"] (defScope s__law_dice) := ⟨rfl, rfl, rfl, by decide +kernel, rfl, by decide +kernel, by decide +kernel⟩
theorem ok__law_dice {f : Addr} {fd : FuncData} (G : Glob mg) (C : ClsF w K cad mg)
    (F : Fun K "_law_dice" "_law_dice" s__law_dice f fd) (hm : mg "_law_dice" = some (.ref f)) : Def0 P w K mg base cad "_law_dice" 1 1 m__law_dice := by
  have hb : Binds K fd ["_law_script"] [] := F.binds (ps := ["_law_script"]) fun _ _ _ _ _ _ us hl => match us, hl with | [_], _ => rfl
  exact mk0 (N := ["_law_script", "_law_mixed", "_law_cell"]) (ps := ["_law_script"]) (k := 0) (b := b__law_dice) F sc__law_dice hm hb (fun cdv A outer s H E E0 hcd hr tk hp => by
    have hU := hU_of hr
    unfold b__law_dice
    unfold b__law_dice_1
    exact dss_cons (ds_set 1 sc__law_dice.nd (de_int)) (dss_cons (ds_for hp rfl (di_seq (de_var 0)) (pg_name (i := 2) sc__law_dice.nd rfl (by first | exact Or.inl rfl | exact Or.inr rfl)) (g_name 2) (dss_one (ds_set 1 sc__law_dice.nd (de_bin op_mod sd_mod (de_bin op_addA sd_add (de_bin op_addA sd_add (de_bin op_mulA sd_mul (de_var 1) (de_int)) (de_bin op_mulA sd_mul (de_bin op_mod sd_mod (de_var 2) (de_int)) (de_int))) (de_int)) (de_int))))) (dss_one (ds_ret (de_lst (da_cons (de_var 0) (da_cons (de_int) (da_cons (de_bin op_mulA sd_mul (de_var 1) (de_callTy call_intB sd_intB (by rfl) G.int bb_int (do_cons (de_cmp (op_gtA hU) sd_ord (de_callB call_lenB sd_lenB (by rfl) G.len bb_len (do_cons (de_var 0) (do_nil))) (de_int)) (do_nil)))) (da_cons (de_int) (da_nil))))))))))
theorem sc__law_next : FnScope ["_law_dice_here", "_law_many", "_law_found", "_law_cell"] ["_law_dice_here", "_law_many"] (defScope s__law_next) := ⟨rfl, rfl, rfl, by decide +kernel, rfl, by decide +kernel, by decide +kernel⟩
theorem ok__law_next {f : Addr} {fd : FuncData} (G : Glob mg) (C : ClsF w K cad mg)
    (F : Fun K "_law_next" "_law_next" s__law_next f fd) (hm : mg "_law_next" = some (.ref f)) : Def0 P w K mg base cad "_law_next" 1 2 m__law_next := by
  have hb : Binds K fd ["_law_dice_here", "_law_many"] [] := F.binds (ps := ["_law_dice_here", "_law_many"]) fun _ _ _ _ _ _ us hl => match us, hl with | [_, _], _ => rfl
  exact mk0 (N := ["_law_dice_here", "_law_many", "_law_found", "_law_cell"]) (ps := ["_law_dice_here", "_law_many"]) (k := 0) (b := b__law_next) F sc__law_next hm hb (fun cdv A outer s H E E0 hcd hr tk hp => by
    have hU := hU_of hr
    unfold b__law_next
    exact dss_cons (ds_if (dt_cmp (op_gtA hU) sd_ord (de_ix (ix_all hU) sd_ix (de_var 0) (de_int)) (de_int)) (dss_cons (ds_set 2 sc__law_next.nd (de_bin op_mod sd_mod (de_ix (ix_all hU) sd_ix (de_var 0) (de_int)) (de_var 1))) (dss_cons (ds_setit hU (de_bin op_fdivW sd_div (de_ix (ix_all hU) sd_ix (de_var 0) (de_int)) (de_var 1)) (de_var 0) (de_int)) (dss_one (ds_ret (de_var 2))))) (dss_nil)) (dss_cons (ds_setit hU (de_bin op_addA sd_add (de_ix (ix_all hU) sd_ix (de_var 0) (de_int)) (de_int)) (de_var 0) (de_int)) (dss_cons (ds_if (dt_cmp (op_leA hU) sd_ord (de_ix (ix_all hU) sd_ix (de_var 0) (de_int)) (de_callB call_lenB sd_lenB (by rfl) G.len bb_len (do_cons (de_ix (ix_all hU) sd_ix (de_var 0) (de_int)) (do_nil)))) (dss_cons (ds_set 3 sc__law_next.nd (de_ix (ix_all hU) sd_ix (de_ix (ix_all hU) sd_ix (de_var 0) (de_int)) (de_bin op_subA sd_sub (de_ix (ix_all hU) sd_ix (de_var 0) (de_int)) (de_int)))) (dss_cons (ds_setit hU (de_ifx (dt_cmp (op_geA hU) sd_ord (de_var 3) (de_bin op_pow sd_pow (de_int) (de_int))) (de_bin op_fdivW sd_div (de_var 3) (de_var 1)) (de_int)) (de_var 0) (de_int)) (dss_one (ds_ret (de_bin op_mod sd_mod (de_var 3) (de_var 1)))))) (dss_nil)) (dss_cons (ds_setit hU (de_bin op_mod sd_mod (de_bin op_mulA sd_mul (de_ix (ix_all hU) sd_ix (de_var 0) (de_int)) (de_int)) (de_int)) (de_var 0) (de_int)) (dss_one (ds_ret (de_bin op_mod sd_mod (de_bin op_fdivW sd_div (de_ix (ix_all hU) sd_ix (de_var 0) (de_int)) (de_int)) (de_var 1))))))))
theorem sc__law_like : FnScope ["_law_found", "_law_due", "_law_k"] ["_law_found", "_law_due"] (defScope s__law_like) := ⟨rfl, rfl, rfl, by decide +kernel, rfl, by decide +kernel, by decide +kernel⟩
theorem ok__law_like {f : Addr} {fd : FuncData} (G : Glob mg) (C : ClsF w K cad mg)
    (F : Fun K "_law_like" "_law_like" s__law_like f fd) (hm : mg "_law_like" = some (.ref f)) : ∀ n, Def0 P w K mg base cad "_law_like" (n + 1) 2 (m__law_like n)
  | 0 => rec0 F sc__law_like hm (F.binds (ps := ["_law_found", "_law_due"]) fun _ _ _ _ _ _ us hl => match us, hl with | [_, _], _ => rfl)
  | n + 1 => by
    have hb : Binds K fd ["_law_found", "_law_due"] [] := F.binds (ps := ["_law_found", "_law_due"]) fun _ _ _ _ _ _ us hl => match us, hl with | [_, _], _ => rfl
    have d__law_like := ok__law_like G C  F hm n
    exact mk0 (k := n + 1) (b := b__law_like (m__law_like n)) F sc__law_like hm hb (fun cdv A outer s H E E0 hcd hr tk hp => by
    have hU := hU_of hr
    unfold b__law_like
    unfold b__law_like_1
    exact dss_cons (ds_if (dt_val (de_isi (by decide) (by rfl) G.isinstance (by rfl) G.bool bb_bool (de_var 1))) (dss_one (ds_ret (PB.v (pb_and (pb_val (de_isi (by decide) (by rfl) G.isinstance (by rfl) G.bool bb_bool (de_var 0))) (pb_one (pb_val (de_cmp (op_eqA hU) sd_eq (de_var 0) (de_var 1)))))))) (dss_nil)) (dss_cons (ds_if (dt_val (de_isi (by decide) (by rfl) G.isinstance (by rfl) G.str bb_str (de_var 1))) (dss_one (ds_ret (PB.v (pb_and (pb_val (de_isi (by decide) (by rfl) G.isinstance (by rfl) G.str bb_str (de_var 0))) (pb_one (pb_val (de_cmp (op_eqA hU) sd_eq (de_var 0) (de_var 1)))))))) (dss_nil)) (dss_cons (ds_if (dt_val (de_isi (by decide) (by rfl) G.isinstance (by rfl) G.int bb_int (de_var 1))) (dss_one (ds_ret (PB.v (pb_and (pb_val (de_isi (by decide) (by rfl) G.isinstance (by rfl) G.int bb_int (de_var 0))) (pb_and (pb_not (pb_val (de_isi (by decide) (by rfl) G.isinstance (by rfl) G.bool bb_bool (de_var 0)))) (pb_one (pb_val (de_cmp (op_eqA hU) sd_eq (de_var 0) (de_var 1))))))))) (dss_nil)) (dss_cons (ds_if (dt_cmp op_isN sd_is (de_var 1) (de_non)) (dss_one (ds_ret (de_cmp op_isN sd_is (de_var 0) (de_non)))) (dss_nil)) (dss_cons (ds_if (PW.pt (dw_or (dt_cmp (op_neA hU) sd_ne (de_isi (by decide) (by rfl) G.isinstance (by rfl) G.tuple bb_tuple (de_var 1)) (de_isi (by decide) (by rfl) G.isinstance (by rfl) G.tuple bb_tuple (de_var 0))) (pw_or1 (dt_cmp (op_neA hU) sd_ne (de_isi (by decide) (by rfl) G.isinstance (by rfl) G.list bb_list (de_var 1)) (de_isi (by decide) (by rfl) G.isinstance (by rfl) G.list bb_list (de_var 0)))))) (dss_one (ds_ret (de_bl))) (dss_nil)) (dss_cons (ds_if (dt_cmp (op_neA hU) sd_ne (de_callB call_lenB sd_lenB (by rfl) G.len bb_len (do_cons (de_var 0) (do_nil))) (de_callB call_lenB sd_lenB (by rfl) G.len bb_len (do_cons (de_var 1) (do_nil)))) (dss_one (ds_ret (de_bl))) (dss_nil)) (dss_cons (ds_for hp rfl (di_range1 (by rfl) G.range (de_callB call_lenB sd_lenB (by rfl) G.len bb_len (do_cons (de_var 1) (do_nil)))) (pg_name (i := 2) sc__law_like.nd rfl (by first | exact Or.inl rfl | exact Or.inr rfl)) (g_name 2) (dss_one (ds_if (dt_not (dt_val (de_callD d__law_like hr (by omega) (by rfl) (da_cons (de_ix (ix_all hU) sd_ix (de_var 0) (de_var 2)) (da_cons (de_ix (ix_all hU) sd_ix (de_var 1) (de_var 2)) (da_nil))) (aLenS (aLenS (aLen0)))))) (dss_one (ds_ret (de_bl))) (dss_nil)))) (dss_one (ds_ret (de_bl))))))))))
theorem sc__law_rows : FnScope ["_law_d", "_law_houses", "_law_far", "_law_most", "_law_found", "_law_k", "_law_first", "_law_wide"] ["_law_d", "_law_houses", "_law_far", "_law_most"] (defScope s__law_rows) := ⟨rfl, rfl, rfl, by decide +kernel, rfl, by decide +kernel, by decide +kernel⟩
theorem ok__law_rows {f : Addr} {fd : FuncData} (G : Glob mg) (C : ClsF w K cad mg)
    (d__law_next : Def0 P w K mg base cad "_law_next" 1 2 m__law_next)
    (F : Fun K "_law_rows" "_law_rows" s__law_rows f fd) (hm : mg "_law_rows" = some (.ref f)) : Def0 P w K mg base cad "_law_rows" 2 4 m__law_rows := by
  have hb : Binds K fd ["_law_d", "_law_houses", "_law_far", "_law_most"] [] := F.binds (ps := ["_law_d", "_law_houses", "_law_far", "_law_most"]) fun _ _ _ _ _ _ us hl => match us, hl with | [_, _, _, _], _ => rfl
  exact mk0 (N := ["_law_d", "_law_houses", "_law_far", "_law_most", "_law_found", "_law_k", "_law_first", "_law_wide"]) (ps := ["_law_d", "_law_houses", "_law_far", "_law_most"]) (k := 1) (b := b__law_rows) F sc__law_rows hm hb (fun cdv A outer s H E E0 hcd hr tk hp => by
    have hU := hU_of hr
    unfold b__law_rows
    unfold b__law_rows_1
    exact dss_cons (ds_own 4 sc__law_rows.nd (de_lst (da_nil))) (dss_cons (ds_for hp rfl (di_range1 (by rfl) G.range (de_callD d__law_next hr (by decide) (by rfl) (da_cons (de_var 0) (da_cons (de_bin op_addA sd_add (de_var 3) (de_int)) (da_nil))) (aLenS (aLenS (aLen0))))) (pg_name (i := 5) sc__law_rows.nd rfl (by first | exact Or.inl rfl | exact Or.inr rfl)) (g_name 5) (dss_cons (ds_set 6 sc__law_rows.nd (de_bin op_addA sd_add (de_int) (de_callD d__law_next hr (by decide) (by rfl) (da_cons (de_var 0) (da_cons (de_var 2) (da_nil))) (aLenS (aLenS (aLen0)))))) (dss_cons (ds_set 7 sc__law_rows.nd (de_ix (ix_all hU) sd_ix (de_lst (da_cons (de_int) (da_cons (de_callD d__law_next hr (by decide) (by rfl) (da_cons (de_var 0) (da_cons (de_int) (da_nil))) (aLenS (aLenS (aLen0)))) (da_cons (de_callD d__law_next hr (by decide) (by rfl) (da_cons (de_var 0) (da_cons (de_var 2) (da_nil))) (aLenS (aLenS (aLen0)))) (da_nil))))) (de_callD d__law_next hr (by decide) (by rfl) (da_cons (de_var 0) (da_cons (de_int) (da_nil))) (aLenS (aLenS (aLen0)))))) (dss_one (ds_app (de_var 4) (de_tup (da_cons (de_callD d__law_next hr (by decide) (by rfl) (da_cons (de_var 0) (da_cons (de_var 1) (da_nil))) (aLenS (aLenS (aLen0)))) (da_cons (de_var 6) (da_cons (de_callB (call_min2 (by rfl)) sd_min2 (by rfl) G.min bb_min (do_cons (de_var 2) (do_cons (de_bin op_addA sd_add (de_var 6) (de_var 7)) (do_nil)))) (da_nil)))))))))) (dss_one (ds_ret (de_var 4)))))
theorem sc__law_moved : FnScope ["_law_rows_here", "_law_by", "_law_house", "_law_first", "_law_last"] ["_law_rows_here", "_law_by"] (defScope s__law_moved) := ⟨rfl, rfl, rfl, by decide +kernel, rfl, by decide +kernel, by decide +kernel⟩
theorem ok__law_moved {f : Addr} {fd : FuncData} (G : Glob mg) (C : ClsF w K cad mg)
    (F : Fun K "_law_moved" "_law_moved" s__law_moved f fd) (hm : mg "_law_moved" = some (.ref f)) : Def0 P w K mg base cad "_law_moved" 1 2 m__law_moved := by
  have hb : Binds K fd ["_law_rows_here", "_law_by"] [] := F.binds (ps := ["_law_rows_here", "_law_by"]) fun _ _ _ _ _ _ us hl => match us, hl with | [_, _], _ => rfl
  exact mk0 (N := ["_law_rows_here", "_law_by", "_law_house", "_law_first", "_law_last"]) (ps := ["_law_rows_here", "_law_by"]) (k := 0) (b := b__law_moved) F sc__law_moved hm hb (fun cdv A outer s H E E0 hcd hr tk hp => by
    have hU := hU_of hr
    unfold b__law_moved
    unfold e__law_moved_1
    exact dss_one (ds_ret (de_lc (own := [("_law_house", 2), ("_law_first", 3), ("_law_last", 4)]) rfl sc__law_moved.nd (di_seq (de_var 0)) (blkOk_by (own := [("_law_house", 2), ("_law_first", 3), ("_law_last", 4)]) (N := ["_law_rows_here", "_law_by", "_law_house", "_law_first", "_law_last"]) (sc := defScope s__law_moved) (by decide +kernel)) (fun _ _ _ _ _ => pg_tup rfl (pgs_cons (pg_name (i := 2) sc__law_moved.nd rfl (by first | exact Or.inl rfl | exact Or.inr rfl)) (pgs_cons (pg_name (i := 3) sc__law_moved.nd rfl (by first | exact Or.inl rfl | exact Or.inr rfl)) (pgs_cons (pg_name (i := 4) sc__law_moved.nd rfl (by first | exact Or.inl rfl | exact Or.inr rfl)) (pgs_nil))))) (g_tup [2, 3, 4] rfl) (fun _ _ _ _ _ => dts_nil) (fun _ _ _ _ _ => de_tup (da_cons (de_var 2) (da_cons (de_bin op_addA sd_add (de_var 3) (de_var 1)) (da_cons (de_bin op_addA sd_add (de_var 4) (de_var 1)) (da_nil))))))))
theorem sc__law_names : FnScope ["_law_rows_here", "_law_found", "_law_house", "_law_first", "_law_last", "_law_number"] ["_law_rows_here"] (defScope s__law_names) := ⟨rfl, rfl, rfl, by decide +kernel, rfl, by decide +kernel, by decide +kernel⟩
theorem ok__law_names {f : Addr} {fd : FuncData} (G : Glob mg) (C : ClsF w K cad mg)
    (F : Fun K "_law_names" "_law_names" s__law_names f fd) (hm : mg "_law_names" = some (.ref f)) : Def0 P w K mg base cad "_law_names" 1 1 m__law_names := by
  have hb : Binds K fd ["_law_rows_here"] [] := F.binds (ps := ["_law_rows_here"]) fun _ _ _ _ _ _ us hl => match us, hl with | [_], _ => rfl
  exact mk0 (N := ["_law_rows_here", "_law_found", "_law_house", "_law_first", "_law_last", "_law_number"]) (ps := ["_law_rows_here"]) (k := 0) (b := b__law_names) F sc__law_names hm hb (fun cdv A outer s H E E0 hcd hr tk hp => by
    have hU := hU_of hr
    unfold b__law_names
    unfold b__law_names_2
    unfold b__law_names_1
    exact dss_cons (ds_own 1 sc__law_names.nd (de_dT)) (dss_cons (ds_for hp rfl (di_seq (de_var 0)) (pg_tup rfl (pgs_cons (pg_name (i := 2) sc__law_names.nd rfl (by first | exact Or.inl rfl | exact Or.inr rfl)) (pgs_cons (pg_name (i := 3) sc__law_names.nd rfl (by first | exact Or.inl rfl | exact Or.inr rfl)) (pgs_cons (pg_name (i := 4) sc__law_names.nd rfl (by first | exact Or.inl rfl | exact Or.inr rfl)) (pgs_nil))))) (g_tup [2, 3, 4] rfl) (dss_one (ds_for hp rfl (di_range2 (by rfl) G.range (de_var 3) (de_bin op_addA sd_add (de_var 4) (de_int))) (pg_name (i := 5) sc__law_names.nd rfl (by first | exact Or.inl rfl | exact Or.inr rfl)) (g_name 5) (dss_one (ds_setit hU (de_bl) (de_var 1) (de_tup (da_cons (de_var 2) (da_cons (de_var 5) (da_nil))))))))) (dss_one (ds_ret (de_callB (cr_srtB (by rfl)) sd_srtB (by rfl) G.sorted bb_sorted (do_cons (de_var 1) (do_nil)))))))
theorem sc__law_told_rows : FnScope ["_law_names_here", "_law_found", "_law_house", "_law_number"] ["_law_names_here"] (defScope s__law_told_rows) := ⟨rfl, rfl, rfl, by decide +kernel, rfl, by decide +kernel, by decide +kernel⟩
theorem ok__law_told_rows {f : Addr} {fd : FuncData} (G : Glob mg) (C : ClsF w K cad mg)
    (F : Fun K "_law_told_rows" "_law_told_rows" s__law_told_rows f fd) (hm : mg "_law_told_rows" = some (.ref f)) : Def0 P w K mg base cad "_law_told_rows" 1 1 m__law_told_rows := by
  have hb : Binds K fd ["_law_names_here"] [] := F.binds (ps := ["_law_names_here"]) fun _ _ _ _ _ _ us hl => match us, hl with | [_], _ => rfl
  exact mk0 (N := ["_law_names_here", "_law_found", "_law_house", "_law_number"]) (ps := ["_law_names_here"]) (k := 0) (b := b__law_told_rows) F sc__law_told_rows hm hb (fun cdv A outer s H E E0 hcd hr tk hp => by
    have hU := hU_of hr
    unfold b__law_told_rows
    unfold b__law_told_rows_1
    exact dss_cons (ds_own 1 sc__law_told_rows.nd (de_lst (da_nil))) (dss_cons (ds_for hp rfl (di_seq (de_var 0)) (pg_tup rfl (pgs_cons (pg_name (i := 2) sc__law_told_rows.nd rfl (by first | exact Or.inl rfl | exact Or.inr rfl)) (pgs_cons (pg_name (i := 3) sc__law_told_rows.nd rfl (by first | exact Or.inl rfl | exact Or.inr rfl)) (pgs_nil)))) (g_tup [2, 3] rfl) (dss_one (ds_if (PW.pt (dw_and (dt_cmp (op_neA hU) sd_ne (de_var 1) (de_lst (da_nil))) (dw_and (dt_cmp (op_eqA hU) sd_eq (de_ix (ix_all hU) sd_ix (de_ix (ix_all hU) sd_ix (de_var 1) (de_un un_neg sd_neg (de_int))) (de_int)) (de_var 2)) (pw_and1 (dt_cmp (op_eqA hU) sd_eq (de_bin op_addA sd_add (de_ix (ix_all hU) sd_ix (de_ix (ix_all hU) sd_ix (de_var 1) (de_un un_neg sd_neg (de_int))) (de_int)) (de_int)) (de_var 3)))))) (dss_one (ds_setit hU (de_tup (da_cons (de_var 2) (da_cons (de_ix (ix_all hU) sd_ix (de_ix (ix_all hU) sd_ix (de_var 1) (de_un un_neg sd_neg (de_int))) (de_int)) (da_cons (de_var 3) (da_nil))))) (de_var 1) (de_un un_neg sd_neg (de_int)))) (dss_one (ds_app (de_var 1) (de_tup (da_cons (de_var 2) (da_cons (de_var 3) (da_cons (de_var 3) (da_nil)))))))))) (dss_one (ds_ret (de_var 1)))))
theorem sc__law_gaps : FnScope ["_law_names_here", "_law_found", "_law_known", "_law_name", "_law_house", "_law_last", "_law_other", "_law_number"] ["_law_names_here"] (defScope s__law_gaps) := ⟨rfl, rfl, rfl, by decide +kernel, rfl, by decide +kernel, by decide +kernel⟩
theorem ok__law_gaps {f : Addr} {fd : FuncData} (G : Glob mg) (C : ClsF w K cad mg)
    (F : Fun K "_law_gaps" "_law_gaps" s__law_gaps f fd) (hm : mg "_law_gaps" = some (.ref f)) : Def0 P w K mg base cad "_law_gaps" 1 1 m__law_gaps := by
  have hb : Binds K fd ["_law_names_here"] [] := F.binds (ps := ["_law_names_here"]) fun _ _ _ _ _ _ us hl => match us, hl with | [_], _ => rfl
  exact mk0 (N := ["_law_names_here", "_law_found", "_law_known", "_law_name", "_law_house", "_law_last", "_law_other", "_law_number"]) (ps := ["_law_names_here"]) (k := 0) (b := b__law_gaps) F sc__law_gaps hm hb (fun cdv A outer s H E E0 hcd hr tk hp => by
    have hU := hU_of hr
    unfold b__law_gaps
    unfold b__law_gaps_1
    unfold e__law_gaps_3
    unfold t__law_gaps_2
    unfold e__law_gaps_2
    unfold t__law_gaps_1
    unfold e__law_gaps_1
    exact dss_cons (ds_set 1 sc__law_gaps.nd (de_lst (da_nil))) (dss_cons (ds_own 2 sc__law_gaps.nd (de_callTy (cr_dictT (by rfl) hU) sd_dictT (by rfl) G.dict bb_dict (do_cons (de_lc (own := [("_law_name", 3)]) rfl sc__law_gaps.nd (di_seq (de_var 0)) (blkOk_by (own := [("_law_name", 3)]) (N := ["_law_names_here", "_law_found", "_law_known", "_law_name", "_law_house", "_law_last", "_law_other", "_law_number"]) (sc := defScope s__law_gaps) (by decide +kernel)) (fun _ _ _ _ _ => pg_name (i := 3) sc__law_gaps.nd rfl (by first | exact Or.inl rfl | exact Or.inr rfl)) (g_name 3) (fun _ _ _ _ _ => dts_nil) (fun _ _ _ _ _ => de_tup (da_cons (de_var 3) (da_cons (de_bl) (da_nil))))) (do_nil)))) (dss_cons (ds_for hp rfl (di_range1 (by rfl) G.range (de_int)) (pg_name (i := 4) sc__law_gaps.nd rfl (by first | exact Or.inl rfl | exact Or.inr rfl)) (g_name 4) (dss_cons (ds_set 5 sc__law_gaps.nd (de_callB (cr_max (by rfl)) sd_maxL (by rfl) G.max bb_max (do_cons (de_bin op_addA sd_add (de_lst (da_cons (de_int) (da_nil))) (de_lc (own := [("_law_other", 6), ("_law_number", 7)]) rfl sc__law_gaps.nd (di_seq (de_var 0)) (blkOk_by (own := [("_law_other", 6), ("_law_number", 7)]) (N := ["_law_names_here", "_law_found", "_law_known", "_law_name", "_law_house", "_law_last", "_law_other", "_law_number"]) (sc := defScope s__law_gaps) (by decide +kernel)) (fun _ _ _ _ _ => pg_tup rfl (pgs_cons (pg_name (i := 6) sc__law_gaps.nd rfl (by first | exact Or.inl rfl | exact Or.inr rfl)) (pgs_cons (pg_name (i := 7) sc__law_gaps.nd rfl (by first | exact Or.inl rfl | exact Or.inr rfl)) (pgs_nil)))) (g_tup [6, 7] rfl) (fun _ _ _ _ _ => pts_one (dt_cmp (op_eqA hU) sd_eq (de_var 6) (de_var 4))) (fun _ _ _ _ _ => de_var 7))) (do_nil)))) (dss_one (ds_set 1 sc__law_gaps.nd (de_bin op_addA sd_add (de_var 1) (de_lc (own := [("_law_number", 7)]) rfl sc__law_gaps.nd (di_range2 (by rfl) G.range (de_int) (de_var 5)) (blkOk_by (own := [("_law_number", 7)]) (N := ["_law_names_here", "_law_found", "_law_known", "_law_name", "_law_house", "_law_last", "_law_other", "_law_number"]) (sc := defScope s__law_gaps) (by decide +kernel)) (fun _ _ _ _ _ => pg_name (i := 7) sc__law_gaps.nd rfl (by first | exact Or.inl rfl | exact Or.inr rfl)) (g_name 7) (fun _ _ _ _ _ => pts_one (dt_cmp (op_notInA hU) sd_notIn (de_tup (da_cons (de_var 4) (da_cons (de_var 7) (da_nil)))) (de_var 2))) (fun _ _ _ _ _ => de_tup (da_cons (de_var 4) (da_cons (de_var 7) (da_nil)))))))))) (dss_one (ds_ret (de_var 1))))))
theorem sc__law_reach : FnScope ["_law_names_here", "_law_house", "_law_number"] ["_law_names_here", "_law_house"] (defScope s__law_reach) := ⟨rfl, rfl, rfl, by decide +kernel, rfl, by decide +kernel, by decide +kernel⟩
theorem ok__law_reach {f : Addr} {fd : FuncData} (G : Glob mg) (C : ClsF w K cad mg)
    (F : Fun K "_law_reach" "_law_reach" s__law_reach f fd) (hm : mg "_law_reach" = some (.ref f)) : Def0 P w K mg base cad "_law_reach" 1 2 m__law_reach := by
  have hb : Binds K fd ["_law_names_here", "_law_house"] [] := F.binds (ps := ["_law_names_here", "_law_house"]) fun _ _ _ _ _ _ us hl => match us, hl with | [_, _], _ => rfl
  exact mk0 (N := ["_law_names_here", "_law_house", "_law_number"]) (ps := ["_law_names_here", "_law_house"]) (k := 0) (b := b__law_reach) F sc__law_reach hm hb (fun cdv A outer s H E E0 hcd hr tk hp => by
    have hU := hU_of hr
    unfold b__law_reach
    unfold b__law_reach_1
    unfold t__law_reach_1
    exact dss_cons (ds_set 2 sc__law_reach.nd (de_int)) (dss_cons (ds_while (n := 1000000000) hp (dt_cmp (op_inA hU) sd_in (de_tup (da_cons (de_var 1) (da_cons (de_bin op_addA sd_add (de_var 2) (de_int)) (da_nil)))) (de_var 0)) (dss_one (ds_set 2 sc__law_reach.nd (de_bin op_addA sd_add (de_var 2) (de_int))))) (dss_one (ds_ret (de_var 2)))))
theorem sc__law_case : FnScope ["_law_d", "_law_houses", "_law_far", "_law_most"] ["_law_d"] (defScope s__law_case) := ⟨rfl, rfl, rfl, by decide +kernel, rfl, by decide +kernel, by decide +kernel⟩
theorem ok__law_case {f : Addr} {fd : FuncData} (G : Glob mg) (C : ClsF w K cad mg)
    (d__law_next : Def0 P w K mg base cad "_law_next" 1 2 m__law_next)
    (d__law_rows : Def0 P w K mg base cad "_law_rows" 2 4 m__law_rows)
    (F : Fun K "_law_case" "_law_case" s__law_case f fd) (hm : mg "_law_case" = some (.ref f)) : Def0 P w K mg base cad "_law_case" 3 1 m__law_case := by
  have hb : Binds K fd ["_law_d"] [] := F.binds (ps := ["_law_d"]) fun _ _ _ _ _ _ us hl => match us, hl with | [_], _ => rfl
  exact mk0 (N := ["_law_d", "_law_houses", "_law_far", "_law_most"]) (ps := ["_law_d"]) (k := 2) (b := b__law_case) F sc__law_case hm hb (fun cdv A outer s H E E0 hcd hr tk hp => by
    have hU := hU_of hr
    unfold b__law_case
    exact dss_cons (ds_par3 1 2 3 rfl sc__law_case.nd (da_cons (de_bin op_addA sd_add (de_int) (de_callD d__law_next hr (by decide) (by rfl) (da_cons (de_var 0) (da_cons (de_int) (da_nil))) (aLenS (aLenS (aLen0))))) (da_cons (de_ix (ix_all hU) sd_ix (de_lst (da_cons (de_int) (da_cons (de_int) (da_nil)))) (de_callD d__law_next hr (by decide) (by rfl) (da_cons (de_var 0) (da_cons (de_int) (da_nil))) (aLenS (aLenS (aLen0))))) (da_cons (de_ix (ix_all hU) sd_ix (de_lst (da_cons (de_int) (da_cons (de_int) (da_nil)))) (de_callD d__law_next hr (by decide) (by rfl) (da_cons (de_var 0) (da_cons (de_int) (da_nil))) (aLenS (aLenS (aLen0))))) (da_nil)))) (by decide) (by decide) (by decide) rfl rfl rfl (by rfl)) (dss_cons (ds_if (dt_cmp (op_eqA hU) sd_eq (de_callD d__law_next hr (by decide) (by rfl) (da_cons (de_var 0) (da_cons (de_int) (da_nil))) (aLenS (aLenS (aLen0)))) (de_int)) (dss_one (ds_unp (is := [1, 2, 3]) (de_tup (da_cons (de_int) (da_cons (de_int) (da_cons (de_int) (da_nil))))) (pg_tup rfl (pgs_cons (pg_name (i := 1) sc__law_case.nd rfl (by first | exact Or.inl rfl | exact Or.inr rfl)) (pgs_cons (pg_name (i := 2) sc__law_case.nd rfl (by first | exact Or.inl rfl | exact Or.inr rfl)) (pgs_cons (pg_name (i := 3) sc__law_case.nd rfl (by first | exact Or.inl rfl | exact Or.inr rfl)) (pgs_nil))))))) (dss_nil)) (dss_one (ds_ret (de_tup (da_cons (de_callD d__law_rows hr (by decide) (by rfl) (da_cons (de_var 0) (da_cons (de_var 1) (da_cons (de_var 2) (da_cons (de_var 3) (da_nil))))) (aLenS (aLenS (aLenS (aLenS (aLen0)))))) (da_cons (de_callD d__law_rows hr (by decide) (by rfl) (da_cons (de_var 0) (da_cons (de_var 1) (da_cons (de_var 2) (da_cons (de_var 3) (da_nil))))) (aLenS (aLenS (aLenS (aLenS (aLen0)))))) (da_nil))))))))
theorem sc_law : FnScope ["_law_script", "_law_d", "_law_cases", "_law_by", "_law_one", "_law_other", "_law_mine", "_law_theirs", "_law_known", "_law_name", "_law_both", "_law_alone", "_law_due", "_law_some", "_law_more", "_law_handed", "_law_found", "_law_rows_here", "_law_told", "_law_house", "_law_number"] ["_law_script"] (defScope s_law) := ⟨rfl, rfl, rfl, by decide +kernel, rfl, by decide +kernel, by decide +kernel⟩
theorem ok_law {f : Addr} {fd : FuncData} (G : Glob mg) (C : ClsF w K cad mg)
    (d__law_case : Def0 P w K mg base cad "_law_case" 3 1 m__law_case)
    (d__law_dice : Def0 P w K mg base cad "_law_dice" 1 1 m__law_dice)
    (d__law_gaps : Def0 P w K mg base cad "_law_gaps" 1 1 m__law_gaps)
    (d__law_like : Def0 P w K mg base cad "_law_like" 9 2 (m__law_like 8))
    (d__law_moved : Def0 P w K mg base cad "_law_moved" 1 2 m__law_moved)
    (d__law_names : Def0 P w K mg base cad "_law_names" 1 1 m__law_names)
    (d__law_next : Def0 P w K mg base cad "_law_next" 1 2 m__law_next)
    (d__law_reach : Def0 P w K mg base cad "_law_reach" 1 2 m__law_reach)
    (d__law_told_rows : Def0 P w K mg base cad "_law_told_rows" 1 1 m__law_told_rows)
    (d_amount : Def0 P w K mg base cad "amount" 5 1 m_amount)
    (d_common : Def0 P w K mg base cad "common" 5 2 m_common)
    (d_gaps : Def0 P w K mg base cad "gaps" 5 1 m_gaps)
    (d_has : Def0 P w K mg base cad "has" 4 3 m_has)
    (d_joined : Def0 P w K mg base cad "joined" 5 2 m_joined)
    (d_less : Def0 P w K mg base cad "less" 5 2 m_less)
    (d_plain : Def0 P w K mg base cad "plain" 4 1 m_plain)
    (d_whole_to : Def0 P w K mg base cad "whole_to" 5 2 m_whole_to)
    (d_within : Def0 P w K mg base cad "within" 6 2 m_within)
    (F : Fun K "law" "law" s_law f fd) (hm : mg "law" = some (.ref f)) : Def0 P w K mg base cad "law" 10 1 m_law := by
  have hb : Binds K fd ["_law_script"] [] := F.binds (ps := ["_law_script"]) fun _ _ _ _ _ _ us hl => match us, hl with | [_], _ => rfl
  exact mk0 (N := ["_law_script", "_law_d", "_law_cases", "_law_by", "_law_one", "_law_other", "_law_mine", "_law_theirs", "_law_known", "_law_name", "_law_both", "_law_alone", "_law_due", "_law_some", "_law_more", "_law_handed", "_law_found", "_law_rows_here", "_law_told", "_law_house", "_law_number"]) (ps := ["_law_script"]) (k := 9) (b := b_law) F sc_law hm hb (fun cdv A outer s H E E0 hcd hr tk hp => by
    have hU := hU_of hr
    unfold b_law
    unfold b_law_4
    unfold b_law_3
    unfold b_law_2
    unfold b_law_1
    unfold e_law_5
    unfold e_law_4
    unfold e_law_3
    unfold t_law_2
    unfold e_law_2
    unfold t_law_1
    unfold e_law_1
    exact dss_cons (ds_set 1 sc_law.nd (de_loc (de_callD d__law_dice hr (by decide) (by rfl) (da_cons (de_var 0) (da_nil)) (aLenS (aLen0))))) (dss_cons (ds_set 2 sc_law.nd (de_lst (da_cons (de_callD d__law_case hr (by decide) (by rfl) (da_cons (de_var 1) (da_nil)) (aLenS (aLen0))) (da_cons (de_callD d__law_case hr (by decide) (by rfl) (da_cons (de_var 1) (da_nil)) (aLenS (aLen0))) (da_nil))))) (dss_cons (ds_set 3 sc_law.nd (de_bin op_subA sd_sub (de_bin op_subA sd_sub (de_bin op_pow sd_pow (de_int) (de_int)) (de_int)) (de_callD d__law_next hr (by decide) (by rfl) (da_cons (de_var 1) (da_cons (de_bin op_pow sd_pow (de_int) (de_int)) (da_nil))) (aLenS (aLenS (aLen0)))))) (dss_cons (ds_for hp rfl (di_seq (de_bin op_addA sd_add (de_var 2) (de_cut (de_var 2) (do_none) (do_some (de_int))))) (pg_tup rfl (pgs_cons (pg_name (i := 4) sc_law.nd rfl (by first | exact Or.inl rfl | exact Or.inr rfl)) (pgs_cons (pg_name (i := 5) sc_law.nd rfl (by first | exact Or.inl rfl | exact Or.inr rfl)) (pgs_nil)))) (g_tup [4, 5] rfl) (dss_cons (ds_par2 6 7 rfl sc_law.nd (da_cons (de_callD d__law_names hr (by decide) (by rfl) (da_cons (de_var 4) (da_nil)) (aLenS (aLen0))) (da_cons (de_callD d__law_names hr (by decide) (by rfl) (da_cons (de_var 5) (da_nil)) (aLenS (aLen0))) (da_nil))) (by decide) rfl rfl (by rfl)) (dss_cons (ds_own 8 sc_law.nd (de_callTy (cr_dictT (by rfl) hU) sd_dictT (by rfl) G.dict bb_dict (do_cons (de_lc (own := [("_law_name", 9)]) rfl sc_law.nd (di_seq (de_var 7)) (blkOk_by (own := [("_law_name", 9)]) (N := ["_law_script", "_law_d", "_law_cases", "_law_by", "_law_one", "_law_other", "_law_mine", "_law_theirs", "_law_known", "_law_name", "_law_both", "_law_alone", "_law_due", "_law_some", "_law_more", "_law_handed", "_law_found", "_law_rows_here", "_law_told", "_law_house", "_law_number"]) (sc := defScope s_law) (by decide +kernel)) (fun _ _ _ _ _ => pg_name (i := 9) sc_law.nd rfl (by first | exact Or.inl rfl | exact Or.inr rfl)) (g_name 9) (fun _ _ _ _ _ => dts_nil) (fun _ _ _ _ _ => de_tup (da_cons (de_var 9) (da_cons (de_bl) (da_nil))))) (do_nil)))) (dss_cons (ds_setLc 10 (own := [("_law_name", 9)]) rfl sc_law.nd rfl (sw_true rfl rfl rfl (by decide +kernel)) (di_seq (de_var 6)) (blkOk_by (own := [("_law_name", 9)]) (N := ["_law_script", "_law_d", "_law_cases", "_law_by", "_law_one", "_law_other", "_law_mine", "_law_theirs", "_law_known", "_law_name", "_law_both", "_law_alone", "_law_due", "_law_some", "_law_more", "_law_handed", "_law_found", "_law_rows_here", "_law_told", "_law_house", "_law_number"]) (sc := defScope s_law) (by decide +kernel)) (fun _ _ _ _ _ => pg_name (i := 9) sc_law.nd rfl (by first | exact Or.inl rfl | exact Or.inr rfl)) (g_name 9) (fun _ _ _ _ _ => pts_one (dt_cmp (op_inA hU) sd_in (de_var 9) (de_var 8))) (fun _ _ _ _ _ => de_var 9)) (dss_cons (ds_setLc 11 (own := [("_law_name", 9)]) rfl sc_law.nd rfl (sw_true rfl rfl rfl (by decide +kernel)) (di_seq (de_var 6)) (blkOk_by (own := [("_law_name", 9)]) (N := ["_law_script", "_law_d", "_law_cases", "_law_by", "_law_one", "_law_other", "_law_mine", "_law_theirs", "_law_known", "_law_name", "_law_both", "_law_alone", "_law_due", "_law_some", "_law_more", "_law_handed", "_law_found", "_law_rows_here", "_law_told", "_law_house", "_law_number"]) (sc := defScope s_law) (by decide +kernel)) (fun _ _ _ _ _ => pg_name (i := 9) sc_law.nd rfl (by first | exact Or.inl rfl | exact Or.inr rfl)) (g_name 9) (fun _ _ _ _ _ => pts_one (dt_cmp (op_notInA hU) sd_notIn (de_var 9) (de_var 8))) (fun _ _ _ _ _ => de_var 9)) (dss_cons (ds_setLc 12 (own := [("_law_some", 13)]) rfl sc_law.nd rfl (sw_true rfl rfl rfl (by decide +kernel)) (di_seq (de_lst (da_cons (de_var 6) (da_cons (de_srtSM rfl hU (by rfl) G.sorted (by rfl) G.set (de_bin op_addA sd_add (de_var 6) (de_var 7))) (da_cons (de_var 10) (da_cons (de_var 11) (da_nil))))))) (blkOk_by (own := [("_law_some", 13)]) (N := ["_law_script", "_law_d", "_law_cases", "_law_by", "_law_one", "_law_other", "_law_mine", "_law_theirs", "_law_known", "_law_name", "_law_both", "_law_alone", "_law_due", "_law_some", "_law_more", "_law_handed", "_law_found", "_law_rows_here", "_law_told", "_law_house", "_law_number"]) (sc := defScope s_law) (by decide +kernel)) (fun _ _ _ _ _ => pg_name (i := 13) sc_law.nd rfl (by first | exact Or.inl rfl | exact Or.inr rfl)) (g_name 13) (fun _ _ _ _ _ => dts_nil) (fun _ _ _ _ _ => de_callD d__law_told_rows hr (by decide) (by rfl) (da_cons (de_var 13) (da_nil)) (aLenS (aLen0)))) (dss_cons (ds_for hp rfl (di_seq (de_lst (da_cons (de_int) (da_cons (de_var 3) (da_nil))))) (pg_name (i := 14) sc_law.nd rfl (by first | exact Or.inl rfl | exact Or.inr rfl)) (g_name 14) (dss_cons (ds_set 15 sc_law.nd (de_tup (da_cons (de_callD d__law_moved hr (by decide) (by rfl) (da_cons (de_var 4) (da_cons (de_var 14) (da_nil))) (aLenS (aLenS (aLen0)))) (da_cons (de_callD d__law_moved hr (by decide) (by rfl) (da_cons (de_var 5) (da_cons (de_var 14) (da_nil))) (aLenS (aLenS (aLen0)))) (da_nil))))) (dss_cons (ds_own 16 sc_law.nd (de_lst (da_cons (de_loc (de_callX tk d_plain hr (by decide) (by rfl) (da_cons (de_ix (ix_all hU) sd_ix (de_var 15) (de_int)) (da_nil)) (aLenS (aLen0)))) (da_cons (de_loc (de_callX tk d_joined hr (by decide) (by rfl) (da_cons (de_ix (ix_all hU) sd_ix (de_var 15) (de_int)) (da_cons (de_ix (ix_all hU) sd_ix (de_var 15) (de_int)) (da_nil))) (aLenS (aLenS (aLen0))))) (da_cons (de_loc (de_callX tk d_common hr (by decide) (by rfl) (da_cons (de_ix (ix_all hU) sd_ix (de_var 15) (de_int)) (da_cons (de_ix (ix_all hU) sd_ix (de_var 15) (de_int)) (da_nil))) (aLenS (aLenS (aLen0))))) (da_nil)))))) (dss_cons (ds_app (de_var 16) (de_loc (de_callX tk d_less hr (by decide) (by rfl) (da_cons (de_ix (ix_all hU) sd_ix (de_var 15) (de_int)) (da_cons (de_ix (ix_all hU) sd_ix (de_var 15) (de_int)) (da_nil))) (aLenS (aLenS (aLen0)))))) (dss_frz 16 (dss_cons (ds_if (dt_not (dt_val (de_callD d__law_like hr (by decide) (by rfl) (da_cons (de_var 16) (da_cons (de_lc (own := [("_law_rows_here", 17)]) rfl sc_law.nd (di_seq (de_var 12)) (blkOk_by (own := [("_law_rows_here", 17)]) (N := ["_law_script", "_law_d", "_law_cases", "_law_by", "_law_one", "_law_other", "_law_mine", "_law_theirs", "_law_known", "_law_name", "_law_both", "_law_alone", "_law_due", "_law_some", "_law_more", "_law_handed", "_law_found", "_law_rows_here", "_law_told", "_law_house", "_law_number"]) (sc := defScope s_law) (by decide +kernel)) (fun _ _ _ _ _ => pg_name (i := 17) sc_law.nd rfl (by first | exact Or.inl rfl | exact Or.inr rfl)) (g_name 17) (fun _ _ _ _ _ => dts_nil) (fun _ _ _ _ _ => de_callD d__law_moved hr (by decide) (by rfl) (da_cons (de_var 17) (da_cons (de_var 14) (da_nil))) (aLenS (aLenS (aLen0))))) (da_nil))) (aLenS (aLenS (aLen0)))))) (dss_one (ds_ret (de_bl))) (dss_nil)) (dss_cons (ds_set 18 sc_law.nd (de_lst (da_cons (de_callX tk d_amount hr (by decide) (by rfl) (da_cons (de_ix (ix_all hU) sd_ix (de_var 15) (de_int)) (da_nil)) (aLenS (aLen0))) (da_cons (de_callX tk d_within hr (by decide) (by rfl) (da_cons (de_ix (ix_all hU) sd_ix (de_var 15) (de_int)) (da_cons (de_ix (ix_all hU) sd_ix (de_var 15) (de_int)) (da_nil))) (aLenS (aLenS (aLen0)))) (da_nil))))) (dss_cons (ds_if (dt_not (dt_val (de_callD d__law_like hr (by decide) (by rfl) (da_cons (de_var 18) (da_cons (de_lst (da_cons (de_callB call_lenB sd_lenB (by rfl) G.len bb_len (do_cons (de_var 6) (do_nil))) (da_cons (de_cmp (op_eqA hU) sd_eq (de_var 11) (de_lst (da_nil))) (da_nil)))) (da_nil))) (aLenS (aLenS (aLen0)))))) (dss_one (ds_ret (de_bl))) (dss_nil)) (dss_cons (ds_par2 19 20 rfl sc_law.nd (da_cons (de_callD d__law_next hr (by decide) (by rfl) (da_cons (de_var 1) (da_cons (de_int) (da_nil))) (aLenS (aLenS (aLen0)))) (da_cons (de_bin op_addA sd_add (de_int) (de_callD d__law_next hr (by decide) (by rfl) (da_cons (de_var 1) (da_cons (de_int) (da_nil))) (aLenS (aLenS (aLen0))))) (da_nil))) (by decide) rfl rfl (by rfl)) (dss_cons (ds_if (dt_not (dt_val (de_callD d__law_like hr (by decide) (by rfl) (da_cons (de_callX tk d_has hr (by decide) (by rfl) (da_cons (de_ix (ix_all hU) sd_ix (de_var 15) (de_int)) (da_cons (de_var 19) (da_cons (de_bin op_addA sd_add (de_var 20) (de_var 14)) (da_nil)))) (aLenS (aLenS (aLenS (aLen0))))) (da_cons (de_cmp (op_inA hU) sd_in (de_tup (da_cons (de_var 19) (da_cons (de_var 20) (da_nil)))) (de_var 6)) (da_nil))) (aLenS (aLenS (aLen0)))))) (dss_one (ds_ret (de_bl))) (dss_nil)) (dss_cons (ds_for hp rfl (di_seq (de_var 16)) (pg_name (i := 17) sc_law.nd rfl (by first | exact Or.inl rfl | exact Or.inr rfl)) (g_name 17) (dss_one (ds_app (de_var 17) (de_tup (da_cons (de_int) (da_cons (de_int) (da_cons (de_int) (da_nil)))))))) (dss_one (ds_if (dt_cmp (op_neA hU) sd_ne (de_var 15) (de_tup (da_cons (de_callD d__law_moved hr (by decide) (by rfl) (da_cons (de_var 4) (da_cons (de_var 14) (da_nil))) (aLenS (aLenS (aLen0)))) (da_cons (de_callD d__law_moved hr (by decide) (by rfl) (da_cons (de_var 5) (da_cons (de_var 14) (da_nil))) (aLenS (aLenS (aLen0)))) (da_nil))))) (dss_one (ds_ret (de_bl))) (dss_nil)))))))))))))) (dss_cons (ds_if (dt_not (dt_val (de_callD d__law_like hr (by decide) (by rfl) (da_cons (de_callX tk d_gaps hr (by decide) (by rfl) (da_cons (de_var 4) (da_nil)) (aLenS (aLen0))) (da_cons (de_callD d__law_told_rows hr (by decide) (by rfl) (da_cons (de_callD d__law_gaps hr (by decide) (by rfl) (da_cons (de_var 6) (da_nil)) (aLenS (aLen0))) (da_nil)) (aLenS (aLen0))) (da_nil))) (aLenS (aLenS (aLen0)))))) (dss_one (ds_ret (de_bl))) (dss_nil)) (dss_one (ds_for hp rfl (di_range1 (by rfl) G.range (de_int)) (pg_name (i := 19) sc_law.nd rfl (by first | exact Or.inl rfl | exact Or.inr rfl)) (g_name 19) (dss_one (ds_if (dt_not (dt_val (de_callD d__law_like hr (by decide) (by rfl) (da_cons (de_callX tk d_whole_to hr (by decide) (by rfl) (da_cons (de_var 4) (da_cons (de_var 19) (da_nil))) (aLenS (aLenS (aLen0)))) (da_cons (de_callD d__law_reach hr (by decide) (by rfl) (da_cons (de_var 6) (da_cons (de_var 19) (da_nil))) (aLenS (aLenS (aLen0)))) (da_nil))) (aLenS (aLenS (aLen0)))))) (dss_one (ds_ret (de_bl))) (dss_nil))))))))))))) (dss_one (ds_ret (de_bl)))))))
theorem ok_law_fn {f : Addr} {fd : FuncData} (G : Glob mg) (C : ClsF w K cad mg)
    (d__law_case : Def0 P w K mg base cad "_law_case" 3 1 m__law_case)
    (d__law_dice : Def0 P w K mg base cad "_law_dice" 1 1 m__law_dice)
    (d__law_gaps : Def0 P w K mg base cad "_law_gaps" 1 1 m__law_gaps)
    (d__law_like : Def0 P w K mg base cad "_law_like" 9 2 (m__law_like 8))
    (d__law_moved : Def0 P w K mg base cad "_law_moved" 1 2 m__law_moved)
    (d__law_names : Def0 P w K mg base cad "_law_names" 1 1 m__law_names)
    (d__law_next : Def0 P w K mg base cad "_law_next" 1 2 m__law_next)
    (d__law_reach : Def0 P w K mg base cad "_law_reach" 1 2 m__law_reach)
    (d__law_told_rows : Def0 P w K mg base cad "_law_told_rows" 1 1 m__law_told_rows)
    (d_amount : Def0 P w K mg base cad "amount" 5 1 m_amount)
    (d_common : Def0 P w K mg base cad "common" 5 2 m_common)
    (d_gaps : Def0 P w K mg base cad "gaps" 5 1 m_gaps)
    (d_has : Def0 P w K mg base cad "has" 4 3 m_has)
    (d_joined : Def0 P w K mg base cad "joined" 5 2 m_joined)
    (d_less : Def0 P w K mg base cad "less" 5 2 m_less)
    (d_plain : Def0 P w K mg base cad "plain" 4 1 m_plain)
    (d_whole_to : Def0 P w K mg base cad "whole_to" 5 2 m_whole_to)
    (d_within : Def0 P w K mg base cad "within" 6 2 m_within)
    (F : Fun K "law" "law" s_law f fd) : FnOk P w K mg base (L2.CX P w) 10 f fd ["_law_script"] (spM K cad 1 m_law) := by
  have h := fnX (P := P) (w := w) (mg := mg) (base := base) (cad := cad) (k := 9) (b := b_law) F sc_law (fun cdv A outer s H E E0 hcd hr tk hp => by
    have hU := hU_of hr
    unfold b_law
    unfold b_law_4
    unfold b_law_3
    unfold b_law_2
    unfold b_law_1
    unfold e_law_5
    unfold e_law_4
    unfold e_law_3
    unfold t_law_2
    unfold e_law_2
    unfold t_law_1
    unfold e_law_1
    exact dss_cons (ds_set 1 sc_law.nd (de_loc (de_callD d__law_dice hr (by decide) (by rfl) (da_cons (de_var 0) (da_nil)) (aLenS (aLen0))))) (dss_cons (ds_set 2 sc_law.nd (de_lst (da_cons (de_callD d__law_case hr (by decide) (by rfl) (da_cons (de_var 1) (da_nil)) (aLenS (aLen0))) (da_cons (de_callD d__law_case hr (by decide) (by rfl) (da_cons (de_var 1) (da_nil)) (aLenS (aLen0))) (da_nil))))) (dss_cons (ds_set 3 sc_law.nd (de_bin op_subA sd_sub (de_bin op_subA sd_sub (de_bin op_pow sd_pow (de_int) (de_int)) (de_int)) (de_callD d__law_next hr (by decide) (by rfl) (da_cons (de_var 1) (da_cons (de_bin op_pow sd_pow (de_int) (de_int)) (da_nil))) (aLenS (aLenS (aLen0)))))) (dss_cons (ds_for hp rfl (di_seq (de_bin op_addA sd_add (de_var 2) (de_cut (de_var 2) (do_none) (do_some (de_int))))) (pg_tup rfl (pgs_cons (pg_name (i := 4) sc_law.nd rfl (by first | exact Or.inl rfl | exact Or.inr rfl)) (pgs_cons (pg_name (i := 5) sc_law.nd rfl (by first | exact Or.inl rfl | exact Or.inr rfl)) (pgs_nil)))) (g_tup [4, 5] rfl) (dss_cons (ds_par2 6 7 rfl sc_law.nd (da_cons (de_callD d__law_names hr (by decide) (by rfl) (da_cons (de_var 4) (da_nil)) (aLenS (aLen0))) (da_cons (de_callD d__law_names hr (by decide) (by rfl) (da_cons (de_var 5) (da_nil)) (aLenS (aLen0))) (da_nil))) (by decide) rfl rfl (by rfl)) (dss_cons (ds_own 8 sc_law.nd (de_callTy (cr_dictT (by rfl) hU) sd_dictT (by rfl) G.dict bb_dict (do_cons (de_lc (own := [("_law_name", 9)]) rfl sc_law.nd (di_seq (de_var 7)) (blkOk_by (own := [("_law_name", 9)]) (N := ["_law_script", "_law_d", "_law_cases", "_law_by", "_law_one", "_law_other", "_law_mine", "_law_theirs", "_law_known", "_law_name", "_law_both", "_law_alone", "_law_due", "_law_some", "_law_more", "_law_handed", "_law_found", "_law_rows_here", "_law_told", "_law_house", "_law_number"]) (sc := defScope s_law) (by decide +kernel)) (fun _ _ _ _ _ => pg_name (i := 9) sc_law.nd rfl (by first | exact Or.inl rfl | exact Or.inr rfl)) (g_name 9) (fun _ _ _ _ _ => dts_nil) (fun _ _ _ _ _ => de_tup (da_cons (de_var 9) (da_cons (de_bl) (da_nil))))) (do_nil)))) (dss_cons (ds_setLc 10 (own := [("_law_name", 9)]) rfl sc_law.nd rfl (sw_true rfl rfl rfl (by decide +kernel)) (di_seq (de_var 6)) (blkOk_by (own := [("_law_name", 9)]) (N := ["_law_script", "_law_d", "_law_cases", "_law_by", "_law_one", "_law_other", "_law_mine", "_law_theirs", "_law_known", "_law_name", "_law_both", "_law_alone", "_law_due", "_law_some", "_law_more", "_law_handed", "_law_found", "_law_rows_here", "_law_told", "_law_house", "_law_number"]) (sc := defScope s_law) (by decide +kernel)) (fun _ _ _ _ _ => pg_name (i := 9) sc_law.nd rfl (by first | exact Or.inl rfl | exact Or.inr rfl)) (g_name 9) (fun _ _ _ _ _ => pts_one (dt_cmp (op_inA hU) sd_in (de_var 9) (de_var 8))) (fun _ _ _ _ _ => de_var 9)) (dss_cons (ds_setLc 11 (own := [("_law_name", 9)]) rfl sc_law.nd rfl (sw_true rfl rfl rfl (by decide +kernel)) (di_seq (de_var 6)) (blkOk_by (own := [("_law_name", 9)]) (N := ["_law_script", "_law_d", "_law_cases", "_law_by", "_law_one", "_law_other", "_law_mine", "_law_theirs", "_law_known", "_law_name", "_law_both", "_law_alone", "_law_due", "_law_some", "_law_more", "_law_handed", "_law_found", "_law_rows_here", "_law_told", "_law_house", "_law_number"]) (sc := defScope s_law) (by decide +kernel)) (fun _ _ _ _ _ => pg_name (i := 9) sc_law.nd rfl (by first | exact Or.inl rfl | exact Or.inr rfl)) (g_name 9) (fun _ _ _ _ _ => pts_one (dt_cmp (op_notInA hU) sd_notIn (de_var 9) (de_var 8))) (fun _ _ _ _ _ => de_var 9)) (dss_cons (ds_setLc 12 (own := [("_law_some", 13)]) rfl sc_law.nd rfl (sw_true rfl rfl rfl (by decide +kernel)) (di_seq (de_lst (da_cons (de_var 6) (da_cons (de_srtSM rfl hU (by rfl) G.sorted (by rfl) G.set (de_bin op_addA sd_add (de_var 6) (de_var 7))) (da_cons (de_var 10) (da_cons (de_var 11) (da_nil))))))) (blkOk_by (own := [("_law_some", 13)]) (N := ["_law_script", "_law_d", "_law_cases", "_law_by", "_law_one", "_law_other", "_law_mine", "_law_theirs", "_law_known", "_law_name", "_law_both", "_law_alone", "_law_due", "_law_some", "_law_more", "_law_handed", "_law_found", "_law_rows_here", "_law_told", "_law_house", "_law_number"]) (sc := defScope s_law) (by decide +kernel)) (fun _ _ _ _ _ => pg_name (i := 13) sc_law.nd rfl (by first | exact Or.inl rfl | exact Or.inr rfl)) (g_name 13) (fun _ _ _ _ _ => dts_nil) (fun _ _ _ _ _ => de_callD d__law_told_rows hr (by decide) (by rfl) (da_cons (de_var 13) (da_nil)) (aLenS (aLen0)))) (dss_cons (ds_for hp rfl (di_seq (de_lst (da_cons (de_int) (da_cons (de_var 3) (da_nil))))) (pg_name (i := 14) sc_law.nd rfl (by first | exact Or.inl rfl | exact Or.inr rfl)) (g_name 14) (dss_cons (ds_set 15 sc_law.nd (de_tup (da_cons (de_callD d__law_moved hr (by decide) (by rfl) (da_cons (de_var 4) (da_cons (de_var 14) (da_nil))) (aLenS (aLenS (aLen0)))) (da_cons (de_callD d__law_moved hr (by decide) (by rfl) (da_cons (de_var 5) (da_cons (de_var 14) (da_nil))) (aLenS (aLenS (aLen0)))) (da_nil))))) (dss_cons (ds_own 16 sc_law.nd (de_lst (da_cons (de_loc (de_callX tk d_plain hr (by decide) (by rfl) (da_cons (de_ix (ix_all hU) sd_ix (de_var 15) (de_int)) (da_nil)) (aLenS (aLen0)))) (da_cons (de_loc (de_callX tk d_joined hr (by decide) (by rfl) (da_cons (de_ix (ix_all hU) sd_ix (de_var 15) (de_int)) (da_cons (de_ix (ix_all hU) sd_ix (de_var 15) (de_int)) (da_nil))) (aLenS (aLenS (aLen0))))) (da_cons (de_loc (de_callX tk d_common hr (by decide) (by rfl) (da_cons (de_ix (ix_all hU) sd_ix (de_var 15) (de_int)) (da_cons (de_ix (ix_all hU) sd_ix (de_var 15) (de_int)) (da_nil))) (aLenS (aLenS (aLen0))))) (da_nil)))))) (dss_cons (ds_app (de_var 16) (de_loc (de_callX tk d_less hr (by decide) (by rfl) (da_cons (de_ix (ix_all hU) sd_ix (de_var 15) (de_int)) (da_cons (de_ix (ix_all hU) sd_ix (de_var 15) (de_int)) (da_nil))) (aLenS (aLenS (aLen0)))))) (dss_frz 16 (dss_cons (ds_if (dt_not (dt_val (de_callD d__law_like hr (by decide) (by rfl) (da_cons (de_var 16) (da_cons (de_lc (own := [("_law_rows_here", 17)]) rfl sc_law.nd (di_seq (de_var 12)) (blkOk_by (own := [("_law_rows_here", 17)]) (N := ["_law_script", "_law_d", "_law_cases", "_law_by", "_law_one", "_law_other", "_law_mine", "_law_theirs", "_law_known", "_law_name", "_law_both", "_law_alone", "_law_due", "_law_some", "_law_more", "_law_handed", "_law_found", "_law_rows_here", "_law_told", "_law_house", "_law_number"]) (sc := defScope s_law) (by decide +kernel)) (fun _ _ _ _ _ => pg_name (i := 17) sc_law.nd rfl (by first | exact Or.inl rfl | exact Or.inr rfl)) (g_name 17) (fun _ _ _ _ _ => dts_nil) (fun _ _ _ _ _ => de_callD d__law_moved hr (by decide) (by rfl) (da_cons (de_var 17) (da_cons (de_var 14) (da_nil))) (aLenS (aLenS (aLen0))))) (da_nil))) (aLenS (aLenS (aLen0)))))) (dss_one (ds_ret (de_bl))) (dss_nil)) (dss_cons (ds_set 18 sc_law.nd (de_lst (da_cons (de_callX tk d_amount hr (by decide) (by rfl) (da_cons (de_ix (ix_all hU) sd_ix (de_var 15) (de_int)) (da_nil)) (aLenS (aLen0))) (da_cons (de_callX tk d_within hr (by decide) (by rfl) (da_cons (de_ix (ix_all hU) sd_ix (de_var 15) (de_int)) (da_cons (de_ix (ix_all hU) sd_ix (de_var 15) (de_int)) (da_nil))) (aLenS (aLenS (aLen0)))) (da_nil))))) (dss_cons (ds_if (dt_not (dt_val (de_callD d__law_like hr (by decide) (by rfl) (da_cons (de_var 18) (da_cons (de_lst (da_cons (de_callB call_lenB sd_lenB (by rfl) G.len bb_len (do_cons (de_var 6) (do_nil))) (da_cons (de_cmp (op_eqA hU) sd_eq (de_var 11) (de_lst (da_nil))) (da_nil)))) (da_nil))) (aLenS (aLenS (aLen0)))))) (dss_one (ds_ret (de_bl))) (dss_nil)) (dss_cons (ds_par2 19 20 rfl sc_law.nd (da_cons (de_callD d__law_next hr (by decide) (by rfl) (da_cons (de_var 1) (da_cons (de_int) (da_nil))) (aLenS (aLenS (aLen0)))) (da_cons (de_bin op_addA sd_add (de_int) (de_callD d__law_next hr (by decide) (by rfl) (da_cons (de_var 1) (da_cons (de_int) (da_nil))) (aLenS (aLenS (aLen0))))) (da_nil))) (by decide) rfl rfl (by rfl)) (dss_cons (ds_if (dt_not (dt_val (de_callD d__law_like hr (by decide) (by rfl) (da_cons (de_callX tk d_has hr (by decide) (by rfl) (da_cons (de_ix (ix_all hU) sd_ix (de_var 15) (de_int)) (da_cons (de_var 19) (da_cons (de_bin op_addA sd_add (de_var 20) (de_var 14)) (da_nil)))) (aLenS (aLenS (aLenS (aLen0))))) (da_cons (de_cmp (op_inA hU) sd_in (de_tup (da_cons (de_var 19) (da_cons (de_var 20) (da_nil)))) (de_var 6)) (da_nil))) (aLenS (aLenS (aLen0)))))) (dss_one (ds_ret (de_bl))) (dss_nil)) (dss_cons (ds_for hp rfl (di_seq (de_var 16)) (pg_name (i := 17) sc_law.nd rfl (by first | exact Or.inl rfl | exact Or.inr rfl)) (g_name 17) (dss_one (ds_app (de_var 17) (de_tup (da_cons (de_int) (da_cons (de_int) (da_cons (de_int) (da_nil)))))))) (dss_one (ds_if (dt_cmp (op_neA hU) sd_ne (de_var 15) (de_tup (da_cons (de_callD d__law_moved hr (by decide) (by rfl) (da_cons (de_var 4) (da_cons (de_var 14) (da_nil))) (aLenS (aLenS (aLen0)))) (da_cons (de_callD d__law_moved hr (by decide) (by rfl) (da_cons (de_var 5) (da_cons (de_var 14) (da_nil))) (aLenS (aLenS (aLen0)))) (da_nil))))) (dss_one (ds_ret (de_bl))) (dss_nil)))))))))))))) (dss_cons (ds_if (dt_not (dt_val (de_callD d__law_like hr (by decide) (by rfl) (da_cons (de_callX tk d_gaps hr (by decide) (by rfl) (da_cons (de_var 4) (da_nil)) (aLenS (aLen0))) (da_cons (de_callD d__law_told_rows hr (by decide) (by rfl) (da_cons (de_callD d__law_gaps hr (by decide) (by rfl) (da_cons (de_var 6) (da_nil)) (aLenS (aLen0))) (da_nil)) (aLenS (aLen0))) (da_nil))) (aLenS (aLenS (aLen0)))))) (dss_one (ds_ret (de_bl))) (dss_nil)) (dss_one (ds_for hp rfl (di_range1 (by rfl) G.range (de_int)) (pg_name (i := 19) sc_law.nd rfl (by first | exact Or.inl rfl | exact Or.inr rfl)) (g_name 19) (dss_one (ds_if (dt_not (dt_val (de_callD d__law_like hr (by decide) (by rfl) (da_cons (de_callX tk d_whole_to hr (by decide) (by rfl) (da_cons (de_var 4) (da_cons (de_var 19) (da_nil))) (aLenS (aLenS (aLen0)))) (da_cons (de_callD d__law_reach hr (by decide) (by rfl) (da_cons (de_var 6) (da_cons (de_var 19) (da_nil))) (aLenS (aLenS (aLen0)))) (da_nil))) (aLenS (aLenS (aLen0)))))) (dss_one (ds_ret (de_bl))) (dss_nil))))))))))))) (dss_one (ds_ret (de_bl)))))))
  exact h
end
end Law

/-! ### reckoning with the functions over data -/
namespace DL
open PySem L2
/-- plain lemmas ask for no tables -/
instance noTbs : Tbs := ⟨[]⟩
section
variable {α β : Type} {c : Prop} [Decidable c]
@[simp] theorem bind_ok' (a : α) (μ : Store) (f : α → Store → Res β) : (Res.ok a μ).bind f = f a μ := (rfl)
@[simp] theorem bind_ite (a b : Res α) (f : α → Store → Res β) : (if c then a else b).bind f = if c then a.bind f else b.bind f := by split <;> rfl
@[simp] theorem of_some (a : α) (μ : Store) : Res.of (some a) μ = .ok a μ := (rfl)
@[simp] theorem of_ite (a b : Option α) (μ : Store) : Res.of (if c then a else b) μ = if c then Res.of a μ else Res.of b μ := by split <;> rfl
@[simp] theorem seqR_nx (ρ : Ev) (μ : Store) (n : MS) : seqR (.ok (.nx, ρ) μ) n = n ρ μ := (rfl)
@[simp] theorem seqR_rt (rv : Rv) (ρ : Ev) (μ : Store) (n : MS) : seqR (.ok (.rt rv, ρ) μ) n = .ok (.rt rv, ρ) μ := (rfl)
@[simp] theorem seqR_ct (ρ : Ev) (μ : Store) (n : MS) : seqR (.ok (.ct, ρ) μ) n = .ok (.ct, ρ) μ := (rfl)
@[simp] theorem seqR_ite (a b : Res (Fl × Ev)) (n : MS) : seqR (if c then a else b) n = if c then seqR a n else seqR b n := by split <;> rfl
@[simp] theorem loopR_nx (ρ : Ev) (μ : Store) (n : MS) : loopR (.ok (.nx, ρ) μ) n = n ρ μ := (rfl)
@[simp] theorem loopR_rt (rv : Rv) (ρ : Ev) (μ : Store) (n : MS) : loopR (.ok (.rt rv, ρ) μ) n = .ok (.rt rv, ρ) μ := (rfl)
@[simp] theorem loopR_ite (a b : Res (Fl × Ev)) (n : MS) : loopR (if c then a else b) n = if c then loopR a n else loopR b n := by split <;> rfl
@[simp] theorem endR_rt (rv : Rv) (ρ : Ev) (μ : Store) : endR (.ok (.rt rv, ρ) μ) = .ok rv μ := (rfl)
@[simp] theorem endR_nx (ρ : Ev) (μ : Store) : endR (.ok (.nx, ρ) μ) = .ok (.sh .non) μ := (rfl)
@[simp] theorem endR_ite (a b : Res (Fl × Ev)) : endR (if c then a else b) = if c then endR a else endR b := by split <;> rfl
@[simp] theorem noXR_ok (rv : Rv) (μ : Store) : noXR (.ok rv μ) = .ok rv μ := (rfl)
end
/-! ### rows -/
abbrev Row := Int × Int × Int
def rowD (r : Row) : D := .tup [.int r.1, .int r.2.1, .int r.2.2]
@[simp] theorem rowD_mk (h a b : Int) : rowD (h, a, b) = .tup [.int h, .int a, .int b] := (rfl)
def rowP (r : Row) : PyData := .tuple [.int r.1, .int r.2.1, .int r.2.2]
theorem rowD_py (r : Row) : (rowD r).py = some (rowP r) := rfl
theorem rowsD_pys : ∀ rs : List Row, D.pys (rs.map rowD) = some (rs.map rowP)
  | [] => rfl
  | r :: rs => by
    show (D.py (rowD r)).bind (fun p => (D.pys (rs.map rowD)).map (p :: ·)) = _
    rw [rowD_py, rowsD_pys rs]
    rfl
theorem rowP_lay (r : Row) : (rowP r).canLay0 = true := rfl
theorem rowsP_lay : ∀ rs : List Row, PyData.canLayAll0 (rs.map rowP) = true
  | [] => rfl
  | r :: rs => by
    show ((rowP r).canLay0 && PyData.canLayAll0 (rs.map rowP)) = true
    rw [rowP_lay, rowsP_lay rs]
    rfl
theorem rowsP_depth : ∀ rs : List Row, PyData.depthAll (rs.map rowP) ≤ 1
  | [] => Nat.zero_le _
  | r :: rs => by
    show max (PyData.depth (rowP r)) (PyData.depthAll (rs.map rowP)) ≤ 1
    have h1 : PyData.depth (rowP r) = 1 := rfl
    have := rowsP_depth rs
    omega
theorem rowsP_shaped (rs : List Row) : SeqAt.shaped (.list (rs.map rowP)) = true := by
  unfold SeqAt.shaped
  rw [Bool.and_eq_true]
  refine ⟨rowsP_lay rs, decide_eq_true ?_⟩
  show PyData.depthAll (rs.map rowP) + 1 ≤ 64
  have := rowsP_depth rs
  omega
theorem rowP_eqv (r q : Row) : PyData.eqv (rowP r) (rowP q) = decide (r = q) := by
  obtain ⟨h, a, b⟩ := r
  obtain ⟨h', a', b'⟩ := q
  show ((h == h') && ((a == a') && ((b == b') && true))) = _
  rw [Bool.and_true]
  by_cases e1 : h = h' <;> by_cases e2 : a = a' <;> by_cases e3 : b = b' <;> simp [e1, e2, e3]
theorem rowsP_eqv : ∀ rs qs : List Row, PyData.eqvAll (rs.map rowP) (qs.map rowP) = decide (rs = qs)
  | [], [] => rfl
  | [], _ :: _ => rfl
  | _ :: _, [] => rfl
  | r :: rs, q :: qs => by
    show (PyData.eqv (rowP r) (rowP q) && PyData.eqvAll (rs.map rowP) (qs.map rowP)) = _
    rw [rowP_eqv, rowsP_eqv rs qs]
    by_cases e1 : r = q <;> by_cases e2 : rs = qs <;> simp [e1, e2]
theorem fEq_rows (rs qs : List Row) : fEq (.ob (.lst (rs.map rowD))) (.ob (.lst (qs.map rowD))) = some (.sh (.bl (decide (rs = qs)))) := by
  show (Option.bind ((D.pys (rs.map rowD)).map PyData.list) fun p => Option.bind ((D.pys (qs.map rowD)).map PyData.list) fun q => if SeqAt.shaped p = true ∧ SeqAt.shaped q = true then some (Rv.sh (.bl (id (PyData.eqv p q)))) else none) = _
  rw [rowsD_pys, rowsD_pys]
  show (if SeqAt.shaped (.list (rs.map rowP)) = true ∧ SeqAt.shaped (.list (qs.map rowP)) = true then some (Rv.sh (.bl (PyData.eqvAll (rs.map rowP) (qs.map rowP)))) else none) = _
  rw [if_pos ⟨rowsP_shaped rs, rowsP_shaped qs⟩, rowsP_eqv]
theorem fNe_rows (rs qs : List Row) : fNe (.ob (.lst (rs.map rowD))) (.ob (.lst (qs.map rowD))) = some (.sh (.bl (!decide (rs = qs)))) := by
  show (Option.bind ((D.pys (rs.map rowD)).map PyData.list) fun p => Option.bind ((D.pys (qs.map rowD)).map PyData.list) fun q => if SeqAt.shaped p = true ∧ SeqAt.shaped q = true then some (Rv.sh (.bl (not (PyData.eqv p q)))) else none) = _
  rw [rowsD_pys, rowsD_pys]
  show (if SeqAt.shaped (.list (rs.map rowP)) = true ∧ SeqAt.shaped (.list (qs.map rowP)) = true then some (Rv.sh (.bl (!(PyData.eqvAll (rs.map rowP) (qs.map rowP))))) else none) = _
  rw [if_pos ⟨rowsP_shaped rs, rowsP_shaped qs⟩, rowsP_eqv]
@[simp] theorem fEq_int (i j : Int) : fEq (.d (.int i)) (.d (.int j)) = some (.sh (.bl (decide (i = j)))) := by
  show some (Rv.sh (.bl (i == j))) = _
  rw [show (i == j) = decide (i = j) from rfl]
@[simp] theorem fNe_int (i j : Int) : fNe (.d (.int i)) (.d (.int j)) = some (.sh (.bl (!decide (i = j)))) := by
  show some (Rv.sh (.bl (!(i == j)))) = _
  rw [show (i == j) = decide (i = j) from rfl]
theorem fNe_rows_nil (rs : List Row) : fNe (.ob (.lst (rs.map rowD))) (.ob (.lst [])) = some (.sh (.bl (!decide (rs = [])))) := fNe_rows rs []
theorem fEq_rows_nil (rs : List Row) : fEq (.ob (.lst (rs.map rowD))) (.ob (.lst [])) = some (.sh (.bl (decide (rs = [])))) := fEq_rows rs []
/-- sorted rows -/
def rowL (r : Row) : List Int := [r.1, r.2.1, r.2.2]
def rowLt (r q : Row) : Bool := HT.lexLt (rowL r) (rowL q)
def insR (x : Row) : List Row → List Row
  | [] => [x]
  | y :: ys => if rowLt y x = true then y :: insR x ys else x :: y :: ys
def sortR : List Row → List Row
  | [] => []
  | x :: xs => insR x (sortR xs)
theorem insR_L (x : Row) : ∀ l : List Row, (insR x l).map rowL = insL (rowL x) (l.map rowL)
  | [] => rfl
  | y :: ys => by
    unfold insR
    rw [List.map_cons, insL]
    show List.map rowL (if HT.lexLt (rowL y) (rowL x) = true then y :: insR x ys else x :: y :: ys) = _
    split
    · rw [List.map_cons, insR_L x ys]
    · rfl
theorem sortR_L : ∀ l : List Row, (sortR l).map rowL = sortL (l.map rowL)
  | [] => rfl
  | x :: xs => by
    show (insR x (sortR xs)).map rowL = insL (rowL x) (sortL (xs.map rowL))
    rw [insR_L, sortR_L xs]
theorem rows_intss : ∀ rs : List Row, D.intss (rs.map rowD) = some (rs.map rowL)
  | [] => rfl
  | r :: rs => by
    show ((D.ints [.int r.1, .int r.2.1, .int r.2.2]).bind fun ns => if ns = [] then none else (D.intss (rs.map rowD)).map (ns :: ·)) = _
    rw [rows_intss rs]
    rfl
theorem intsD_rowL (r : Row) : intsD (rowL r) = rowD r := rfl
theorem fSorted_rows (rs : List Row) : fSorted [.ob (.lst (rs.map rowD))] = some (.own (.lst ((sortR rs).map rowD))) := by
  cases rs with
  | nil => rfl
  | cons r rs =>
    show (match D.ints ((r :: rs).map rowD) with | some ns => some (Rv.own (.lst ((sortI ns).map .int))) | none => (D.intss ((r :: rs).map rowD)).map fun nss => .own (.lst ((sortL nss).map intsD))) = _
    have e : D.ints ((r :: rs).map rowD) = none := rfl
    rw [e, rows_intss]
    show some (Rv.own (.lst ((sortL ((r :: rs).map rowL)).map intsD))) = _
    rw [← sortR_L, List.map_map]
    rfl
end DL

/-! ### what the pieces do, for simp -/
namespace DL
open PySem L2
section
variable {ρ : Ev} {μ : Store} {a b c d m : ME} {t u : MT} {s n : MS} {as : MA} {os : Ev → Store → Res (List Op)} {i : Nat}
@[simp] theorem x_mIf : mIf t s n ρ μ = (t ρ μ).bind fun c μ1 => if c = true then s ρ μ1 else n ρ μ1 := (rfl)
@[simp] theorem x_mAnd : mAnd t u ρ μ = (t ρ μ).bind fun c μ1 => if c = true then u ρ μ1 else .ok false μ1 := (rfl)
@[simp] theorem x_mOr : mOr t u ρ μ = (t ρ μ).bind fun c μ1 => if c = true then .ok true μ1 else u ρ μ1 := (rfl)
@[simp] theorem x_mNot : mNot t ρ μ = (t ρ μ).bind fun c μ1 => .ok (!c) μ1 := (rfl)
def mTR (o : Op) (μ : Store) : Res Bool := match o with
  | .sh (.bl b) => .ok b μ
  | _ => .stk
@[simp] theorem x_mT : mT m ρ μ = (m ρ μ).bind mTR := (rfl)
@[simp] theorem x_mTR {k : Bool} : mTR (.sh (.bl k)) μ = .ok k μ := (rfl)
@[simp] theorem x_eB : eB t ρ μ = (t ρ μ).bind fun b μ1 => .ok (.sh (.bl b)) μ1 := (rfl)
@[simp] theorem x_eIf : eIf t a b ρ μ = (t ρ μ).bind fun c μ1 => if c = true then a ρ μ1 else b ρ μ1 := (rfl)
@[simp] theorem x_e2 {f} : e2 f a b ρ μ = (a ρ μ).bind fun x μ1 => (b ρ μ1).bind fun y μ2 => Res.of (fin2 f ρ μ2 x y) μ2 := (rfl)
@[simp] theorem x_e1 {f} : e1 f a ρ μ = (a ρ μ).bind fun x μ1 => Res.of ((deref ρ μ1 x).bind fun wx => (f wx).map Rv.op) μ1 := (rfl)
@[simp] theorem x_eC {d : D} : eC d ρ μ = .ok (.sh d) μ := (rfl)
def eVarR (i : Nat) (μ : Store) : Option Sl → Res Op
  | some (.sh d) => .ok (.sh d) μ
  | some (.own _) => .ok (.slot i) μ
  | _ => .stk
@[simp] theorem x_eVar : eVar i ρ μ = eVarR i μ ρ[i]? := by
  unfold eVar eVarR
  cases ρ[i]? with
  | none => rfl
  | some s => cases s <;> rfl
@[simp] theorem x_eVarR1 {d : D} : eVarR i μ (some (.sh d)) = .ok (.sh d) μ := (rfl)
@[simp] theorem x_eVarR2 {o : Ob} : eVarR i μ (some (.own o)) = .ok (.slot i) μ := (rfl)
@[simp] theorem x_fin2 {f x y} : fin2 f ρ μ x y = (deref ρ μ x).bind fun wx => (deref ρ μ y).bind fun wy => (f wx wy).map Rv.op := (rfl)
@[simp] theorem x_der1 {d : D} : deref ρ μ (.sh d) = d.vw μ := (rfl)
@[simp] theorem x_der2 {o : Ob} : deref ρ μ (.own o) = o.rd.map .ob := (rfl)
def slotR : Option Sl → Option Ob
  | some (.own o) => some o
  | _ => none
@[simp] theorem x_slotR {o : Ob} : slotR (some (.own o)) = some o := (rfl)
@[simp] theorem x_der3 : deref ρ μ (.slot i) = (slotR ρ[i]?).bind fun o => o.rd.map .ob := by
  show (match ρ[i]? with | some (.own o) => o.rd.map Vw.ob | _ => none) = _
  cases ρ[i]? with
  | none => rfl
  | some s => cases s <;> rfl
@[simp] theorem x_rd1 {xs : List D} : Ob.rd (.lst xs) = some (.lst xs) := (rfl)
@[simp] theorem x_rd2 {kvs} : Ob.rd (.dK kvs) = some (.dK kvs) := (rfl)
@[simp] theorem x_rd3 {kvs} : Ob.rd (.dT kvs) = some (.dT kvs) := (rfl)
@[simp] theorem x_vw1 {i : Int} : D.vw μ (.int i) = some (.d (.int i)) := (rfl)
@[simp] theorem x_vw2 {k : Bool} : D.vw μ (.bl k) = some (.d (.bl k)) := (rfl)
@[simp] theorem x_vw3 {k} : D.vw μ (.tup k) = some (.d (.tup k)) := (rfl)
@[simp] theorem x_vw4 {k} : D.vw μ (.lst k) = some (.ob (.lst k)) := (rfl)
@[simp] theorem x_vw5 {k} : D.vw μ (.str k) = some (.d (.str k)) := (rfl)
@[simp] theorem x_vw6 {k} : D.vw μ (.scr k) = some (.d (.scr k)) := (rfl)
@[simp] theorem x_vw7 {k} : D.vw μ (.loc k) = (μ[k]?).bind fun o => o.rd.map .ob := (rfl)
@[simp] theorem x_vw8 : D.vw μ .non = some (.d .non) := (rfl)
@[simp] theorem x_op1 {d : D} : Rv.op (.sh d) = .sh d := (rfl)
@[simp] theorem x_op2 {o : Ob} : Rv.op (.own o) = .own o := (rfl)
@[simp] theorem x_toD : toD m ρ μ = (m ρ μ).bind fun o μ' => Res.of o.toD μ' := (rfl)
@[simp] theorem x_toD1 {d : D} : Op.toD (.sh d) = some d := (rfl)
@[simp] theorem x_toD2 {d} : Op.toD (.own (.lst d)) = some (.lst d) := (rfl)
@[simp] theorem x_aNil : aNil ρ μ = .ok [] μ := (rfl)
@[simp] theorem x_oNil : oNil ρ μ = .ok [] μ := (rfl)
@[simp] theorem x_aCons : aCons m as ρ μ = (toD m ρ μ).bind fun d μ1 => (as ρ μ1).bind fun ds μ2 => .ok (d :: ds) μ2 := (rfl)
@[simp] theorem x_oCons : oCons m os ρ μ = (m ρ μ).bind fun d μ1 => (os ρ μ1).bind fun ds μ2 => .ok (d :: ds) μ2 := (rfl)
@[simp] theorem x_eTup : eTup as ρ μ = (as ρ μ).bind fun ds μ1 => if ds.length ≤ 16777216 then .ok (.sh (.tup ds)) μ1 else .stk := (rfl)
@[simp] theorem x_eLst : eLst as ρ μ = (as ρ μ).bind fun ds μ1 => if ds.length ≤ 16777216 then .ok (.own (.lst ds)) μ1 else .stk := (rfl)
@[simp] theorem x_eCB {f} : eCB f os ρ μ = (os ρ μ).bind fun os μ1 => Res.of ((derefs ρ μ1 os).bind fun ws => (f ws).map Rv.op) μ1 := (rfl)
@[simp] theorem x_derefs1 : derefs ρ μ [] = some [] := (rfl)
@[simp] theorem x_derefs2 {o os} : derefs ρ μ (o :: os) = (deref ρ μ o).bind fun w => (derefs ρ μ os).map (w :: ·) := (rfl)
def setItR (ρ : Ev) (μ : Store) (oo : Op) : Option Ob → Res (Fl × Ev)
  | some ob' => putRes ρ μ oo ob'
  | none => .stk
@[simp] theorem x_setItR {oo ob} : setItR ρ μ oo (some ob) = putRes ρ μ oo ob := (rfl)
@[simp] theorem x_mSetIt : mSetIt a b c ρ μ = (toD a ρ μ).bind fun d μ1 => (b ρ μ1).bind fun oo μ2 => (toD c ρ μ2).bind fun k μ3 => setItR ρ μ3 oo ((getOb ρ μ3 oo).bind fun ob => fSet ob k d) := (rfl)
@[simp] theorem x_putRes {o ob} : putRes ρ μ o ob = .ok (.nx, (putOb ρ μ o ob).1) (putOb ρ μ o ob).2 := (rfl)
@[simp] theorem x_putOb1 {ob} : putOb ρ μ (.slot i) ob = (ρ.set i (.own ob), μ) := (rfl)
@[simp] theorem x_putOb2 {ob} : putOb ρ μ (.sh (.loc i)) ob = (ρ, μ.set i ob) := (rfl)
@[simp] theorem x_getOb1 : getOb ρ μ (.slot i) = slotR ρ[i]? := by
  show (match ρ[i]? with | some (.own o) => some o | _ => none) = _
  cases ρ[i]? with
  | none => rfl
  | some s => cases s <;> rfl
@[simp] theorem x_getOb2 : getOb ρ μ (.sh (.loc i)) = μ[i]? := (rfl)
def lstR : Option Ob → Option (List D)
  | some (.lst xs) => some xs
  | _ => none
@[simp] theorem x_lstR {xs} : lstR (some (.lst xs)) = some xs := (rfl)
@[simp] theorem x_lstAt {o} : lstAt ρ μ o = lstR (getOb ρ μ o) := by
  unfold lstAt lstR
  cases getOb ρ μ o with
  | none => rfl
  | some s => cases s <;> rfl
def appR2 (ρ : Ev) (μ : Store) (o : Op) (d : D) : Option (List D) → Res (Fl × Ev)
  | none => .stk
  | some xs => if xs.length < 16777216 then putRes ρ μ o (.lst (xs ++ [d])) else .stk
@[simp] theorem x_appR2 {o d xs} : appR2 ρ μ o d (some xs) = if xs.length < 16777216 then putRes ρ μ o (.lst (xs ++ [d])) else .stk := (rfl)
def appR (a : ME) (ρ : Ev) (μ : Store) (o : Op) : Option (List D) → Res (Fl × Ev)
  | none => .stk
  | some _ => (toD a ρ μ).bind fun d μ2 => appR2 ρ μ2 o d (lstAt ρ μ2 o)
@[simp] theorem x_appR {o xs} : appR a ρ μ o (some xs) = (toD a ρ μ).bind fun d μ2 => appR2 ρ μ2 o d (lstAt ρ μ2 o) := (rfl)
@[simp] theorem x_mApp : mApp b a ρ μ = (b ρ μ).bind fun o μ1 => appR a ρ μ1 o (lstAt ρ μ1 o) := (rfl)
@[simp] theorem x_mSeq : mSeq s n ρ μ = seqR (s ρ μ) n := (rfl)
@[simp] theorem x_mNx : mNx ρ μ = .ok (.nx, ρ) μ := (rfl)
@[simp] theorem x_mSet : mSet i a ρ μ = (toD a ρ μ).bind fun d μ1 => .ok (.nx, ρ.set i (.sh d)) μ1 := (rfl)
def ownR (ρ : Ev) (i : Nat) (o : Op) (μ : Store) : Res (Fl × Ev) := match o with
  | .own ob => .ok (.nx, ρ.set i (.own ob)) μ
  | _ => .stk
@[simp] theorem x_ownR {ob} : ownR ρ i (.own ob) μ = .ok (.nx, ρ.set i (.own ob)) μ := (rfl)
@[simp] theorem x_mOwn : mOwn i a ρ μ = (a ρ μ).bind (ownR ρ i) := (rfl)
def retR (ρ : Ev) (μ : Store) : Option Rv → Res (Fl × Ev)
  | some rv => .ok (.rt rv, ρ) μ
  | none => .stk
@[simp] theorem x_retR {rv} : retR ρ μ (some rv) = .ok (.rt rv, ρ) μ := (rfl)
@[simp] theorem x_mRet : mRet a ρ μ = (a ρ μ).bind fun o μ1 => retR ρ μ1 (opRv ρ o) := (rfl)
@[simp] theorem x_opRv1 {d} : opRv ρ (.sh d) = some (.sh d) := (rfl)
@[simp] theorem x_opRv2 {d} : opRv ρ (.own d) = some (.own d) := (rfl)
@[simp] theorem x_opRv3 : opRv ρ (.slot i) = (slotR ρ[i]?).map .own := by
  show (match ρ[i]? with | some (.own o) => some (Rv.own o) | _ => none) = _
  cases ρ[i]? with
  | none => rfl
  | some s => cases s <;> rfl
@[simp] theorem x_mDrop : mDrop a ρ μ = (a ρ μ).bind fun _ μ1 => .ok (.nx, ρ) μ1 := (rfl)
@[simp] theorem x_mFor {it g} : mFor it g s ρ μ = (it ρ μ).bind fun xs μ1 => forL g s xs ρ μ1 := (rfl)
@[simp] theorem x_iSeq : iSeq m ρ μ = (toD m ρ μ).bind fun d μ1 => Res.of d.items μ1 := (rfl)
@[simp] theorem x_items1 {ds} : D.items (.lst ds) = some ds := (rfl)
@[simp] theorem x_items2 {ds} : D.items (.tup ds) = some ds := (rfl)
@[simp] theorem x_items3 {ns} : D.items (.scr ns) = some (ns.map .int) := (rfl)
def range1R (d : D) (μ : Store) : Res (List D) := match d with
  | .int n => Res.of (rangeD 0 n) μ
  | _ => .stk
@[simp] theorem x_range1R {n} : range1R (.int n) μ = Res.of (rangeD 0 n) μ := (rfl)
@[simp] theorem x_iRange1 : iRange1 m ρ μ = (toD m ρ μ).bind range1R := (rfl)
def enumR (d : D) (μ : Store) : Res (List D) := match d with
  | .lst ds => .ok (enumD ds) μ
  | _ => .stk
@[simp] theorem x_enumR {ds} : enumR (.lst ds) μ = .ok (enumD ds) μ := (rfl)
@[simp] theorem x_iEnumD : iEnumD m ρ μ = (toD m ρ μ).bind enumR := (rfl)
@[simp] theorem x_gT {is ds} : gT is (.tup ds) ρ = if ds.length = is.length then some (setsE is ds ρ) else none := (rfl)
@[simp] theorem x_gN {d} : gN i d ρ = some (ρ.set i (.sh d)) := (rfl)
@[simp] theorem x_setsE1 {is d ds} : setsE (i :: is) (d :: ds) ρ = setsE is ds (ρ.set i (.sh d)) := (rfl)
@[simp] theorem x_setsE2 : setsE [] [] ρ = ρ := (rfl)
@[simp] theorem x_eCall {f} : eCall f as ρ μ = (as ρ μ).bind fun ds μ1 => (f ds μ1).bind fun rv μ2 => .ok rv.op μ2 := (rfl)
@[simp] theorem x_noX {f ds} : noX f ds μ = noXR (f ds μ) := (rfl)
@[simp] theorem x_eLc {it g ws} : eLc it g ws t a ρ μ = (it ρ μ).bind fun xs μ1 => (lcL g t a (wipeE ρ ws) xs μ1 []).bind fun ds μ2 => .ok (.own (.lst ds)) μ2 := (rfl)
@[simp] theorem x_mYes : mYes ρ μ = .ok true μ := (rfl)
def frzR (ρ : Ev) (i : Nat) (μ : Store) : Option Ob → Res (Fl × Ev)
  | some o => (match frzD o with
    | some d => .ok (.nx, ρ.set i (.sh d)) μ
    | none => .stk)
  | none => .stk
@[simp] theorem x_frzR {xs} : frzR ρ i μ (some (.lst xs)) = .ok (.nx, ρ.set i (.sh (.lst xs))) μ := (rfl)
def frzS (ρ : Ev) (i : Nat) (μ : Store) : Option Sl → Res (Fl × Ev)
  | some (.own o) => frzR ρ i μ (some o)
  | some (.sh _) => .ok (.nx, ρ) μ
  | _ => .stk
@[simp] theorem x_frzS1 {o} : frzS ρ i μ (some (.own o)) = frzR ρ i μ (some o) := (rfl)
@[simp] theorem x_frzS2 {d} : frzS ρ i μ (some (.sh d)) = .ok (.nx, ρ) μ := (rfl)
@[simp] theorem x_mFrz : mFrz i ρ μ = frzS ρ i μ ρ[i]? := by
  unfold mFrz
  cases ρ[i]? with
  | none => rfl
  | some s => cases s <;> rfl
@[simp] theorem x_runB {n p ds} : runB n p s ds μ = if ds.length = p then endR (s (startE n ds) μ) else .stk := (rfl)
@[simp] theorem x_startE {n ds} : startE n ds = ds.map .sh ++ List.replicate (n - ds.length) .no := (rfl)
@[simp] theorem x_eCh2 {f g} : eCh2 f g a b c ρ μ = (a ρ μ).bind fun x μ1 => (b ρ μ1).bind fun y μ2 => chainE f ρ μ2 x y fun μ2 => (c ρ μ2).bind fun z μ3 => Res.of (fin2 g ρ μ3 y z) μ3 := (rfl)
@[simp] theorem x_eCh3 {f g h} : eCh3 f g h a b c d ρ μ = (a ρ μ).bind fun x μ1 => (b ρ μ1).bind fun y μ2 => chainE f ρ μ2 x y fun μ2 => (c ρ μ2).bind fun z μ3 => chainE g ρ μ3 y z fun μ3 => (d ρ μ3).bind fun u μ4 => Res.of (fin2 h ρ μ4 z u) μ4 := (rfl)
def chR (μ : Store) (k : Store → Res Op) : Option Op → Res Op
  | some (.sh (.bl c)) => if c = true then k μ else .ok (.sh (.bl false)) μ
  | _ => .stk
@[simp] theorem x_chR {k} {c : Bool} : chR μ k (some (.sh (.bl c))) = if c = true then k μ else .ok (.sh (.bl false)) μ := (rfl)
@[simp] theorem x_chainE {f x y k} : chainE f ρ μ x y k = chR μ k (fin2 f ρ μ x y) := (rfl)
@[simp] theorem x_mPar {is} : mPar is as ρ μ = (as ρ μ).bind fun ds μ1 => if ds.length = is.length then .ok (.nx, setsE is ds ρ) μ1 else .stk := (rfl)
@[simp] theorem x_wipe1 : wipeE ρ [] = ρ := (rfl)
@[simp] theorem x_wipe2 {vs} : wipeE ρ (i :: vs) = (wipeE ρ vs).set i .no := (rfl)
@[simp] theorem x_eDK : eDK ρ μ = .ok (.own (.dK [])) μ := (rfl)
@[simp] theorem x_eDT : eDT ρ μ = .ok (.own (.dT [])) μ := (rfl)
@[simp] theorem x_eIsi {T} : eIsi T a ρ μ = (a ρ μ).bind fun x μ1 => Res.of ((deref ρ μ1 x).bind fun wx => (fIsi T wx).map Rv.op) μ1 := (rfl)
@[simp] theorem x_eRev : eRev a ρ μ = (a ρ μ).bind fun x μ1 => Res.of ((deref ρ μ1 x).bind fun wx => (fRev wx).map Rv.op) μ1 := (rfl)
@[simp] theorem x_eFld {k f} : eFld k f a ρ μ = (a ρ μ).bind fun x μ1 => Res.of ((deref ρ μ1 x).bind fun wx => (fFld k f wx).map Rv.op) μ1 := (rfl)
def locR (o : Op) (μ : Store) : Res Op := match o with
  | .own ob => .ok (.sh (.loc μ.length)) (μ ++ [ob])
  | _ => .stk
@[simp] theorem x_locR {ob} : locR (.own ob) μ = .ok (.sh (.loc μ.length)) (μ ++ [ob]) := (rfl)
@[simp] theorem x_eLoc : eLoc a ρ μ = (a ρ μ).bind locR := (rfl)
def forLocR (g : D → Ev → Option Ev) (s : MS) (ρ : Ev) (d : D) (μ : Store) : Res (Fl × Ev) := match d with
  | .loc n => if isLst μ n = true then forLoc g s n 16777300 0 ρ μ else .stk
  | _ => .stk
@[simp] theorem x_forLocR {g n} : forLocR g s ρ (.loc n) μ = if isLst μ n = true then forLoc g s n 16777300 0 ρ μ else .stk := (rfl)
@[simp] theorem x_mForLoc {g} : mForLoc a g s ρ μ = (toD a ρ μ).bind (forLocR g s ρ) := (rfl)
@[simp] theorem x_eGet1 : eGet1 a b ρ μ = (a ρ μ).bind fun oo μ1 => if isDat ρ μ1 oo = true then (toD b ρ μ1).bind fun dk μ2 => getR μ2 .non (getAt ρ μ2 oo dk) else .stk := (rfl)
@[simp] theorem x_eGet2 : eGet2 a b c ρ μ = (a ρ μ).bind fun oo μ1 => if isDat ρ μ1 oo = true then (toD b ρ μ1).bind fun dk μ2 => (toD c ρ μ2).bind fun dx μ3 => getR μ3 dx (getAt ρ μ3 oo dk) else .stk := (rfl)
def isDatR : Option Vw → Bool
  | some w => w.isD
  | none => false
@[simp] theorem x_isDat {o} : isDat ρ μ o = isDatR (deref ρ μ o) := (rfl)
@[simp] theorem x_isDatR1 {kvs} : isDatR (some (.ob (.dK kvs))) = true := (rfl)
@[simp] theorem x_isDatR2 {kvs} : isDatR (some (.ob (.dT kvs))) = true := (rfl)
@[simp] theorem x_getAt {o k} : getAt ρ μ o k = (deref ρ μ o).bind fun w => (k.vw μ).bind fun wk => fGet w wk := (rfl)
@[simp] theorem x_getR {dx r} : getR μ dx (some r) = .ok (.sh (r.getD dx)) μ := (rfl)
@[simp] theorem x_eMeth {k x f} : eMeth k x f a as ρ μ = (a ρ μ).bind fun oo μ1 => if insAt k x ρ μ1 oo = true then (as ρ μ1).bind fun ds μ2 => methR f (selfD oo) ds μ2 else .stk := (rfl)
def insR' (k x : Str) : Option Vw → Bool
  | some (.ob (.ins c' fs)) => decide (c' = k) && (fs.lookup x).isNone
  | _ => false
@[simp] theorem x_insAt {k x o} : insAt k x ρ μ o = insR' k x (deref ρ μ o) := by
  unfold insAt insR'
  cases deref ρ μ o with
  | none => rfl
  | some w => cases w with
    | d _ => rfl
    | ob o => cases o <;> rfl
@[simp] theorem x_insR {k x fs} : insR' k x (some (.ob (.ins k fs))) = (fs.lookup x).isNone := by
  show (decide (k = k) && (fs.lookup x).isNone) = _
  rw [decide_eq_true rfl, Bool.true_and]
@[simp] theorem x_selfD {d} : selfD (.sh d) = some d := (rfl)
@[simp] theorem x_methR {f d ds} : methR f (some d) ds μ = (f (d :: ds) μ).bind fun rv μ2 => .ok rv.op μ2 := (rfl)
@[simp] theorem x_eMake {k f} : eMake k f as ρ μ = (as ρ μ).bind fun ds μ1 => makeR μ1.length (f (.loc μ1.length :: ds) (μ1 ++ [.ins k []])) := (rfl)
@[simp] theorem x_makeR {n} : makeR n (.ok (.sh .non) μ) = .ok (.sh (.loc n)) μ := (rfl)
def fldR (ρ : Ev) (μ : Store) (oo : Op) : Option Ob → Res (Fl × Ev)
  | some ob' => putRes ρ μ oo ob'
  | none => .stk
@[simp] theorem x_fldR {oo ob} : fldR ρ μ oo (some ob) = putRes ρ μ oo ob := (rfl)
@[simp] theorem x_mFld {k f} : mFld k f a b ρ μ = (toD b ρ μ).bind fun d μ1 => (a ρ μ1).bind fun oo μ2 => fldR ρ μ2 oo (fldSet k f d (getOb ρ μ2 oo)) := (rfl)
@[simp] theorem x_rd4 {k fs} : Ob.rd (.ins k fs) = some (.ins k fs) := (rfl)
def range2R (d d' : D) (μ : Store) : Res (List D) := match d, d' with
  | .int i, .int j => Res.of (rangeD i j) μ
  | _, _ => .stk
@[simp] theorem x_range2R {i j : Int} : range2R (.int i) (.int j) μ = Res.of (rangeD i j) μ := (rfl)
@[simp] theorem x_iRange2 : iRange2 a b ρ μ = (toD a ρ μ).bind fun d μ1 => (toD b ρ μ1).bind fun d' μ2 => range2R d d' μ2 := (rfl)
def revR (d : D) (μ : Store) : Res (List D) := match d with
  | .lst ds => .ok ds.reverse μ
  | _ => .stk
@[simp] theorem x_revR {ds} : revR (.lst ds) μ = .ok ds.reverse μ := (rfl)
@[simp] theorem x_iRevD : iRevD m ρ μ = (toD m ρ μ).bind revR := (rfl)
@[simp] theorem x_oNone : oNone ρ μ = .ok none μ := (rfl)
def oSomeR (o : Op) (μ : Store) : Res (Option Int) := match o with
  | .sh (.int i) => .ok (some i) μ
  | _ => .stk
@[simp] theorem x_oSomeR {i : Int} : oSomeR (.sh (.int i)) μ = .ok (some i) μ := (rfl)
@[simp] theorem x_oSome : oSome a ρ μ = (a ρ μ).bind oSomeR := (rfl)
@[simp] theorem x_eCut {lo hi} : eCut a lo hi ρ μ = (a ρ μ).bind fun x μ1 => (lo ρ μ1).bind fun l μ2 => (hi ρ μ2).bind fun h μ3 => Res.of ((deref ρ μ3 x).bind fun w => (fCut w l h).map Rv.op) μ3 := (rfl)
@[simp] theorem x_fCut1 {ds lo hi} : fCut (.ob (.lst ds)) lo hi = some (.own (.lst (cutD ds lo hi))) := (rfl)
@[simp] theorem x_fCut2 {ds lo hi} : fCut (.d (.tup ds)) lo hi = some (.sh (.tup (cutD ds lo hi))) := (rfl)
def unpR (μ : Store) : Option Ev → Res (Fl × Ev)
  | some ρ' => .ok (.nx, ρ') μ
  | none => .stk
@[simp] theorem x_unpR {ρ'} : unpR μ (some ρ') = .ok (.nx, ρ') μ := (rfl)
@[simp] theorem x_mUnp {is} : mUnp is a ρ μ = (toD a ρ μ).bind fun d μ1 => unpR μ1 (gT is d ρ) := (rfl)
@[simp] theorem x_frzR2 {kvs} : frzR ρ i μ (some (.dT kvs)) = .ok (.nx, ρ.set i (.sh (.dT (kvs.map (·.1)) (kvs.map (·.2))))) μ := (rfl)
@[simp] theorem x_frzR3 {kvs} : frzR ρ i μ (some (.dK kvs)) = .ok (.nx, ρ.set i (.sh (.dK (kvs.map (·.1)) (kvs.map (·.2))))) μ := (rfl)
@[simp] theorem x_vw9 {ks vs} : D.vw μ (.dT ks vs) = some (.ob (.dT (ks.zip vs))) := (rfl)
@[simp] theorem x_vw10 {ks vs} : D.vw μ (.dK ks vs) = some (.ob (.dK (ks.zip vs))) := (rfl)
def popR2 (n : Nat) (d : D) (μ : Store) : Res Op := match d with
  | .int i => popR μ n i
  | _ => .stk
@[simp] theorem x_popR2 {n} {i : Int} : popR2 n (.int i) μ = popR μ n i := (rfl)
def popR1 (b : ME) (ρ : Ev) (o : Op) (μ : Store) : Res Op := match o with
  | .sh (.loc n) => if isLst μ n = true then (toD b ρ μ).bind (popR2 n) else .stk
  | _ => .stk
@[simp] theorem x_popR1 {n} : popR1 b ρ (.sh (.loc n)) μ = if isLst μ n = true then (toD b ρ μ).bind (popR2 n) else .stk := (rfl)
@[simp] theorem x_ePop : ePop a b ρ μ = (a ρ μ).bind (popR1 b ρ) := (rfl)
def isLstR : Option Ob → Bool
  | some (.lst _) => true
  | _ => false
@[simp] theorem x_isLst {n} : isLst μ n = isLstR μ[n]? := by
  unfold isLst isLstR
  cases μ[n]? with
  | none => rfl
  | some o => cases o <;> rfl
@[simp] theorem x_isLstR {xs} : isLstR (some (.lst xs)) = true := (rfl)
end
/-! ### numbers -/
@[simp] theorem fAdd_int (i j : Int) : fAdd (.d (.int i)) (.d (.int j)) = some (.sh (.int (i + j))) := (rfl)
@[simp] theorem fAdd_lst (xs ys : List D) : fAdd (.ob (.lst xs)) (.ob (.lst ys)) = if xs.length + ys.length ≤ 16777216 then some (.own (.lst (xs ++ ys))) else none := (rfl)
@[simp] theorem fSub_int (i j : Int) : fSub (.d (.int i)) (.d (.int j)) = some (.sh (.int (i - j))) := (rfl)
@[simp] theorem fLe_int (i j : Int) : fLe (.d (.int i)) (.d (.int j)) = some (.sh (.bl (decide (i ≤ j)))) := (rfl)
@[simp] theorem fLt_int (i j : Int) : fLt (.d (.int i)) (.d (.int j)) = some (.sh (.bl (decide (i < j)))) := (rfl)
@[simp] theorem fGe_int (i j : Int) : fGe (.d (.int i)) (.d (.int j)) = some (.sh (.bl (decide (j ≤ i)))) := (rfl)
@[simp] theorem fGt_int (i j : Int) : fGt (.d (.int i)) (.d (.int j)) = some (.sh (.bl (decide (j < i)))) := (rfl)
@[simp] theorem fNeg_int (i : Int) : fNeg (.d (.int i)) = some (.sh (.int (-i))) := (rfl)
@[simp] theorem fMax2_int (i j : Int) : fMax2 [.d (.int i), .d (.int j)] = some (.sh (.int (max i j))) := (rfl)
@[simp] theorem fMin2_int (i j : Int) : fMin2 [.d (.int i), .d (.int j)] = some (.sh (.int (min i j))) := (rfl)
@[simp] theorem fLen_tup (ds : List D) : fLen [.d (.tup ds)] = some (.sh (.int ds.length)) := (rfl)
@[simp] theorem fLen_lst (ds : List D) : fLen [.ob (.lst ds)] = some (.sh (.int ds.length)) := (rfl)
@[simp] theorem fLen_scr (ds : List Int) : fLen [.d (.scr ds)] = some (.sh (.int ds.length)) := (rfl)
@[simp] theorem fIx_row0 (a b c : D) : fIx (.d (.tup [a, b, c])) (.d (.int 0)) = some (.sh a) := (rfl)
@[simp] theorem fIx_row1 (a b c : D) : fIx (.d (.tup [a, b, c])) (.d (.int 1)) = some (.sh b) := (rfl)
@[simp] theorem fIx_row2 (a b c : D) : fIx (.d (.tup [a, b, c])) (.d (.int 2)) = some (.sh c) := (rfl)
theorem ixN_snoc {α : Type} (xs : List α) (d : α) : ixN (xs ++ [d]).length (-1) = some xs.length := by
  unfold ixN
  rw [if_neg (by omega), if_pos (by simp only [List.length_append, List.length_singleton]; omega)]
  congr 1
  simp only [List.length_append, List.length_singleton]
  omega
theorem set_snoc {α : Type} (xs : List α) (d e : α) : (xs ++ [d]).set xs.length e = xs ++ [e] := by
  rw [List.set_append_right _ _ (Nat.le_refl _), Nat.sub_self]
  rfl
@[simp] theorem fSet_snoc (xs : List D) (d e : D) : fSet (.lst (xs ++ [d])) (.int (-1)) e = some (.lst (xs ++ [e])) := by
  show (ixN (xs ++ [d]).length (-1)).map (fun j => Ob.lst ((xs ++ [d]).set j e)) = _
  rw [ixN_snoc]
  show some (Ob.lst ((xs ++ [d]).set xs.length e)) = _
  rw [set_snoc]
@[simp] theorem fIx_snoc (xs : List D) (d : D) : fIx (.ob (.lst (xs ++ [d]))) (.d (.int (-1))) = some (.sh d) := by
  show (atI (xs ++ [d]) (-1)).map Rv.sh = _
  rw [atI_last]
  rfl
@[simp] theorem fLenB_lst (ds : List D) : fLenB [.ob (.lst ds)] = some (.sh (.int ds.length)) := (rfl)
@[simp] theorem fLenB_tup (ds : List D) : fLenB [.d (.tup ds)] = some (.sh (.int ds.length)) := (rfl)
@[simp] theorem fLenB_scr (ds : List Int) : fLenB [.d (.scr ds)] = some (.sh (.int ds.length)) := (rfl)
@[simp] theorem fLenB_dT (kvs : List (List Key × D)) : fLenB [.ob (.dT kvs)] = some (.sh (.int kvs.length)) := (rfl)
@[simp] theorem fLenB_dK (kvs : List (Key × D)) : fLenB [.ob (.dK kvs)] = some (.sh (.int kvs.length)) := (rfl)
@[simp] theorem fSrt_lst (ds : List D) : fSrt [.ob (.lst ds)] = fSorted [.ob (.lst ds)] := (rfl)
@[simp] theorem fList_lst (ds : List D) : fList [.ob (.lst ds)] = some (.own (.lst ds)) := (rfl)
@[simp] theorem fList_tup (ds : List D) : fList [.d (.tup ds)] = some (.own (.lst ds)) := (rfl)
@[simp] theorem fTuple_lst (ds : List D) : fTuple [.ob (.lst ds)] = some (.sh (.tup ds)) := (rfl)
@[simp] theorem fInt_bl (b : Bool) : fInt [.d (.bl b)] = some (.sh (.int (if b then 1 else 0))) := (rfl)
@[simp] theorem fRev_lst (ds : List D) : fRev (.ob (.lst ds)) = some (.own (.lst ds.reverse)) := (rfl)
@[simp] theorem fIs_non : fIs id (.d .non) (.d .non) = some (.sh (.bl true)) := (rfl)
@[simp] theorem fIx_p0 (a b : D) : fIx (.d (.tup [a, b])) (.d (.int 0)) = some (.sh a) := (rfl)
@[simp] theorem fIx_p1 (a b : D) : fIx (.d (.tup [a, b])) (.d (.int 1)) = some (.sh b) := (rfl)
@[simp] theorem fIx_q0 (a b c d : D) : fIx (.d (.tup [a, b, c, d])) (.d (.int 0)) = some (.sh a) := (rfl)
@[simp] theorem fIx_q1 (a b c d : D) : fIx (.d (.tup [a, b, c, d])) (.d (.int 1)) = some (.sh b) := (rfl)
@[simp] theorem fIx_q2 (a b c d : D) : fIx (.d (.tup [a, b, c, d])) (.d (.int 2)) = some (.sh c) := (rfl)
@[simp] theorem fIx_q3 (a b c d : D) : fIx (.d (.tup [a, b, c, d])) (.d (.int 3)) = some (.sh d) := (rfl)
@[simp] theorem fIx_o0 (a : D) : fIx (.d (.tup [a])) (.d (.int 0)) = some (.sh a) := (rfl)
end DL

/-! ### what holds behind a piece that ends well -/
namespace DL
open PySem L2
class KO (α : Type) where
  run : α → Store → Prop
class KN where
  run : Ev → Store → Prop
class KT where
  run : Rv → Store → Prop
/-- what follows stands where simp does not look -/
def OkI {α : Type} (r : Res α) [K : KO α] : Prop := match r with
  | .ok a μ => K.run a μ
  | _ => False
def OkSI (r : Res (Fl × Ev)) [N : KN] [T : KT] : Prop := match r with
  | .ok (.nx, ρ) μ => N.run ρ μ
  | .ok (.rt rv, _) μ => T.run rv μ
  | _ => False
abbrev Ok {α : Type} (r : Res α) (Q : α → Store → Prop) : Prop := @OkI α r ⟨Q⟩
abbrev OkS (r : Res (Fl × Ev)) (N : Ev → Store → Prop) (T : Rv → Store → Prop) : Prop := @OkSI r ⟨N⟩ ⟨T⟩
section
variable {α β : Type} {r r' : Res α} {f : α → Store → Res β} {μ : Store} {a : α} {s s' : Res (Fl × Ev)} {n : MS} {c : Prop} [Decidable c]
@[simp] theorem run_O {q : α → Store → Prop} : (KO.mk q).run a μ = q a μ := (rfl)
@[simp] theorem run_N {q : Ev → Store → Prop} {ρ} : (KN.mk q).run ρ μ = q ρ μ := (rfl)
@[simp] theorem run_T {q : Rv → Store → Prop} {ρ} : (KT.mk q).run ρ μ = q ρ μ := (rfl)
@[simp] theorem ok_ok {K : KO α} : @OkI α (.ok a μ) K = K.run a μ := (rfl)
@[simp ↓] theorem ok_bind {K : KO β} : @OkI β (r.bind f) K = @OkI α r ⟨fun a μ => @OkI β (f a μ) K⟩ := by cases r <;> rfl
@[simp] theorem okS_nx {N : KN} {T : KT} {ρ} : @OkSI (.ok (.nx, ρ) μ) N T = N.run ρ μ := (rfl)
@[simp] theorem okS_rt {N : KN} {T : KT} {rv ρ} : @OkSI (.ok (.rt rv, ρ) μ) N T = T.run rv μ := (rfl)
@[simp ↓] theorem okS_bind {N : KN} {T : KT} {f : α → Store → Res (Fl × Ev)} : @OkSI (r.bind f) N T = @OkI α r ⟨fun a μ => @OkSI (f a μ) N T⟩ := by cases r <;> rfl
@[simp ↓] theorem okS_seq {N : KN} {T : KT} : @OkSI (seqR s n) N T = @OkSI s ⟨fun ρ μ => @OkSI (n ρ μ) N T⟩ T := by
  cases s with
  | ok p μ => obtain ⟨f, ρ⟩ := p; cases f <;> rfl
  | _ => rfl
@[simp ↓] theorem okS_end {K : KO Rv} : @OkI Rv (endR s) K = @OkSI s ⟨fun _ μ => K.run (.sh .non) μ⟩ ⟨K.run⟩ := by
  cases s with
  | ok p μ => obtain ⟨f, ρ⟩ := p; cases f <;> rfl
  | _ => rfl
@[simp ↓] theorem ok_noX {r : Res Rv} {K : KO Rv} : @OkI Rv (noXR r) K = @OkI Rv r K := by cases r <;> rfl
@[simp ↓] theorem ok_make {r : Res Rv} {k : Nat} {K : KO Op} : @OkI Op (makeR k r) K = @OkI Rv r ⟨fun rv μ => rv = .sh .non ∧ K.run (.sh (.loc k)) μ⟩ := by
  cases r with
  | ok rv μ =>
    cases rv with
    | sh d => cases d <;> first | (show K.run _ μ = (_ ∧ K.run _ μ); simp) | (show False = (_ ∧ _); simp)
    | own _ => show False = (_ ∧ _); simp
  | _ => rfl
end
section
variable {α β : Type} {r r' : Res α} {f : α → Store → Res β} {Q Q' : α → Store → Prop} {P : β → Store → Prop} {μ : Store} {a : α} {N N' : Ev → Store → Prop} {T T' : Rv → Store → Prop} {s s' : Res (Fl × Ev)} {n : MS}
theorem Ok.mono (h : Ok r Q) (k : ∀ a μ, Q a μ → Q' a μ) : Ok r Q' := by
  cases r with
  | ok a μ => exact k a μ h
  | _ => exact h
theorem OkS.mono (h : OkS s N T) (k : ∀ ρ μ, N ρ μ → N' ρ μ) (k2 : ∀ rv μ, T rv μ → T' rv μ) : OkS s N' T' := by
  cases s with
  | ok p μ =>
    obtain ⟨f, ρ⟩ := p
    cases f with
    | nx => exact k ρ μ h
    | rt rv => exact k2 rv μ h
    | _ => exact h
  | _ => exact h
theorem Ok.ex (h : Ok r Q) : ∃ a μ, r = .ok a μ ∧ Q a μ := by
  cases r with
  | ok a μ => exact ⟨a, μ, rfl, h⟩
  | _ => exact h.elim
theorem Ok.of (h : r = .ok a μ) (k : Q a μ) : Ok r Q := by rw [h]; exact k
theorem OkS.of {ρ} (h : s = .ok (.nx, ρ) μ) (k : N ρ μ) : OkS s N T := by rw [h]; exact k
end
/-! ### loops -/
theorem okS_for {α : Type} {enc : α → D} {g : D → Ev → Option Ev} {b : MS} {N : Ev → Store → Prop} {T : Rv → Store → Prop} (I : List α → Ev → Store → Prop) (hs : ∀ x xs ρ μ (N' : Ev → Store → Prop), I (x :: xs) ρ μ → (∀ ρ' μ', I xs ρ' μ' → N' ρ' μ') → ∃ ρ1, g (enc x) ρ = some ρ1 ∧ OkS (b ρ1 μ) N' T) (he : ∀ ρ μ, I [] ρ μ → N ρ μ) :
    ∀ {xs : List α} {ρ : Ev} {μ : Store}, I xs ρ μ → OkS (forL g b (xs.map enc) ρ μ) N T
  | [], ρ, μ, h => he ρ μ h
  | x :: xs, ρ, μ, h => by
    obtain ⟨ρ1, e, k⟩ := hs x xs ρ μ (I xs) h fun _ _ z => z
    rw [List.map_cons, forL, e]
    dsimp only
    cases c : b ρ1 μ with
    | stk => rw [c] at k; exact k.elim
    | exc _ _ => rw [c] at k; exact k.elim
    | ok p μ1 =>
      rw [c] at k
      obtain ⟨f, ρ2⟩ := p
      cases f with
      | nx => exact okS_for I hs he k
      | rt rv => exact k
      | bk => exact k.elim
      | ct => exact k.elim
/-- a loop over any data, the invariant by the number of what is left -/
theorem okS_forD {g : D → Ev → Option Ev} {b : MS} {N : Ev → Store → Prop} {T : Rv → Store → Prop} (I : List D → Ev → Store → Prop) (hs : ∀ x xs ρ μ (N' : Ev → Store → Prop), I (x :: xs) ρ μ → (∀ ρ' μ', I xs ρ' μ' → N' ρ' μ') → ∃ ρ1, g x ρ = some ρ1 ∧ OkS (b ρ1 μ) N' T) (he : ∀ ρ μ, I [] ρ μ → N ρ μ)
    {xs : List D} {ρ : Ev} {μ : Store} (h : I xs ρ μ) : OkS (forL g b xs ρ μ) N T := by
  have := okS_for (enc := id) I hs he h
  rwa [List.map_id] at this
theorem okS_loc {g : D → Ev → Option Ev} {b : MS} {n : Nat} {N : Ev → Store → Prop} {T : Rv → Store → Prop} (ys : List D) (I : List D → Ev → Store → Prop) (hk : ∀ xs ρ μ, I xs ρ μ → μ[n]? = some (.lst ys)) (hs : ∀ x xs ρ μ (N' : Ev → Store → Prop), I (x :: xs) ρ μ → (∀ ρ' μ', I xs ρ' μ' → N' ρ' μ') → ∃ ρ1, g x ρ = some ρ1 ∧ OkS (b ρ1 μ) N' T) (he : ∀ ρ μ, I [] ρ μ → N ρ μ) :
    ∀ (f i : Nat) {ρ : Ev} {μ : Store}, ys.length < f + i → i ≤ ys.length → I (ys.drop i) ρ μ → OkS (forLoc g b n f i ρ μ) N T
  | 0, i, ρ, μ, hf, hi, h => by omega
  | f + 1, i, ρ, μ, hf, hi0, h => by
    unfold forLoc
    rw [hk _ _ _ h]
    dsimp only
    by_cases hi : i < ys.length
    · rw [List.getElem?_eq_getElem hi]
      rw [List.drop_eq_getElem_cons hi] at h
      obtain ⟨ρ1, e, k⟩ := hs _ _ ρ μ _ h fun _ _ z => z
      dsimp only
      rw [e]
      dsimp only
      cases c : b ρ1 μ with
      | stk => rw [c] at k; exact k.elim
      | exc _ _ => rw [c] at k; exact k.elim
      | ok p μ1 =>
        rw [c] at k
        obtain ⟨fl, ρ2⟩ := p
        cases fl with
        | nx => exact okS_loc ys I hk hs he f (i + 1) (by omega) hi k
        | rt rv => exact k
        | bk => exact k.elim
        | ct => exact k.elim
    · rw [List.getElem?_eq_none (by omega)]
      rw [List.drop_eq_nil_of_le (by omega)] at h
      exact he ρ μ h
theorem okS_while {c : MT} {b : MS} {N : Ev → Store → Prop} {T : Rv → Store → Prop} (I : Nat → Ev → Store → Prop) (hs : ∀ k ρ μ (N' : Ev → Store → Prop), I k ρ μ → (∀ k' ρ' μ', k' < k → I k' ρ' μ' → N' ρ' μ') → Ok (c ρ μ) fun t μ1 => if t = true then OkS (b ρ μ1) N' T else N ρ μ1) :
    ∀ (f k : Nat) {ρ : Ev} {μ : Store}, k < f → I k ρ μ → OkS (whileL c b f ρ μ) N T
  | 0, k, ρ, μ, hf, h => by omega
  | f + 1, k, ρ, μ, hf, h => by
    have q := hs k ρ μ (fun ρ' μ' => ∃ k', k' < k ∧ I k' ρ' μ') h fun k' ρ' μ' a b => ⟨k', a, b⟩
    unfold whileL
    cases cc : c ρ μ with
    | stk => rw [cc] at q; exact q.elim
    | exc _ _ => rw [cc] at q; exact q.elim
    | ok t μ1 =>
      rw [cc] at q
      have q : if t = true then OkS (b ρ μ1) (fun ρ' μ' => ∃ k', k' < k ∧ I k' ρ' μ') T else N ρ μ1 := q
      show OkS (if t = true then loopR (b ρ μ1) (whileL c b f) else .ok (.nx, ρ) μ1) N T
      cases t with
      | false => rw [if_neg Bool.false_ne_true] at q ⊢; exact q
      | true =>
        rw [if_pos rfl] at q ⊢
        cases cb : b ρ μ1 with
        | stk => rw [cb] at q; exact q.elim
        | exc _ _ => rw [cb] at q; exact q.elim
        | ok p μ2 =>
          rw [cb] at q
          obtain ⟨fl, ρ2⟩ := p
          cases fl with
          | nx =>
            obtain ⟨k', hk, q⟩ := q
            exact okS_while I hs f k' (by omega) q
          | rt rv => exact q
          | bk => exact q.elim
          | ct => exact q.elim
/-! ### comprehensions -/
theorem lc_fm {α : Type} {enc : α → D} {g : D → Ev → Option Ev} {t : MT} {e : ME} {ρ : Ev} {μ : Store} (p : α → Bool) (f : α → D) : ∀ (ys : List α) (acc : List D), acc.length + ys.length ≤ 16777216 → (∀ x ∈ ys, ∃ ρ1, g (enc x) ρ = some ρ1 ∧ t ρ1 μ = .ok (p x) μ ∧ (p x = true → toD e ρ1 μ = .ok (f x) μ)) →
    lcL g t e ρ (ys.map enc) μ acc = .ok (acc ++ (ys.filter p).map f) μ
  | [], acc, _, _ => by simp [lcL]
  | y :: ys, acc, hl, h => by
    obtain ⟨ρ1, e1, e2, e3⟩ := h y List.mem_cons_self
    simp only [List.length_cons] at hl
    rw [List.map_cons, lcL, e1]
    dsimp only
    rw [e2]
    show (if p y = true then (toD e ρ1 μ).bind fun d μ2 => if acc.length < 16777216 then lcL g t e ρ (ys.map enc) μ2 (acc ++ [d]) else .stk else lcL g t e ρ (ys.map enc) μ acc) = _
    by_cases c : p y = true
    · rw [if_pos c, e3 c]
      show (if acc.length < 16777216 then lcL g t e ρ (ys.map enc) μ (acc ++ [f y]) else .stk) = _
      rw [if_pos (by omega), lc_fm p f ys _ (by simp only [List.length_append, List.length_cons, List.length_nil]; omega) fun x hx => h x (List.mem_cons_of_mem _ hx), List.filter_cons, if_pos c, List.map_cons, List.append_assoc]
      rfl
    · rw [if_neg c, lc_fm p f ys _ (by omega) fun x hx => h x (List.mem_cons_of_mem _ hx), List.filter_cons, if_neg c]
theorem ok_lc {α : Type} {enc : α → D} {g : D → Ev → Option Ev} {t : MT} {e : ME} {ρ : Ev} {Q : List D → Store → Prop} (I : List α → List D → Store → Prop) (hs : ∀ x xs acc μ (N' : List D → Store → Prop), I (x :: xs) acc μ → (∀ acc' μ', I xs acc' μ' → N' acc' μ') → ∃ ρ1, g (enc x) ρ = some ρ1 ∧ Ok (t ρ1 μ) fun c μ1 => if c = true then Ok (toD e ρ1 μ1) fun d μ2 => acc.length < 16777216 ∧ N' (acc ++ [d]) μ2 else N' acc μ1) (he : ∀ acc μ, I [] acc μ → Q acc μ) :
    ∀ {xs : List α} {acc : List D} {μ : Store}, I xs acc μ → Ok (lcL g t e ρ (xs.map enc) μ acc) Q
  | [], acc, μ, h => he acc μ h
  | x :: xs, acc, μ, h => by
    obtain ⟨ρ1, e1, k⟩ := hs x xs acc μ (I xs) h fun _ _ z => z
    rw [List.map_cons, lcL, e1]
    dsimp only
    refine Eq.mpr ok_bind ?_
    refine Ok.mono k fun c μ1 q => ?_
    cases c with
    | false =>
      rw [if_neg Bool.false_ne_true] at q ⊢
      exact ok_lc I hs he q
    | true =>
      rw [if_pos rfl] at q ⊢
      refine Eq.mpr ok_bind ?_
      refine Ok.mono q fun d μ2 q2 => ?_
      rw [if_pos q2.1]
      exact ok_lc I hs he q2.2
theorem ok_eq {α : Type} {r : Res α} {a : α} {μ : Store} (h : Ok r fun x y => x = a ∧ y = μ) : r = .ok a μ := by
  obtain ⟨b, ν, e, rfl, rfl⟩ := h.ex
  exact e
/-! ### throws -/
def diceOb (ns : List Int) (p m e : Int) : Ob := .lst [.scr ns, .int p, .int m, .int e]
def Dice (o : Ob) : Prop := ∃ ns p m e, o = diceOb ns p m e ∧ 0 ≤ p
theorem rangeD_0 {v : Int} (h0 : 0 ≤ v) (h1 : v < 1000000000) : rangeD 0 v = some ((List.range v.toNat).map fun i : Nat => .int (i : Int)) := by
  unfold rangeD
  rw [if_pos (by omega), Int.sub_zero]
  congr 2
  funext i
  rw [Int.zero_add]
end DL

namespace DL
open PySem L2
/-! ### numbers, further -/
theorem fMul_l {i j : Int} (h : -18446744073709551616 < j ∧ j < 18446744073709551616) : fMul (.d (.int i)) (.d (.int j)) = some (.sh (.int (i * j))) := by
  show (if _ then _ else _) = _
  rw [if_pos (.inr h)]
theorem fMod_int {i j : Int} (h : 0 < j) : fMod (.d (.int i)) (.d (.int j)) = some (.sh (.int (i % j))) := by
  show (if decide (0 < j) = true then some (Rv.sh (.int (i % j))) else none) = _
  rw [if_pos (decide_eq_true h)]
theorem fDiv_int {i j : Int} (h : 0 < j) (h2 : j < 18446744073709551616) : fDiv (.d (.int i)) (.d (.int j)) = some (.sh (.int (i / j))) := by
  show (if decide (0 < j ∧ j < 18446744073709551616) = true then some (Rv.sh (.int (i / j))) else none) = _
  rw [if_pos (decide_eq_true ⟨h, h2⟩)]
@[simp] theorem fMod_2 {i : Int} : fMod (.d (.int i)) (.d (.int 2)) = some (.sh (.int (i % 2))) := fMod_int (by omega)
@[simp] theorem fIx_d0 (a b c d : D) : fIx (.ob (.lst [a, b, c, d])) (.d (.int 0)) = some (.sh a) := (rfl)
@[simp] theorem fIx_d1 (a b c d : D) : fIx (.ob (.lst [a, b, c, d])) (.d (.int 1)) = some (.sh b) := (rfl)
@[simp] theorem fIx_d2 (a b c d : D) : fIx (.ob (.lst [a, b, c, d])) (.d (.int 2)) = some (.sh c) := (rfl)
@[simp] theorem fIx_d3 (a b c d : D) : fIx (.ob (.lst [a, b, c, d])) (.d (.int 3)) = some (.sh d) := (rfl)
@[simp] theorem fSet_d1 (a b c d x : D) : fSet (.lst [a, b, c, d]) (.int 1) x = some (.lst [a, x, c, d]) := (rfl)
@[simp] theorem fSet_d2 (a b c d x : D) : fSet (.lst [a, b, c, d]) (.int 2) x = some (.lst [a, b, x, d]) := (rfl)
@[simp] theorem fSet_d3 (a b c d x : D) : fSet (.lst [a, b, c, d]) (.int 3) x = some (.lst [a, b, c, x]) := (rfl)
theorem fPow_int {i j : Int} (h : 0 ≤ j ∧ j ≤ 1000000 ∧ i.natAbs < 18446744073709551616) : fPow (.d (.int i)) (.d (.int j)) = some (.sh (.int (i ^ j.toNat))) := by
  show (if decide (0 ≤ j ∧ j ≤ 1000000 ∧ i.natAbs < 18446744073709551616) = true then some (Rv.sh (.int (i ^ j.toNat))) else none) = _
  rw [if_pos (decide_eq_true h)]
@[simp] theorem fPow_18 : fPow (.d (.int 10)) (.d (.int 18)) = some (.sh (.int 1000000000000000000)) := by
  rw [fPow_int (by omega)]
  rfl
@[simp] theorem fPow_6 : fPow (.d (.int 10)) (.d (.int 6)) = some (.sh (.int 1000000)) := by
  rw [fPow_int (by omega)]
  rfl
@[simp] theorem fPow_9 : fPow (.d (.int 10)) (.d (.int 9)) = some (.sh (.int 1000000000)) := by
  rw [fPow_int (by omega)]
  rfl
@[simp] theorem fPow_12 : fPow (.d (.int 10)) (.d (.int 12)) = some (.sh (.int 1000000000000)) := by
  rw [fPow_int (by omega)]
  rfl
theorem fIx_scr {ns : List Int} {p : Int} (h0 : 0 ≤ p) (h1 : p < ns.length) : ∃ c, fIx (.d (.scr ns)) (.d (.int p)) = some (.sh (.int c)) := by
  have e : fIx (.d (.scr ns)) (.d (.int p)) = (atI ns p).map fun n => Rv.sh (.int n) := rfl
  rw [e]
  unfold atI ixN
  rw [if_pos h0, if_pos h1]
  have hl : p.toNat < ns.length := by omega
  refine ⟨ns[p.toNat], ?_⟩
  simp [List.getElem?_eq_getElem hl]
/-- an item of a list, by a number within -/
theorem fIx_at {ds : List D} {i : Int} (h0 : 0 ≤ i) (h1 : i < ds.length) : fIx (.ob (.lst ds)) (.d (.int i)) = some (.sh (ds[i.toNat]'(by omega))) := by
  have e : fIx (.ob (.lst ds)) (.d (.int i)) = (atI ds i).map Rv.sh := rfl
  rw [e]
  unfold atI ixN
  rw [if_pos h0, if_pos h1]
  have hl : i.toNat < ds.length := by omega
  simp [List.getElem?_eq_getElem hl]
theorem fIx_atM {α : Type} {enc : α → D} {xs : List α} {i : Int} (h0 : 0 ≤ i) (h1 : i < xs.length) : ∃ x, xs[i.toNat]? = some x ∧ x ∈ xs ∧ fIx (.ob (.lst (xs.map enc))) (.d (.int i)) = some (.sh (enc x)) := by
  have hl : i.toNat < xs.length := by omega
  refine ⟨xs[i.toNat], List.getElem?_eq_getElem hl, List.getElem_mem hl, ?_⟩
  rw [fIx_at h0 (by rw [List.length_map]; exact h1)]
  simp
theorem fIx_2 {a b : D} {i : Int} (h0 : 0 ≤ i) (h1 : i < 2) : ∃ d, fIx (.ob (.lst [a, b])) (.d (.int i)) = some (.sh d) ∧ ((i = 0 ∧ d = a) ∨ (i = 1 ∧ d = b)) := by
  have : i = 0 ∨ i = 1 := by omega
  rcases this with rfl | rfl
  · exact ⟨a, rfl, .inl ⟨rfl, rfl⟩⟩
  · exact ⟨b, rfl, .inr ⟨rfl, rfl⟩⟩
theorem fIx_3 {a b c : D} {i : Int} (h0 : 0 ≤ i) (h1 : i < 3) : ∃ d, fIx (.ob (.lst [a, b, c])) (.d (.int i)) = some (.sh d) ∧ (d = a ∨ d = b ∨ d = c) := by
  have : i = 0 ∨ i = 1 ∨ i = 2 := by omega
  rcases this with rfl | rfl | rfl
  · exact ⟨a, rfl, .inl rfl⟩
  · exact ⟨b, rfl, .inr (.inl rfl)⟩
  · exact ⟨c, rfl, .inr (.inr rfl)⟩
end DL

namespace DL
open PySem L2
/-! ### data of one kind: ==, in -/
structure Pd {α : Type} [DecidableEq α] (enc : α → D) where
  py : α → PyData
  dep : Nat
  hpy : ∀ a, (enc a).py = some (py a)
  lay : ∀ a, (py a).canLay0 = true
  hd : ∀ a, (py a).depth ≤ dep
  eqv : ∀ a b, PyData.eqv (py a) (py b) = decide (a = b)
section
variable {α : Type} [DecidableEq α] {enc : α → D} (P : Pd enc)
include P
theorem Pd.pys : ∀ xs : List α, D.pys (xs.map enc) = some (xs.map P.py)
  | [] => rfl
  | x :: xs => by
    show (D.py (enc x)).bind (fun p => (D.pys (xs.map enc)).map (p :: ·)) = _
    rw [P.hpy, Pd.pys xs]
    rfl
theorem Pd.lays : ∀ xs : List α, PyData.canLayAll0 (xs.map P.py) = true
  | [] => rfl
  | x :: xs => by
    show ((P.py x).canLay0 && PyData.canLayAll0 (xs.map P.py)) = true
    rw [P.lay, Pd.lays xs]
    rfl
theorem Pd.deps : ∀ xs : List α, PyData.depthAll (xs.map P.py) ≤ P.dep
  | [] => Nat.zero_le _
  | x :: xs => by
    show max (PyData.depth (P.py x)) (PyData.depthAll (xs.map P.py)) ≤ P.dep
    have h1 := P.hd x
    have := Pd.deps xs
    omega
theorem Pd.eqvs : ∀ xs ys : List α, PyData.eqvAll (xs.map P.py) (ys.map P.py) = decide (xs = ys)
  | [], [] => rfl
  | [], _ :: _ => rfl
  | _ :: _, [] => rfl
  | r :: rs, q :: qs => by
    show (PyData.eqv (P.py r) (P.py q) && PyData.eqvAll (rs.map P.py) (qs.map P.py)) = _
    rw [P.eqv, Pd.eqvs rs qs]
    by_cases e1 : r = q <;> by_cases e2 : rs = qs <;> simp [e1, e2]
theorem Pd.shaped (h : P.dep ≤ 64) (a : α) : SeqAt.shaped (P.py a) = true := by
  unfold SeqAt.shaped
  rw [Bool.and_eq_true]
  exact ⟨P.lay a, decide_eq_true (Nat.le_trans (P.hd a) h)⟩
theorem Pd.shapedL (h : P.dep + 1 ≤ 64) (xs : List α) : SeqAt.shaped (.list (xs.map P.py)) = true := by
  unfold SeqAt.shaped
  rw [Bool.and_eq_true]
  refine ⟨P.lays xs, decide_eq_true ?_⟩
  show PyData.depthAll (xs.map P.py) + 1 ≤ 64
  have := P.deps xs
  omega
/-- lists of such data -/
def Pd.list : Pd (fun xs : List α => D.lst (xs.map enc)) where
  py xs := .list (xs.map P.py)
  dep := P.dep + 1
  hpy xs := by
    show (D.pys (xs.map enc)).map PyData.list = _
    rw [P.pys]
    rfl
  lay xs := P.lays xs
  hd xs := by
    show PyData.depthAll (xs.map P.py) + 1 ≤ _
    have := P.deps xs
    omega
  eqv xs ys := P.eqvs xs ys
theorem Pd.tups (xs : List α) : (D.tup (xs.map enc)).py = some (.tuple (xs.map P.py)) := by
  show (D.pys (xs.map enc)).map PyData.tuple = _
  rw [P.pys]
  rfl
/-- tuples of such data -/
def Pd.tup : Pd (fun xs : List α => D.tup (xs.map enc)) where
  py xs := .tuple (xs.map P.py)
  dep := P.dep + 1
  hpy xs := P.tups xs
  lay xs := P.lays xs
  hd xs := by
    show PyData.depthAll (xs.map P.py) + 1 ≤ _
    have := P.deps xs
    omega
  eqv xs ys := P.eqvs xs ys
theorem Pd.eqL (h : P.dep + 1 ≤ 64) (xs ys : List α) : fEq (.ob (.lst (xs.map enc))) (.ob (.lst (ys.map enc))) = some (.sh (.bl (decide (xs = ys)))) := by
  show (Option.bind ((D.pys (xs.map enc)).map PyData.list) fun p => Option.bind ((D.pys (ys.map enc)).map PyData.list) fun q => if SeqAt.shaped p = true ∧ SeqAt.shaped q = true then some (Rv.sh (.bl (id (PyData.eqv p q)))) else none) = _
  rw [P.pys, P.pys]
  show (if SeqAt.shaped (.list (xs.map P.py)) = true ∧ SeqAt.shaped (.list (ys.map P.py)) = true then some (Rv.sh (.bl (PyData.eqvAll (xs.map P.py) (ys.map P.py)))) else none) = _
  rw [if_pos ⟨P.shapedL h xs, P.shapedL h ys⟩, P.eqvs]
theorem Pd.neL (h : P.dep + 1 ≤ 64) (xs ys : List α) : fNe (.ob (.lst (xs.map enc))) (.ob (.lst (ys.map enc))) = some (.sh (.bl (!decide (xs = ys)))) := by
  show (Option.bind ((D.pys (xs.map enc)).map PyData.list) fun p => Option.bind ((D.pys (ys.map enc)).map PyData.list) fun q => if SeqAt.shaped p = true ∧ SeqAt.shaped q = true then some (Rv.sh (.bl (not (PyData.eqv p q)))) else none) = _
  rw [P.pys, P.pys]
  show (if SeqAt.shaped (.list (xs.map P.py)) = true ∧ SeqAt.shaped (.list (ys.map P.py)) = true then some (Rv.sh (.bl (!(PyData.eqvAll (xs.map P.py) (ys.map P.py))))) else none) = _
  rw [if_pos ⟨P.shapedL h xs, P.shapedL h ys⟩, P.eqvs]
theorem Pd.neL0 (h : P.dep + 1 ≤ 64) (xs : List α) : fNe (.ob (.lst (xs.map enc))) (.ob (.lst [])) = some (.sh (.bl (!decide (xs = [])))) := P.neL h xs []
theorem Pd.eqL0 (h : P.dep + 1 ≤ 64) (xs : List α) : fEq (.ob (.lst (xs.map enc))) (.ob (.lst [])) = some (.sh (.bl (decide (xs = [])))) := P.eqL h xs []
/-- two of them by their views -/
theorem Pd.eq2 (h : P.dep ≤ 64) {w w' : Vw} {a b : α} (e : w.py = some (P.py a)) (e' : w'.py = some (P.py b)) : fEq w w' = some (.sh (.bl (decide (a = b)))) := by
  unfold fEq fEq2
  rw [e, e']
  show (if SeqAt.shaped (P.py a) = true ∧ SeqAt.shaped (P.py b) = true then some (Rv.sh (.bl (PyData.eqv (P.py a) (P.py b)))) else none) = _
  rw [if_pos ⟨P.shaped h a, P.shaped h b⟩, P.eqv]
theorem Pd.ne2 (h : P.dep ≤ 64) {w w' : Vw} {a b : α} (e : w.py = some (P.py a)) (e' : w'.py = some (P.py b)) : fNe w w' = some (.sh (.bl (!decide (a = b)))) := by
  unfold fNe fEq2
  rw [e, e']
  show (if SeqAt.shaped (P.py a) = true ∧ SeqAt.shaped (P.py b) = true then some (Rv.sh (.bl (!(PyData.eqv (P.py a) (P.py b))))) else none) = _
  rw [if_pos ⟨P.shaped h a, P.shaped h b⟩, P.eqv]
theorem Pd.any (x : α) : ∀ xs : List α, ((xs.map P.py).any fun z => PyData.eqv z (P.py x)) = decide (x ∈ xs)
  | [] => by simp
  | y :: ys => by
    rw [List.map_cons, List.any_cons, P.eqv, Pd.any x ys]
    by_cases e1 : y = x
    · simp [e1]
    · by_cases e2 : x ∈ ys
      · simp [e1, e2]
      · simp [e1, e2, Ne.symm e1]
theorem Pd.inL (h : P.dep + 1 ≤ 64) (g : Bool → Bool) {w : Vw} {x : α} (e : w.py = some (P.py x)) (xs : List α) : fIn g w (.ob (.lst (xs.map enc))) = some (.sh (.bl (g (decide (x ∈ xs))))) := by
  have e0 : fIn g w (.ob (.lst (xs.map enc))) = w.py.bind fun p => (D.pys (xs.map enc)).bind fun ps => if SeqAt.shaped p = true ∧ SeqAt.shaped (.list ps) = true then some (.sh (.bl (g (ps.any fun z => PyData.eqv z p)))) else none := by
    cases w with
    | d _ => rfl
    | ob o => cases o <;> rfl
  rw [e0, e, P.pys]
  show (if SeqAt.shaped (P.py x) = true ∧ SeqAt.shaped (.list (xs.map P.py)) = true then some (Rv.sh (.bl (g ((xs.map P.py).any fun z => PyData.eqv z (P.py x))))) else none) = _
  rw [if_pos ⟨P.shaped (by omega) x, P.shapedL h xs⟩, P.any]
end
def pdInt : Pd D.int where
  py i := .int i
  dep := 0
  hpy _ := rfl
  lay _ := rfl
  hd _ := Nat.le_refl _
  eqv a b := rfl
def pdRow : Pd rowD where
  py := rowP
  dep := 1
  hpy := rowD_py
  lay := rowP_lay
  hd _ := Nat.le_refl _
  eqv := rowP_eqv
/-! names -/
abbrev Name := Int × Int
def nameD (r : Name) : D := .tup [.int r.1, .int r.2]
@[simp] theorem nameD_mk (h n : Int) : nameD (h, n) = .tup [.int h, .int n] := (rfl)
def pdName : Pd nameD where
  py r := .tuple [.int r.1, .int r.2]
  dep := 1
  hpy _ := rfl
  lay _ := rfl
  hd _ := Nat.le_refl _
  eqv r q := by
    obtain ⟨h, a⟩ := r
    obtain ⟨h', a'⟩ := q
    show ((h == h') && ((a == a') && true)) = _
    rw [Bool.and_true]
    by_cases e1 : h = h' <;> by_cases e2 : a = a' <;> simp [e1, e2]
end DL

namespace DL
open PySem L2
/-! ### dicts by typed keys -/
section
variable {κ ν : Type} [DecidableEq κ]
def putA (xs : List (κ × ν)) (k : κ) (v : ν) : List (κ × ν) := if (xs.any fun p => decide (p.1 = k)) = true then xs.map (fun p => if p.1 = k then (p.1, v) else p) else xs ++ [(k, v)]
def getA (xs : List (κ × ν)) (k : κ) : Option ν := (xs.find? fun p => decide (p.1 = k)).map (·.2)
theorem getA_nil (k : κ) : getA ([] : List (κ × ν)) k = none := rfl
theorem getA_cons (p : κ × ν) (xs : List (κ × ν)) (k : κ) : getA (p :: xs) k = if p.1 = k then some p.2 else getA xs k := by
  unfold getA
  rw [List.find?_cons]
  by_cases c : p.1 = k <;> simp [c]
theorem any_key (xs : List (κ × ν)) (k : κ) : (xs.any fun p => decide (p.1 = k)) = decide (k ∈ xs.map (·.1)) := by
  induction xs with
  | nil => simp
  | cons p xs ih =>
    rw [List.any_cons, ih, List.map_cons]
    by_cases c : p.1 = k
    · simp [c]
    · by_cases c2 : k ∈ xs.map (·.1)
      · simp [c, c2]
      · simp [c, c2, Ne.symm c]
theorem putA_keys (xs : List (κ × ν)) (k : κ) (v : ν) : (putA xs k v).map (·.1) = if k ∈ xs.map (·.1) then xs.map (·.1) else xs.map (·.1) ++ [k] := by
  unfold putA
  rw [any_key]
  by_cases c : k ∈ xs.map (·.1)
  · rw [if_pos c, if_pos (decide_eq_true c), List.map_map]
    refine List.map_congr_left fun p _ => ?_
    show (if p.1 = k then (p.1, v) else p).1 = p.1
    split <;> rfl
  · rw [if_neg c, if_neg (by rw [decide_eq_false c]; exact Bool.false_ne_true), List.map_append]
    rfl
theorem putA_len (xs : List (κ × ν)) (k : κ) (v : ν) : (putA xs k v).length ≤ xs.length + 1 := by
  have := congrArg List.length (putA_keys xs k v)
  rw [List.length_map] at this
  rw [this]
  split
  · rw [List.length_map]; omega
  · rw [List.length_append, List.length_map]; exact Nat.le_refl _
theorem putA_nodup {xs : List (κ × ν)} (k : κ) (v : ν) (h : (xs.map (·.1)).Nodup) : ((putA xs k v).map (·.1)).Nodup := by
  rw [putA_keys]
  split
  · exact h
  · next c => exact List.nodup_append.mpr ⟨h, by simp, fun a ha b hb => by
      have : b = k := by simpa using hb
      subst this
      exact fun e => c (e ▸ ha)⟩
theorem putA_mem {xs : List (κ × ν)} {k : κ} {v : ν} {x : κ} : x ∈ (putA xs k v).map (·.1) ↔ x ∈ xs.map (·.1) ∨ x = k := by
  rw [putA_keys]
  split
  · next c => exact ⟨.inl, fun h => h.elim id fun e => e ▸ c⟩
  · rw [List.mem_append, List.mem_singleton]
theorem getA_put (xs : List (κ × ν)) (k : κ) (v : ν) (x : κ) : getA (putA xs k v) x = if x = k then some v else getA xs x := by
  unfold putA
  by_cases c : (xs.any fun p => decide (p.1 = k)) = true
  · rw [if_pos c]
    induction xs with
    | nil => simp at c
    | cons p xs ih =>
      rw [List.map_cons, getA_cons, getA_cons]
      by_cases cp : p.1 = k
      · rw [if_pos cp]
        by_cases cx : x = k
        · rw [if_pos (show p.1 = x by rw [cp, cx]), if_pos cx]
        · rw [if_neg (show ¬ p.1 = x from fun z => cx (by rw [← z, cp])), if_neg cx, if_neg (show ¬ p.1 = x from fun z => cx (by rw [← z, cp]))]
          by_cases c2 : (xs.any fun p => decide (p.1 = k)) = true
          · have := ih c2
            rw [if_neg cx] at this
            exact this
          · have e : xs.map (fun p => if p.1 = k then (p.1, v) else p) = xs := by
              rw [List.map_congr_left (g := id), List.map_id]
              intro q hq
              rw [if_neg]
              · rfl
              · intro z
                exact c2 (List.any_eq_true.mpr ⟨q, hq, decide_eq_true z⟩)
            rw [e]
      · rw [if_neg cp]
        have c2 : (xs.any fun p => decide (p.1 = k)) = true := by
          rw [List.any_cons, Bool.or_eq_true] at c
          rcases c with c | c
          · exact absurd (of_decide_eq_true c) cp
          · exact c
        rw [ih c2]
        by_cases cx : x = k
        · rw [if_pos cx, if_neg (show ¬ p.1 = x from fun z => cp (by rw [z, cx])), if_pos cx]
        · rw [if_neg cx, if_neg cx]
  · rw [if_neg c]
    induction xs with
    | nil =>
      rw [List.nil_append, getA_cons, getA_nil]
      by_cases cx : x = k
      · rw [if_pos cx, if_pos cx.symm]
      · rw [if_neg cx, if_neg (fun z => cx z.symm)]
    | cons p xs ih =>
      rw [List.any_cons, Bool.or_eq_true, not_or] at c
      rw [List.cons_append, getA_cons, getA_cons, ih c.2]
      by_cases cp : p.1 = x
      · rw [if_pos cp, if_pos cp, if_neg]
        intro z
        exact c.1 (decide_eq_true (cp.trans z))
      · rw [if_neg cp, if_neg cp]
theorem getA_mem {xs : List (κ × ν)} {k : κ} {v : ν} (h : getA xs k = some v) : (k, v) ∈ xs := by
  induction xs with
  | nil => cases h
  | cons p xs ih =>
    rw [getA_cons] at h
    split at h
    · next c =>
      cases h
      rw [← c]
      exact List.mem_cons_self
    · exact List.mem_cons_of_mem _ (ih h)
theorem getA_none {xs : List (κ × ν)} {k : κ} : getA xs k = none ↔ k ∉ xs.map (·.1) := by
  induction xs with
  | nil => simp [getA_nil]
  | cons p xs ih =>
    rw [getA_cons, List.map_cons, List.mem_cons, not_or]
    by_cases c : p.1 = k
    · rw [if_pos c]
      simp [c]
    · rw [if_neg c, ih]
      exact ⟨fun h => ⟨fun z => c z.symm, h⟩, fun h => h.2⟩
theorem getA_of_mem {xs : List (κ × ν)} (hn : (xs.map (·.1)).Nodup) {k : κ} {v : ν} (h : (k, v) ∈ xs) : getA xs k = some v := by
  induction xs with
  | nil => simp at h
  | cons p xs ih =>
    rw [List.map_cons, List.nodup_cons] at hn
    rw [getA_cons]
    rcases List.mem_cons.mp h with e | e
    · rw [← e, if_pos rfl]
    · rw [if_neg, ih hn.2 e]
      intro z
      exact hn.1 (z ▸ List.mem_map.mpr ⟨_, e, rfl⟩)
theorem isSome_getA {xs : List (κ × ν)} {k : κ} : (getA xs k).isSome = decide (k ∈ xs.map (·.1)) := by
  cases c : getA xs k with
  | none => rw [decide_eq_false (getA_none.mp c)]; rfl
  | some v => rw [decide_eq_true (List.mem_map.mpr ⟨_, getA_mem c, rfl⟩)]; rfl
/-! the dict of a typed one -/
variable {τ : Type} [DecidableEq τ] (key : κ → τ) (val : ν → D)
def dctD (xs : List (κ × ν)) : List (τ × D) := xs.map fun p => (key p.1, val p.2)
variable {key} {val}
theorem dctD_put (hi : ∀ a b, key a = key b → a = b) (xs : List (κ × ν)) (k : κ) (v : ν) : putD (dctD key val xs) (key k) (val v) = dctD key val (putA xs k v) := by
  have e : ((dctD key val xs).any fun kv => decide (kv.1 = key k)) = xs.any fun p => decide (p.1 = k) := by
    unfold dctD
    rw [List.any_map]
    congr 1
    funext p
    show decide (key p.1 = key k) = decide (p.1 = k)
    by_cases c : p.1 = k
    · simp [c]
    · rw [decide_eq_false c, decide_eq_false (fun z => c (hi _ _ z))]
  unfold putD putA
  rw [e]
  split
  · unfold dctD
    rw [List.map_map, List.map_map]
    refine List.map_congr_left fun p _ => ?_
    show (if key p.1 = key k then (key p.1, val v) else (key p.1, val p.2)) = (fun p : κ × ν => (key p.1, val p.2)) (if p.1 = k then (p.1, v) else p)
    by_cases c : p.1 = k
    · rw [if_pos c, if_pos (by rw [c])]
    · rw [if_neg c, if_neg (fun z => c (hi _ _ z))]
  · unfold dctD
    rw [List.map_append]
    rfl
theorem dctD_get (hi : ∀ a b, key a = key b → a = b) (xs : List (κ × ν)) (k : κ) : getK (dctD key val xs) (key k) = (getA xs k).map val := by
  induction xs with
  | nil => rfl
  | cons p xs ih =>
    have e : getK (dctD key val (p :: xs)) (key k) = if key p.1 = key k then some (val p.2) else getK (dctD key val xs) (key k) := by
      unfold getK dctD
      rw [List.map_cons, List.find?_cons]
      by_cases c : key p.1 = key k <;> simp [c]
    rw [e, getA_cons, ih]
    by_cases c : p.1 = k
    · rw [if_pos c, if_pos (by rw [c])]
      rfl
    · rw [if_neg c, if_neg (fun z => c (hi _ _ z))]
theorem dctD_keys (xs : List (κ × ν)) : (dctD key val xs).map (·.1) = (xs.map (·.1)).map key := by
  unfold dctD
  rw [List.map_map, List.map_map]
  rfl
@[simp] theorem dctD_len (xs : List (κ × ν)) : (dctD key val xs).length = xs.length := List.length_map _
end
/-! keys that are names -/
def nkey (x : Name) : List Key := [.inl x.1, .inl x.2]
theorem nkey_inj (a b : Name) (h : nkey a = nkey b) : a = b := by
  obtain ⟨p, q⟩ := a
  obtain ⟨r, s⟩ := b
  unfold nkey at h
  simp at h
  rw [h.1, h.2]
def nl (x : Name) : List Int := [x.1, x.2]
theorem nkeys_ints : ∀ xs : List Name, keyIntss (xs.map nkey) = some (xs.map nl)
  | [] => rfl
  | x :: xs => by
    show ((keyInts (nkey x)).bind fun ns => if ns = [] then none else (keyIntss (xs.map nkey)).map (ns :: ·)) = _
    rw [nkeys_ints xs]
    rfl
def nameLt (a b : Name) : Bool := HT.lexLt (nl a) (nl b)
def insN (x : Name) : List Name → List Name
  | [] => [x]
  | y :: ys => if nameLt y x = true then y :: insN x ys else x :: y :: ys
def sortN : List Name → List Name
  | [] => []
  | x :: xs => insN x (sortN xs)
theorem insN_L (x : Name) : ∀ l : List Name, (insN x l).map nl = insL (nl x) (l.map nl)
  | [] => rfl
  | y :: ys => by
    unfold insN
    rw [List.map_cons, insL]
    show List.map nl (if HT.lexLt (nl y) (nl x) = true then y :: insN x ys else x :: y :: ys) = _
    split
    · rw [List.map_cons, insN_L x ys]
    · rfl
theorem sortN_L : ∀ l : List Name, (sortN l).map nl = sortL (l.map nl)
  | [] => rfl
  | x :: xs => by
    show (insN x (sortN xs)).map nl = insL (nl x) (sortL (xs.map nl))
    rw [insN_L, sortN_L xs]
theorem insN_perm (x : Name) : ∀ l : List Name, (insN x l).Perm (x :: l)
  | [] => List.Perm.refl _
  | y :: ys => by
    unfold insN
    split
    · exact ((insN_perm x ys).cons y).trans (List.Perm.swap x y ys)
    · exact List.Perm.refl _
theorem sortN_perm : ∀ l : List Name, (sortN l).Perm l
  | [] => List.Perm.refl _
  | x :: xs => (insN_perm x _).trans ((sortN_perm xs).cons x)
theorem nameLt_iff {a b : Name} : nameLt a b = true ↔ a.1 < b.1 ∨ (a.1 = b.1 ∧ a.2 < b.2) := by
  obtain ⟨p, q⟩ := a
  obtain ⟨r, s⟩ := b
  have e : nameLt (p, q) (r, s) = (if p = r then (if q = s then false else decide (q < s)) else decide (p < r)) := rfl
  rw [e]
  show _ ↔ p < r ∨ (p = r ∧ q < s)
  split
  · split
    · simp; omega
    · rw [decide_eq_true_eq]; omega
  · rw [decide_eq_true_eq]; omega
theorem insN_sorted {x : Name} : ∀ {l : List Name}, l.Pairwise (fun a b => nameLt b a = false) → (insN x l).Pairwise (fun a b => nameLt b a = false)
  | [], _ => List.pairwise_singleton _ _
  | y :: ys, h => by
    obtain ⟨h1, h2⟩ := List.pairwise_cons.mp h
    have fi : ∀ {a b : Name}, nameLt a b = false ↔ ¬ (a.1 < b.1 ∨ (a.1 = b.1 ∧ a.2 < b.2)) := fun {a b} => by rw [← nameLt_iff]; simp
    unfold insN
    split
    · next c =>
      refine List.pairwise_cons.mpr ⟨fun q hq => ?_, insN_sorted h2⟩
      rcases List.mem_cons.mp ((insN_perm x ys).mem_iff.mp hq) with e | e
      · rw [e]
        have := nameLt_iff.mp c
        exact fi.mpr (by omega)
      · exact h1 q e
    · next c =>
      refine List.pairwise_cons.mpr ⟨fun q hq => ?_, h⟩
      have c := mt nameLt_iff.mpr c
      rcases List.mem_cons.mp hq with e | e
      · rw [e]
        exact fi.mpr c
      · have := fi.mp (h1 q e)
        exact fi.mpr (by omega)
theorem sortN_sorted : ∀ l : List Name, (sortN l).Pairwise (fun a b => nameLt b a = false)
  | [] => List.Pairwise.nil
  | _ :: xs => insN_sorted (sortN_sorted xs)
theorem sortN_asc {l : List Name} (h : l.Nodup) : (sortN l).Pairwise fun a b => a.1 < b.1 ∨ (a.1 = b.1 ∧ a.2 < b.2) := by
  have hn : (sortN l).Nodup := (sortN_perm l).nodup_iff.mpr h
  refine ((sortN_sorted l).and hn).imp fun {a b} ⟨h1, h2⟩ => ?_
  have h1 : ¬ (b.1 < a.1 ∨ (b.1 = a.1 ∧ b.2 < a.2)) := by rw [← nameLt_iff]; simp [h1]
  have : ¬ (a.1 = b.1 ∧ a.2 = b.2) := fun ⟨z1, z2⟩ => h2 (Prod.ext z1 z2)
  omega
theorem fSrt_names {ν : Type} {val : ν → D} (xs : List (Name × ν)) : fSrt [.ob (.dT (dctD nkey val xs))] = some (.own (.lst ((sortN (xs.map (·.1))).map nameD))) := by
  show (keyIntss ((dctD nkey val xs).map (·.1))).map (fun nss => Rv.own (.lst ((sortL nss).map intsD))) = _
  rw [dctD_keys, nkeys_ints, Option.map_some, ← sortN_L, List.map_map]
  rfl
theorem names_intss : ∀ rs : List Name, D.intss (rs.map nameD) = some (rs.map nl)
  | [] => rfl
  | r :: rs => by
    show ((D.ints [.int r.1, .int r.2]).bind fun ns => if ns = [] then none else (D.intss (rs.map nameD)).map (ns :: ·)) = _
    rw [names_intss rs]
    rfl
theorem fSrt_namesL (rs : List Name) : fSrt [.ob (.lst (rs.map nameD))] = some (.own (.lst ((sortN rs).map nameD))) := by
  cases rs with
  | nil => rfl
  | cons r rs =>
    show (match D.ints ((r :: rs).map nameD) with | some ns => some (Rv.own (.lst ((sortI ns).map .int))) | none => (D.intss ((r :: rs).map nameD)).map fun nss => .own (.lst ((sortL nss).map intsD))) = _
    have e : D.ints ((r :: rs).map nameD) = none := rfl
    rw [e, names_intss]
    show some (Rv.own (.lst ((sortL ((r :: rs).map nl)).map intsD))) = _
    rw [← sortN_L, List.map_map]
    rfl
theorem fSet_names {ν : Type} {val : ν → D} {xs : List (Name × ν)} {h n : Int} {v : ν} (hl : xs.length < 16777216) : fSet (.dT (dctD nkey val xs)) (.tup [.int h, .int n]) (val v) = some (.dT (dctD nkey val (putA xs (h, n) v))) := by
  show ((D.keys [.int h, .int n]).bind fun k => if (dctD nkey val xs).length < 16777216 then some (Ob.dT (putD (dctD nkey val xs) k (val v))) else none) = _
  rw [dctD_len]
  show (if xs.length < 16777216 then some (Ob.dT (putD (dctD nkey val xs) (nkey (h, n)) (val v))) else none) = _
  rw [if_pos hl, dctD_put nkey_inj]
theorem fGet_names {ν : Type} {val : ν → D} {xs : List (Name × ν)} {h n : Int} : fGet (.ob (.dT (dctD nkey val xs))) (.d (.tup [.int h, .int n])) = some ((getA xs (h, n)).map val) := by
  show (D.keys [.int h, .int n]).map (fun k => getK (dctD nkey val xs) k) = _
  show some (getK (dctD nkey val xs) (nkey (h, n))) = _
  rw [dctD_get nkey_inj]
end DL

namespace DL
open PySem L2
/-! ### data that reads as pure data, the things of the store looked up -/
abbrev SOk (s : Str) : Prop := SeqAt.shaped (.str s) = true
mutual
inductive Rs (μ : Store) : Nat → D → D → Prop
  | non {n} : Rs μ (n + 1) .non .non
  | bl {n} (b : Bool) : Rs μ (n + 1) (.bl b) (.bl b)
  | int {n} (i : Int) : Rs μ (n + 1) (.int i) (.int i)
  | str {n} (s : Str) : SOk s → Rs μ (n + 1) (.str s) (.str s)
  | tup {n xs ys} : xs.length ≤ 16777216 → RsAll μ n xs ys → Rs μ (n + 1) (.tup xs) (.tup ys)
  | lst {n xs ys} : xs.length ≤ 16777216 → RsAll μ n xs ys → Rs μ (n + 1) (.lst xs) (.lst ys)
  | loc {n k xs ys} : μ[k]? = some (.lst xs) → xs.length ≤ 16777216 → RsAll μ n xs ys → Rs μ (n + 1) (.loc k) (.lst ys)
inductive RsAll (μ : Store) : Nat → List D → List D → Prop
  | nil {n} : RsAll μ n [] []
  | cons {n x xs y ys} : Rs μ n x y → RsAll μ n xs ys → RsAll μ n (x :: xs) (y :: ys)
end
theorem RsAll.len {μ : Store} {n : Nat} : ∀ {xs ys : List D}, RsAll μ n xs ys → xs.length = ys.length
  | _, _, .nil => rfl
  | _, _, .cons _ t => by rw [List.length_cons, List.length_cons, RsAll.len t]
theorem RsAll.get {μ : Store} {n : Nat} : ∀ {xs ys : List D} {i : Nat} {x : D}, RsAll μ n xs ys → xs[i]? = some x → ∃ y, ys[i]? = some y ∧ Rs μ n x y
  | _, _, i, x, .nil, e => by simp at e
  | _, _, 0, x, .cons h t, e => by
    simp at e
    subst e
    exact ⟨_, rfl, h⟩
  | _, _, i + 1, x, .cons h t, e => by
    simp only [List.getElem?_cons_succ] at e ⊢
    exact RsAll.get t e
theorem RsAll.map {μ : Store} {n : Nat} {α : Type} {f g : α → D} : ∀ {xs : List α}, (∀ x ∈ xs, Rs μ n (f x) (g x)) → RsAll μ n (xs.map f) (xs.map g)
  | [], _ => .nil
  | x :: xs, h => .cons (h x List.mem_cons_self) (RsAll.map fun y hy => h y (List.mem_cons_of_mem _ hy))
theorem RsAll.app {μ : Store} {n : Nat} : ∀ {xs ys xs' ys' : List D}, RsAll μ n xs ys → RsAll μ n xs' ys' → RsAll μ n (xs ++ xs') (ys ++ ys')
  | _, _, _, _, .nil, h => h
  | _, _, _, _, .cons a t, h => .cons a (RsAll.app t h)
/-! more things in the store -/
mutual
theorem Rs.ext {μ μ' : Store} (hx : ∀ (k : Nat) (o : Ob), μ[k]? = some o → μ'[k]? = some o) : ∀ {n : Nat} {x y : D}, Rs μ n x y → Rs μ' n x y
  | _, _, _, .non => .non
  | _, _, _, .bl b => .bl b
  | _, _, _, .int b => .int b
  | _, _, _, .str b h => .str b h
  | _, _, _, .tup h t => .tup h (RsAll.ext hx t)
  | _, _, _, .lst h t => .lst h (RsAll.ext hx t)
  | _, _, _, .loc e h t => .loc (hx _ _ e) h (RsAll.ext hx t)
theorem RsAll.ext {μ μ' : Store} (hx : ∀ (k : Nat) (o : Ob), μ[k]? = some o → μ'[k]? = some o) : ∀ {n : Nat} {x y : List D}, RsAll μ n x y → RsAll μ' n x y
  | _, _, _, .nil => .nil
  | _, _, _, .cons h t => .cons (Rs.ext hx h) (RsAll.ext hx t)
end
/-- ints, names, rows -/
theorem rs_name {μ : Store} {n : Nat} (x : Name) : Rs μ (n + 2) (nameD x) (nameD x) := .tup (by simp) (.cons (.int _) (.cons (.int _) .nil))
theorem rs_row {μ : Store} {n : Nat} (x : Row) : Rs μ (n + 2) (rowD x) (rowD x) := .tup (by simp) (.cons (.int _) (.cons (.int _) (.cons (.int _) .nil)))
theorem rs_list {μ : Store} {n : Nat} {α : Type} {f : α → D} {xs : List α} (hl : xs.length ≤ 16777216) (h : ∀ x ∈ xs, Rs μ n (f x) (f x)) : Rs μ (n + 1) (.lst (xs.map f)) (.lst (xs.map f)) := .lst (by rw [List.length_map]; exact hl) (RsAll.map h)
theorem rs_loc {μ : Store} {n k : Nat} {α : Type} {f : α → D} {xs : List α} (e : μ[k]? = some (.lst (xs.map f))) (hl : xs.length ≤ 16777216) (h : ∀ x ∈ xs, Rs μ n (f x) (f x)) : Rs μ (n + 1) (.loc k) (.lst (xs.map f)) := .loc e (by rw [List.length_map]; exact hl) (RsAll.map h)
/-- what isinstance says -/
theorem fIsi_bl (T : String) (b : Bool) : fIsi T (.d (.bl b)) = some (.sh (.bl (isiB "bool" T))) := (rfl)
theorem fIsi_int (T : String) (b : Int) : fIsi T (.d (.int b)) = some (.sh (.bl (isiB "int" T))) := (rfl)
theorem fIsi_str (T : String) (b : Str) : fIsi T (.d (.str b)) = some (.sh (.bl (isiB "str" T))) := (rfl)
theorem fIsi_non (T : String) : fIsi T (.d .non) = some (.sh (.bl (isiB "NoneType" T))) := (rfl)
theorem fIsi_tup (T : String) (b : List D) : fIsi T (.d (.tup b)) = some (.sh (.bl (isiB "tuple" T))) := (rfl)
theorem fIsi_lst (T : String) (b : List D) : fIsi T (.ob (.lst b)) = some (.sh (.bl (isiB "list" T))) := (rfl)
theorem isiB_all : isiB "bool" "bool" = true ∧ isiB "int" "bool" = false ∧ isiB "str" "bool" = false ∧ isiB "NoneType" "bool" = false ∧ isiB "tuple" "bool" = false ∧ isiB "list" "bool" = false ∧
    isiB "str" "str" = true ∧ isiB "int" "str" = false ∧ isiB "NoneType" "str" = false ∧ isiB "tuple" "str" = false ∧ isiB "list" "str" = false ∧
    isiB "int" "int" = true ∧ isiB "NoneType" "int" = false ∧ isiB "tuple" "int" = false ∧ isiB "list" "int" = false ∧ isiB "tuple" "tuple" = true ∧ isiB "list" "tuple" = false ∧ isiB "tuple" "list" = false ∧ isiB "list" "list" = true ∧ isiB "bool" "list" = false ∧ isiB "int" "list" = false ∧ isiB "str" "list" = false ∧ isiB "NoneType" "list" = false := by decide
theorem fEq_bl (a b : Bool) : fEq (.d (.bl a)) (.d (.bl b)) = some (.sh (.bl (decide (a = b)))) := by cases a <;> cases b <;> rfl
theorem fNe_bl (a b : Bool) : fNe (.d (.bl a)) (.d (.bl b)) = some (.sh (.bl (!decide (a = b)))) := by cases a <;> cases b <;> rfl
theorem str_beq (a b : Str) : (a == b) = decide (a = b) := by
  by_cases e : a = b
  · rw [decide_eq_true e]; exact beq_iff_eq.mpr e
  · rw [decide_eq_false e]; exact beq_eq_false_iff_ne.mpr e
theorem fEq_str {a b : Str} (ha : SOk a) (hb : SOk b) : fEq (.d (.str a)) (.d (.str b)) = some (.sh (.bl (decide (a = b)))) := by
  show (if SeqAt.shaped (.str a) = true ∧ SeqAt.shaped (.str b) = true then some (Rv.sh (.bl (a == b))) else none) = _
  rw [if_pos ⟨ha, hb⟩, str_beq]
theorem fNe_str {a b : Str} (ha : SOk a) (hb : SOk b) : fNe (.d (.str a)) (.d (.str b)) = some (.sh (.bl (!decide (a = b)))) := by
  show (if SeqAt.shaped (.str a) = true ∧ SeqAt.shaped (.str b) = true then some (Rv.sh (.bl (!(a == b)))) else none) = _
  rw [if_pos ⟨ha, hb⟩, str_beq]
theorem fIx_tupAt {xs : List D} {i : Nat} {d : D} (e : xs[i]? = some d) : fIx (.d (.tup xs)) (.d (.int (i : Int))) = some (.sh d) := by
  have hi : i < xs.length := (List.getElem?_eq_some_iff.mp e).1
  show (atI xs (i : Int)).map Rv.sh = _
  unfold atI ixN
  rw [if_pos (by omega), if_pos (by omega)]
  simp [e]
theorem fIx_lstAt {xs : List D} {i : Nat} {d : D} (e : xs[i]? = some d) : fIx (.ob (.lst xs)) (.d (.int (i : Int))) = some (.sh d) := by
  have hi : i < xs.length := (List.getElem?_eq_some_iff.mp e).1
  show (atI xs (i : Int)).map Rv.sh = _
  unfold atI ixN
  rw [if_pos (by omega), if_pos (by omega)]
  simp [e]
end DL

namespace DL
open PySem L2
@[simp] theorem x_vwName {x : Name} {μ : Store} : (nameD x).vw μ = some (.d (nameD x)) := (rfl)
@[simp] theorem x_vwRow {x : Row} {μ : Store} : (rowD x).vw μ = some (.d (rowD x)) := (rfl)
/-! ### slices -/
theorem cutD_take (ds : List D) {v : Int} (h : 0 ≤ v) : cutD ds none (some v) = ds.take v.toNat := by
  unfold cutD
  have e0 : HT.sIx ds.length 0 none = 0 := rfl
  have e1 : HT.sIx ds.length ds.length (some v) = min v.toNat ds.length := by
    unfold HT.sIx
    simp only
    split <;> omega
  rw [e0, e1, List.drop_zero, Nat.sub_zero]
  rcases Nat.le_total v.toNat ds.length with c | c
  · rw [Nat.min_eq_left c]
  · rw [Nat.min_eq_right c, List.take_length, List.take_of_length_le c]
theorem cutD_drop (ds : List D) {v : Int} (h : 0 ≤ v) : cutD ds (some v) none = ds.drop v.toNat := by
  unfold cutD
  have e0 : HT.sIx ds.length ds.length none = ds.length := rfl
  have e1 : HT.sIx ds.length 0 (some v) = min v.toNat ds.length := by
    unfold HT.sIx
    simp only
    split <;> omega
  rw [e0, e1]
  rcases Nat.le_total v.toNat ds.length with c | c
  · rw [Nat.min_eq_left c, List.take_of_length_le (by rw [List.length_drop]; omega)]
  · rw [Nat.min_eq_right c, List.drop_of_length_le (Nat.le_refl _), List.drop_of_length_le c, List.take_nil]
theorem enumD_map {α : Type} (f : α → D) (xs : List α) : enumD (xs.map f) = xs.zipIdx.map fun p => .tup [.int (p.2 : Nat), f p.1] := by
  unfold enumD
  rw [List.zipIdx_map, List.map_map]
  rfl
end DL

namespace DL
open PySem L2
/-! ### deeds as data -/
inductive Wd
  | put | add | back | sealed | bye
  deriving DecidableEq
def wdS : Wd → Str
  | .put => "put"
  | .add => "add"
  | .back => "back"
  | .sealed => "seal"
  | .bye => "bye"
inductive What
  | put (k w : Int)
  | add (k w : Int)
  | back (h n : Int)
  | sealed (rs : List Row)
  | bye
  deriving DecidableEq
def What.kind : What → Wd
  | .put _ _ => .put
  | .add _ _ => .add
  | .back _ _ => .back
  | .sealed _ => .sealed
  | .bye => .bye
def whatD : What → D
  | .put k w => .tup [.str "put", .int k, .int w]
  | .add k w => .tup [.str "add", .int k, .int w]
  | .back h n => .tup [.str "back", .int h, .int n]
  | .sealed rs => .tup [.str "seal", .tup (rs.map rowD)]
  | .bye => .tup [.str "bye"]
structure Deed where
  h : Int
  n : Int
  t : Int
  w : What
  deriving DecidableEq
instance : Inhabited Deed := ⟨⟨0, 0, 0, .bye⟩⟩
def Deed.nm (d : Deed) : Name := (d.h, d.n)
def Deed.st (d : Deed) : Row := (d.t, d.h, d.n)
def deedD (d : Deed) : D := .tup [.int d.h, .int d.n, .int d.t, whatD d.w]
theorem sok_wd (a : Wd) : SOk (wdS a) := by cases a <;> decide +kernel
theorem wdS_inj : ∀ a b : Wd, wdS a = wdS b → a = b := by
  intro a b
  cases a <;> cases b <;> first | exact fun _ => rfl | exact fun h => absurd h (by decide +kernel)
theorem fEq_wd (a b : Wd) : fEq (.d (.str (wdS a))) (.d (.str (wdS b))) = some (.sh (.bl (decide (a = b)))) := by
  rw [fEq_str (sok_wd a) (sok_wd b)]
  by_cases c : a = b
  · rw [c, decide_eq_true rfl, decide_eq_true rfl]
  · rw [decide_eq_false c, decide_eq_false (fun z => c (wdS_inj _ _ z))]
theorem eqF_wd (a b : Wd) : eqF (.str (wdS a)) (.str (wdS b)) = decide (a = b) := by
  show (wdS a == wdS b) = _
  rw [str_beq]
  by_cases c : a = b
  · rw [c, decide_eq_true rfl, decide_eq_true rfl]
  · rw [decide_eq_false c, decide_eq_false (fun z => c (wdS_inj _ _ z))]
theorem fIn_wd (g : Bool → Bool) (a : Wd) (bs : List Wd) : fIn g (.d (.str (wdS a))) (.d (.tup (bs.map fun b => .str (wdS b)))) = some (.sh (.bl (g (decide (a ∈ bs))))) := by
  show (if flatD (.str (wdS a)) = true ∧ (bs.map fun b => D.str (wdS b)).all flatD = true then some (Rv.sh (.bl (g ((bs.map fun b => D.str (wdS b)).any fun y => eqF y (.str (wdS a)))))) else none) = _
  have h1 : (bs.map fun b => D.str (wdS b)).all flatD = true := by
    rw [List.all_map, List.all_eq_true]
    intro b _
    rfl
  have h2 : ((bs.map fun b => D.str (wdS b)).any fun y => eqF y (.str (wdS a))) = decide (a ∈ bs) := by
    rw [List.any_map]
    induction bs with
    | nil => simp
    | cons b bs ih =>
      rw [List.any_cons, ih (by rw [List.all_map, List.all_eq_true]; intro b _; rfl)]
      show (eqF (.str (wdS b)) (.str (wdS a)) || _) = _
      rw [eqF_wd]
      by_cases c : b = a
      · simp [c]
      · by_cases c2 : a ∈ bs
        · simp [c2]
        · simp [c, c2, Ne.symm c]
  rw [if_pos ⟨rfl, h1⟩, h2]
section
variable {d : Deed} {w : What} {μ : Store} {g : Bool → Bool} {a : Wd}
@[simp] theorem x_vwDeed : (deedD d).vw μ = some (.d (deedD d)) := (rfl)
@[simp] theorem x_vwWhat : (whatD w).vw μ = some (.d (whatD w)) := by cases w <;> rfl
@[simp] theorem fIx_deed0 : fIx (.d (deedD d)) (.d (.int 0)) = some (.sh (.int d.h)) := (rfl)
@[simp] theorem fIx_deed1 : fIx (.d (deedD d)) (.d (.int 1)) = some (.sh (.int d.n)) := (rfl)
@[simp] theorem fIx_deed2 : fIx (.d (deedD d)) (.d (.int 2)) = some (.sh (.int d.t)) := (rfl)
@[simp] theorem fIx_deed3 : fIx (.d (deedD d)) (.d (.int 3)) = some (.sh (whatD d.w)) := (rfl)
@[simp] theorem fIx_what0 : fIx (.d (whatD w)) (.d (.int 0)) = some (.sh (.str (wdS w.kind))) := by cases w <;> rfl
@[simp] theorem fLenB_deed : fLenB [.d (deedD d)] = some (.sh (.int 4)) := (rfl)
@[simp] theorem gT_deed {i1 i2 i3 i4 : Nat} {ρ : Ev} : gT [i1, i2, i3, i4] (deedD d) ρ = some ((((ρ.set i1 (.sh (.int d.h))).set i2 (.sh (.int d.n))).set i3 (.sh (.int d.t))).set i4 (.sh (whatD d.w))) := (rfl)
@[simp] theorem fCut_deed2 : fCut (.d (deedD d)) none (some 2) = some (.sh (nameD d.nm)) := (rfl)
@[simp] theorem fEq_put : fEq (.d (.str (wdS a))) (.d (.str "put")) = some (.sh (.bl (decide (a = .put)))) := fEq_wd a .put
@[simp] theorem fEq_add : fEq (.d (.str (wdS a))) (.d (.str "add")) = some (.sh (.bl (decide (a = .add)))) := fEq_wd a .add
@[simp] theorem fEq_back : fEq (.d (.str (wdS a))) (.d (.str "back")) = some (.sh (.bl (decide (a = .back)))) := fEq_wd a .back
@[simp] theorem fEq_seal : fEq (.d (.str (wdS a))) (.d (.str "seal")) = some (.sh (.bl (decide (a = .sealed)))) := fEq_wd a .sealed
@[simp] theorem fEq_bye : fEq (.d (.str (wdS a))) (.d (.str "bye")) = some (.sh (.bl (decide (a = .bye)))) := fEq_wd a .bye
@[simp] theorem fIn_sb : fIn g (.d (.str (wdS a))) (.d (.tup [.str "seal", .str "bye"])) = some (.sh (.bl (g (decide (a = .sealed ∨ a = .bye))))) := by
  have h := fIn_wd g a [.sealed, .bye]
  have e : decide (a ∈ ([.sealed, .bye] : List Wd)) = decide (a = .sealed ∨ a = .bye) := by simp
  rw [e] at h
  exact h
@[simp] theorem fIn_pa : fIn g (.d (.str (wdS a))) (.d (.tup [.str "put", .str "add"])) = some (.sh (.bl (g (decide (a = .put ∨ a = .add))))) := by
  have h := fIn_wd g a [.put, .add]
  have e : decide (a ∈ ([.put, .add] : List Wd)) = decide (a = .put ∨ a = .add) := by simp
  rw [e] at h
  exact h
@[simp] theorem fIn_pab : fIn g (.d (.str (wdS a))) (.d (.tup [.str "put", .str "add", .str "back"])) = some (.sh (.bl (g (decide (a = .put ∨ a = .add ∨ a = .back))))) := by
  have h := fIn_wd g a [.put, .add, .back]
  have e : decide (a ∈ ([.put, .add, .back] : List Wd)) = decide (a = .put ∨ a = .add ∨ a = .back) := by simp
  rw [e] at h
  exact h
end
theorem kind_back {w : What} : w.kind = .back ↔ ∃ h n, w = .back h n := by cases w <;> simp [What.kind]
theorem kind_seal {w : What} : w.kind = .sealed ↔ ∃ rs, w = .sealed rs := by cases w <;> simp [What.kind]
/-! stamps: order -/
def slt (a b : Row) : Prop := a.1 < b.1 ∨ (a.1 = b.1 ∧ (a.2.1 < b.2.1 ∨ (a.2.1 = b.2.1 ∧ a.2.2 < b.2.2)))
instance (a b : Row) : Decidable (slt a b) := by unfold slt; exact inferInstance
theorem slt_irr {a : Row} : ¬ slt a a := by unfold slt; omega
theorem slt_trans {a b c : Row} (h : slt a b) (k : slt b c) : slt a c := by unfold slt at *; omega
theorem slt_tri {a b : Row} (h : ¬ slt a b) (k : ¬ slt b a) : a = b := by
  unfold slt at *
  obtain ⟨p, q, r⟩ := a
  obtain ⟨p', q', r'⟩ := b
  simp only at h k
  have : p = p' ∧ q = q' ∧ r = r' := by omega
  rw [this.1, this.2.1, this.2.2]
theorem rowLt_slt {a b : Row} : rowLt a b = decide (slt a b) := by
  obtain ⟨p, q, r⟩ := a
  obtain ⟨p', q', r'⟩ := b
  have e : rowLt (p, q, r) (p', q', r') = (if p = p' then (if q = q' then (if r = r' then false else decide (r < r')) else decide (q < q')) else decide (p < p')) := rfl
  rw [e]
  by_cases c : slt (p, q, r) (p', q', r')
  · rw [decide_eq_true c]
    unfold slt at c
    simp only at c
    split
    · split
      · split
        · omega
        · exact decide_eq_true (by omega)
      · exact decide_eq_true (by omega)
    · exact decide_eq_true (by omega)
  · rw [decide_eq_false c]
    unfold slt at c
    simp only at c
    split
    · split
      · split
        · rfl
        · exact decide_eq_false (by omega)
      · exact decide_eq_false (by omega)
    · exact decide_eq_false (by omega)
@[simp] theorem fLt_row (a b : Row) : fLt (.d (rowD a)) (.d (rowD b)) = some (.sh (.bl (decide (slt a b)))) := by
  rw [← rowLt_slt]
  rfl
@[simp] theorem fGe_row (a b : Row) : fGe (.d (rowD a)) (.d (rowD b)) = some (.sh (.bl (decide (¬ slt a b)))) := by
  have e : fGe (.d (rowD a)) (.d (rowD b)) = some (.sh (.bl (if a.1 = b.1 then (if a.2.1 = b.2.1 then (if a.2.2 = b.2.2 then true else decide (b.2.2 ≤ a.2.2)) else decide (b.2.1 ≤ a.2.1)) else decide (b.1 ≤ a.1)))) := rfl
  rw [e]
  congr 3
  by_cases c : slt a b
  · rw [decide_eq_false (not_not_intro c)]
    unfold slt at c
    split
    · split
      · split
        · omega
        · exact decide_eq_false (by omega)
      · exact decide_eq_false (by omega)
    · exact decide_eq_false (by omega)
  · rw [decide_eq_true c]
    unfold slt at c
    split
    · split
      · split
        · rfl
        · exact decide_eq_true (by omega)
      · exact decide_eq_true (by omega)
    · exact decide_eq_true (by omega)
theorem insR_perm' (x : Row) : ∀ l : List Row, (insR x l).Perm (x :: l)
  | [] => List.Perm.refl _
  | y :: ys => by
    unfold insR
    split
    · exact ((insR_perm' x ys).cons y).trans (List.Perm.swap x y ys)
    · exact List.Perm.refl _
theorem sortR_perm' : ∀ l : List Row, (sortR l).Perm l
  | [] => List.Perm.refl _
  | x :: xs => (insR_perm' x (sortR xs)).trans ((sortR_perm' xs).cons x)
theorem insR_sorted' {x : Row} : ∀ {l : List Row}, l.Pairwise (fun a b => ¬ slt b a) → (insR x l).Pairwise (fun a b => ¬ slt b a)
  | [], _ => List.pairwise_singleton _ _
  | y :: ys, h => by
    obtain ⟨h1, h2⟩ := List.pairwise_cons.mp h
    unfold insR
    rw [rowLt_slt]
    split
    · next c =>
      refine List.pairwise_cons.mpr ⟨fun q hq => ?_, insR_sorted' h2⟩
      rcases List.mem_cons.mp ((insR_perm' x ys).mem_iff.mp hq) with e | e
      · rw [e]
        exact fun z => slt_irr (slt_trans z (of_decide_eq_true c))
      · exact h1 q e
    · next c =>
      have c : ¬ slt y x := fun z => c (decide_eq_true z)
      refine List.pairwise_cons.mpr ⟨fun q hq => ?_, h⟩
      rcases List.mem_cons.mp hq with e | e
      · rw [e]; exact c
      · intro z
        by_cases w : slt y q
        · exact c (slt_trans w z)
        · exact c ((slt_tri w (h1 q e)).symm ▸ z)
theorem sortR_sorted' : ∀ l : List Row, (sortR l).Pairwise (fun a b => ¬ slt b a)
  | [] => List.Pairwise.nil
  | _ :: xs => insR_sorted' (sortR_sorted' xs)
theorem sortR_strict {l : List Row} (h : l.Nodup) : (sortR l).Pairwise slt := by
  have hn : (sortR l).Nodup := (sortR_perm' l).nodup_iff.mpr h
  refine ((sortR_sorted' l).and hn).imp fun {a b} ⟨h1, h2⟩ => ?_
  by_cases c : slt a b
  · exact c
  · exact absurd (slt_tri c h1) h2
/-! dicts whose keys are stamps -/
def rkey (x : Row) : List Key := [.inl x.1, .inl x.2.1, .inl x.2.2]
theorem rkey_inj (a b : Row) (h : rkey a = rkey b) : a = b := by
  obtain ⟨p, q, r⟩ := a
  obtain ⟨p', q', r'⟩ := b
  unfold rkey at h
  simp at h
  rw [h.1, h.2.1, h.2.2]
theorem rkeys_ints : ∀ xs : List Row, keyIntss (xs.map rkey) = some (xs.map rowL)
  | [] => rfl
  | x :: xs => by
    show ((keyInts (rkey x)).bind fun ns => if ns = [] then none else (keyIntss (xs.map rkey)).map (ns :: ·)) = _
    rw [rkeys_ints xs]
    rfl
section
variable {ν : Type} {val : ν → D}
theorem fSrt_rowsD (xs : List (Row × ν)) : fSrt [.ob (.dT (dctD rkey val xs))] = some (.own (.lst ((sortR (xs.map (·.1))).map rowD))) := by
  show (keyIntss ((dctD rkey val xs).map (·.1))).map (fun nss => Rv.own (.lst ((sortL nss).map intsD))) = _
  rw [dctD_keys, rkeys_ints, Option.map_some, ← sortR_L, List.map_map]
  rfl
theorem fSet_rowsD {xs : List (Row × ν)} {r : Row} {v : ν} (hl : xs.length < 16777216) : fSet (.dT (dctD rkey val xs)) (rowD r) (val v) = some (.dT (dctD rkey val (putA xs r v))) := by
  show (if (dctD rkey val xs).length < 16777216 then some (Ob.dT (putD (dctD rkey val xs) (rkey r) (val v))) else none) = _
  rw [dctD_len, if_pos hl, dctD_put rkey_inj]
theorem fGet_rowsD {xs : List (Row × ν)} {r : Row} : fGet (.ob (.dT (dctD rkey val xs))) (.d (rowD r)) = some ((getA xs r).map val) := by
  show some (getK (dctD rkey val xs) (rkey r)) = _
  rw [dctD_get rkey_inj]
theorem fIx_dT {kvs : List (List Key × D)} {ds : List D} {v : D} (h : fGet (.ob (.dT kvs)) (.d (.tup ds)) = some (some v)) : fIx (.ob (.dT kvs)) (.d (.tup ds)) = some (.sh v) := by
  show (match fGet (.ob (.dT kvs)) (.d (.tup ds)) with | some (some d) => some (Rv.sh d) | _ => none) = _
  rw [h]
theorem fIx_rowsD {xs : List (Row × ν)} {r : Row} {v : ν} (h : getA xs r = some v) : fIx (.ob (.dT (dctD rkey val xs))) (.d (rowD r)) = some (.sh (val v)) := by
  refine fIx_dT (ds := [.int r.1, .int r.2.1, .int r.2.2]) ?_
  have := fGet_rowsD (val := val) (xs := xs) (r := r)
  rw [h] at this
  exact this
theorem fIx_namesD {xs : List (Name × ν)} {r : Name} {v : ν} (h : getA xs r = some v) : fIx (.ob (.dT (dctD nkey val xs))) (.d (nameD r)) = some (.sh (val v)) := by
  refine fIx_dT (ds := [.int r.1, .int r.2]) ?_
  have := fGet_names (val := val) (xs := xs) (h := r.1) (n := r.2)
  rw [h] at this
  exact this
theorem fIn_namesD {xs : List (Name × ν)} {r : Name} {g : Bool → Bool} : fIn g (.d (nameD r)) (.ob (.dT (dctD nkey val xs))) = some (.sh (.bl (g (decide (r ∈ xs.map (·.1)))))) := by
  show (fGet (.ob (.dT (dctD nkey val xs))) (.d (nameD r))).map (fun o => Rv.sh (.bl (g o.isSome))) = _
  have := fGet_names (val := val) (xs := xs) (h := r.1) (n := r.2)
  rw [show fGet (.ob (.dT (dctD nkey val xs))) (.d (nameD r)) = _ from this]
  show some (Rv.sh (.bl (g (((getA xs r).map val).isSome)))) = _
  rw [Option.isSome_map, isSome_getA]
  congr
theorem fSet_namesD {xs : List (Name × ν)} {r : Name} {v : ν} (hl : xs.length < 16777216) : fSet (.dT (dctD nkey val xs)) (nameD r) (val v) = some (.dT (dctD nkey val (putA xs r v))) := fSet_names hl
end
/-- dict(pairs) -/
def putsA {κ ν : Type} [DecidableEq κ] (xs ys : List (κ × ν)) : List (κ × ν) := ys.foldl (fun a p => putA a p.1 p.2) xs
theorem fDict_of {κ ν : Type} [DecidableEq κ] {key : κ → List Key} {val : ν → D} {ks : κ → List D} (hk : ∀ k, D.keys (ks k) = some (key k)) (hi : ∀ a b, key a = key b → a = b) (xs : List (κ × ν)) : fDictT [.ob (.lst (xs.map fun p => .tup [.tup (ks p.1), val p.2]))] = some (.own (.dT (dctD key val (putsA [] xs)))) := by
  have h1 : ∀ xs : List (κ × ν), pairsT (xs.map fun p => .tup [.tup (ks p.1), val p.2]) = some (dctD key val xs) := by
    intro xs
    induction xs with
    | nil => rfl
    | cons p xs ih =>
      show ((D.keys (ks p.1)).bind fun k => (pairsT (xs.map fun p => .tup [.tup (ks p.1), val p.2])).map ((k, val p.2) :: ·)) = _
      rw [hk, ih]
      rfl
  have h2 : ∀ (xs acc : List (κ × ν)), mergeD (dctD key val acc) (dctD key val xs) = dctD key val (putsA acc xs) := by
    intro xs
    induction xs with
    | nil => intro acc; rfl
    | cons p xs ih =>
      intro acc
      show mergeD (putD (dctD key val acc) (key p.1) (val p.2)) (dctD key val xs) = dctD key val (putsA (putA acc p.1 p.2) xs)
      rw [dctD_put hi, ih]
  show (pairsT _).map (fun ps => Rv.own (.dT (mergeD [] ps))) = _
  rw [h1]
  show some (Rv.own (.dT (mergeD (dctD key val []) (dctD key val xs)))) = _
  rw [h2]
theorem fNeB_dT (kvs : List (List Key × D)) : fNeB (.ob (.dT kvs)) (.ob (.dK [])) = some (.sh (.bl (!kvs.isEmpty))) := rfl
/-- xs[k] = w, xs ints -/
theorem fSet_ints {ws : List Int} {k w : Int} (h0 : 0 ≤ k) (h1 : k < ws.length) : fSet (.lst (ws.map .int)) (.int k) (.int w) = some (.lst ((ws.set k.toNat w).map .int)) := by
  show (ixN (ws.map D.int).length k).map (fun j => Ob.lst ((ws.map D.int).set j (.int w))) = _
  rw [List.length_map]
  unfold ixN
  rw [if_pos h0, if_pos h1, Option.map_some, List.map_set]
theorem fIx_ints {ws : List Int} {k : Int} (h0 : 0 ≤ k) (h1 : k < ws.length) : fIx (.ob (.lst (ws.map .int))) (.d (.int k)) = some (.sh (.int (ws.getD k.toNat 0))) := by
  rw [fIx_at h0 (by rw [List.length_map]; exact h1)]
  have : k.toNat < ws.length := by omega
  simp [this]
/-- pure data of deeds -/
def whatP : What → PyData
  | .put k w => .tuple [.str "put", .int k, .int w]
  | .add k w => .tuple [.str "add", .int k, .int w]
  | .back h n => .tuple [.str "back", .int h, .int n]
  | .sealed rs => .tuple [.str "seal", .tuple (rs.map rowP)]
  | .bye => .tuple [.str "bye"]
def deedP (d : Deed) : PyData := .tuple [.int d.h, .int d.n, .int d.t, whatP d.w]
theorem lay_wd (a : Wd) : (PyData.str (wdS a)).canLay0 = true := by cases a <;> decide +kernel
def pdWhat : Pd whatD where
  py := whatP
  dep := 3
  hpy w := by
    match w with
    | .sealed rs =>
      show (Option.bind (D.py (.str "seal")) fun p => (Option.bind ((D.pys (rs.map rowD)).map PyData.tuple) fun q => some [q]).map (p :: ·)).map PyData.tuple = _
      rw [rowsD_pys]
      rfl
    | .put _ _ => rfl
    | .add _ _ => rfl
    | .back _ _ => rfl
    | .bye => rfl
  lay w := by
    match w with
    | .sealed rs =>
      show (PyData.canLay0 (.str (wdS .sealed)) && (PyData.canLayAll0 (rs.map rowP) && true)) = true
      rw [rowsP_lay, lay_wd]
      rfl
    | .put _ _ => show (PyData.canLay0 (.str (wdS .put)) && (true && (true && true))) = true; rw [lay_wd]; rfl
    | .add _ _ => show (PyData.canLay0 (.str (wdS .add)) && (true && (true && true))) = true; rw [lay_wd]; rfl
    | .back _ _ => show (PyData.canLay0 (.str (wdS .back)) && (true && (true && true))) = true; rw [lay_wd]; rfl
    | .bye => show (PyData.canLay0 (.str (wdS .bye)) && true) = true; rw [lay_wd]; rfl
  hd w := by
    match w with
    | .sealed rs =>
      show max 0 (max (PyData.depthAll (rs.map rowP) + 1) 0) + 1 ≤ 3
      have := rowsP_depth rs
      omega
    | .put _ _ => exact (show 1 ≤ 3 by omega)
    | .add _ _ => exact (show 1 ≤ 3 by omega)
    | .back _ _ => exact (show 1 ≤ 3 by omega)
    | .bye => exact (show 1 ≤ 3 by omega)
  eqv a b := by
    cases a <;> cases b <;> first
      | (rename_i k w k' w'
         show (true && ((k == k') && ((w == w') && true))) = _
         rw [Bool.and_true, Bool.true_and]
         by_cases e1 : k = k' <;> by_cases e2 : w = w' <;> simp [e1, e2])
      | (rename_i rs rs'
         show (true && (PyData.eqvAll (rs.map rowP) (rs'.map rowP) && true)) = _
         rw [rowsP_eqv, Bool.and_true, Bool.true_and]
         by_cases e1 : rs = rs' <;> simp [e1])
      | rfl
      | (simp; rfl)
def pdDeed : Pd deedD where
  py := deedP
  dep := 4
  hpy d := by
    show (Option.bind (D.py (.int d.h)) fun p => (Option.bind (D.py (.int d.n)) fun q => (Option.bind (D.py (.int d.t)) fun r => (Option.bind (whatD d.w).py fun s => some [s]).map (r :: ·)).map (q :: ·)).map (p :: ·)).map PyData.tuple = _
    rw [pdWhat.hpy]
    rfl
  lay d := by
    show (PyData.canLay0 (.int d.h) && (PyData.canLay0 (.int d.n) && (PyData.canLay0 (.int d.t) && ((whatP d.w).canLay0 && true)))) = true
    have := pdWhat.lay d.w
    rw [show (whatP d.w).canLay0 = true from this]
    rfl
  hd d := by
    have : (whatP d.w).depth ≤ 3 := pdWhat.hd d.w
    show max 0 (max 0 (max 0 (max (whatP d.w).depth 0))) + 1 ≤ 4
    omega
  eqv a b := by
    obtain ⟨h, n, t, w⟩ := a
    obtain ⟨h', n', t', w'⟩ := b
    show ((h == h') && ((n == n') && ((t == t') && ((whatP w).eqv (whatP w') && true)))) = _
    have : (whatP w).eqv (whatP w') = decide (w = w') := pdWhat.eqv w w'
    rw [this, Bool.and_true]
    by_cases e1 : h = h' <;> by_cases e2 : n = n' <;> by_cases e3 : t = t' <;> by_cases e4 : w = w' <;> simp [e1, e2, e3, e4]
end DL

namespace DL
open PySem L2
@[simp] theorem fSrtB_ob (o : Ob) : fSrtB [.ob o] = fSrt [.ob o] := (rfl)
theorem fSrtB_rows (rs : List Row) : fSrtB [.d (.tup (rs.map rowD))] = some (.own (.lst ((sortR rs).map rowD))) := by
  show (D.intss (rs.map rowD)).map (fun nss => Rv.own (.lst ((sortL nss).map intsD))) = _
  rw [rows_intss, Option.map_some, ← sortR_L, List.map_map]
  rfl
def lcOR (g : D → Ev → Option Ev) (ws : List Nat) (t : MT) (e : ME) (ρ : Ev) (μ : Store) : Option Sl → Res Op
  | some (.own (.lst xs)) => (lcL g t e (wipeE ρ ws) xs μ []).bind fun ds μ2 => .ok (.own (.lst ds)) μ2
  | _ => .stk
@[simp] theorem x_eLcO {n g ws} {t : MT} {e : ME} {ρ : Ev} {μ : Store} : eLcO n g ws t e ρ μ = lcOR g ws t e ρ μ ρ[n]? := by
  unfold eLcO lcOR
  cases ρ[n]? with
  | none => rfl
  | some s => cases s with
    | no => rfl
    | sh _ => rfl
    | own o => cases o <;> rfl
@[simp] theorem x_lcOR {g ws} {t : MT} {e : ME} {ρ : Ev} {μ : Store} {xs} : lcOR g ws t e ρ μ (some (.own (.lst xs))) = (lcL g t e (wipeE ρ ws) xs μ []).bind fun ds μ2 => .ok (.own (.lst ds)) μ2 := (rfl)
@[simp] theorem fAdd_tup (xs ys : List D) : fAdd (.d (.tup xs)) (.d (.tup ys)) = if xs.length + ys.length ≤ 16777216 then some (.sh (.tup (xs ++ ys))) else none := (rfl)
@[simp] theorem popR_at {μ : Store} {n : Nat} {xs : List D} {i : Int} {d : D} (h : μ[n]? = some (.lst xs)) (h0 : 0 ≤ i ∧ i < 9223372036854775808) (hd : xs[i.toNat]? = some d) : popR μ n i = .ok (.sh d) (μ.set n (.lst (xs.eraseIdx i.toNat))) := by
  unfold popR
  rw [h]
  show (if 0 ≤ i ∧ i < 9223372036854775808 then (match xs[i.toNat]? with | some d => Res.ok (Op.sh d) (μ.set n (.lst (xs.eraseIdx i.toNat))) | none => .stk) else .stk) = _
  rw [if_pos h0, hd]
theorem fMaxL_ints (ns : List Int) (h : ns ≠ []) : fMaxL [.ob (.lst (ns.map .int))] = some (.sh (.int (maxL ns))) := by
  have e : D.ints (ns.map .int) = some ns := by
    clear h
    induction ns with
    | nil => rfl
    | cons n ns ih =>
      show (D.ints (ns.map .int)).map (n :: ·) = _
      rw [ih]
      rfl
  show ((D.ints (ns.map .int)).bind fun ns => if ns.length = 0 then none else some (Rv.sh (.int (maxL ns)))) = _
  rw [e]
  show (if ns.length = 0 then none else some (Rv.sh (.int (maxL ns)))) = _
  rw [if_neg (fun z => h (List.eq_nil_of_length_eq_zero z))]
end DL

namespace DL
open PySem L2
/-! ### texts, for simp -/
def splitR1 (b : ME) (ρ : Ev) (d : D) (μ : Store) : Res Op := match d with
  | .str s => (toD b ρ μ).bind fun e μ2 => (match e with
    | .str t => splitR s t μ2
    | _ => .stk)
  | _ => .stk
def splitR2 (s : Str) (d : D) (μ : Store) : Res Op := match d with
  | .str t => splitR s t μ
  | _ => .stk
section
variable {ρ : Ev} {μ : Store} {a b m : ME} {s t : Str} {g : Bool → Bool} {ws : List Str}
@[simp] theorem x_eSplit : eSplit a b ρ μ = (toD a ρ μ).bind (splitR1 b ρ) := (rfl)
@[simp] theorem x_splitR1 : splitR1 b ρ (.str s) μ = (toD b ρ μ).bind (splitR2 s) := (rfl)
@[simp] theorem x_splitR2 : splitR2 s (.str t) μ = splitR s t μ := (rfl)
theorem x_splitR {ps : List Str} (h : Txt.split s t = ps) (h1 : (t.length == 0) = false) (h2 : s.length + 2 ≤ 16777216) : splitR s t μ = .ok (.own (.lst (ps.map .str))) μ := by
  unfold splitR
  rw [if_pos ⟨h1, h2⟩, h]
def joinR1 (b : ME) (ρ : Ev) (d : D) (μ : Store) : Res Op := match d with
  | .str s => (toD b ρ μ).bind fun e μ2 => (match e with
    | .lst ds => joinR s μ2 (D.strs ds)
    | .tup ds => joinR s μ2 (D.strs ds)
    | _ => .stk)
  | _ => .stk
def joinR2 (s : Str) (d : D) (μ : Store) : Res Op := match d with
  | .lst ds => joinR s μ (D.strs ds)
  | .tup ds => joinR s μ (D.strs ds)
  | _ => .stk
@[simp] theorem x_eJoin : eJoin a b ρ μ = (toD a ρ μ).bind (joinR1 b ρ) := (rfl)
@[simp] theorem x_joinR1 : joinR1 b ρ (.str s) μ = (toD b ρ μ).bind (joinR2 s) := (rfl)
@[simp] theorem x_joinR2 {ds} : joinR2 s (.lst ds) μ = joinR s μ (D.strs ds) := (rfl)
theorem strs_map : ∀ ys : List Str, D.strs (ys.map .str) = some ys
  | [] => rfl
  | y :: ys => by
    show (D.strs (ys.map .str)).map (y :: ·) = _
    rw [strs_map ys]
    rfl
theorem x_joinR {ys : List Str} (h : (ys.map (·.length)).sum + ys.length * s.length ≤ 16777216) : joinR s μ (some ys) = .ok (.sh (.str (Txt.join s ys))) μ := by
  unfold joinR
  simp only [h, if_true]
def inCR (g : Bool → Bool) (ws : List Str) (d : D) (μ : Store) : Res Op := match d with
  | .str s => .ok (.sh (.bl (g (decide (s ∈ ws))))) μ
  | _ => .stk
@[simp] theorem x_eInC : eInC g m ws ρ μ = (toD m ρ μ).bind (inCR g ws) := (rfl)
@[simp] theorem x_inCR : inCR g ws (.str s) μ = .ok (.sh (.bl (g (decide (s ∈ ws))))) μ := (rfl)
def txtR (d : D) (μ : Store) : Res (List D) := match d with
  | .str s => .ok (chars s) μ
  | _ => .stk
@[simp] theorem x_iTxt : iTxt m ρ μ = (toD m ρ μ).bind txtR := (rfl)
@[simp] theorem x_txtR : txtR (.str s) μ = .ok (chars s) μ := (rfl)
end
theorem fStr_int {i : Int} (h : i.natAbs < 2 ^ 100) : fStr [.d (.int i)] = some (.sh (.str (Str.ofString (toString i)))) := by
  have : i.natAbs.log2 < 1920 := by
    rcases Nat.eq_zero_or_pos i.natAbs with z | z
    · rw [z]; decide
    · have := (Nat.log2_lt (by omega)).mpr h
      omega
  show (if i.natAbs.log2 < 1920 then some (Rv.sh (.str (toString i))) else none) = _
  rw [if_pos this]
theorem fAdd_str {a b : Str} (h : a.length + b.length ≤ 16777216) : fAdd (.d (.str a)) (.d (.str b)) = some (.sh (.str (a ++ b))) := by
  show (if a.length + b.length ≤ 16777216 then some (Rv.sh (.str (a ++ b))) else none) = _
  rw [if_pos h]
theorem fLenB_str {a : Str} (h : a.length ≤ 16777216) : fLenB [.d (.str a)] = some (.sh (.int a.length)) := by
  show (if a.length ≤ 16777216 then some (Rv.sh (.int a.length)) else none) = _
  rw [if_pos h]
@[simp] theorem fIntB_bl (b : Bool) : fIntB [.d (.bl b)] = some (.sh (.int (if b then 1 else 0))) := (rfl)
/-- the text of a number -/
def nS (n : Nat) : Str := Str.ofString (toString ((n : Nat) : Int))
theorem tl_nS (n : Nat) : TL.tl (nS n) = TL.numL n := TL.tl_num n
theorem nS_len {n k : Nat} (hk : 0 < k) (h : n < 10 ^ k) : (nS n).length ≤ k := by
  rw [TL.len_tl, tl_nS]
  exact TL.numL_len hk h
theorem nS_pos (n : Nat) : 1 ≤ (nS n).length := by
  rw [TL.len_tl, tl_nS]
  exact List.length_pos_iff.mpr (TL.numL_ne n)
theorem nS_free {n s : Nat} (h : s < 48 ∨ 57 < s) : s ∉ TL.tl (nS n) := by
  rw [tl_nS]
  exact TL.numL_free h
theorem nS_head {n : Nat} (h : 0 < n) : ∃ c r, TL.numL n = c :: r ∧ c ≠ 48 := by
  induction n using Nat.strongRecOn with
  | _ n ih =>
    by_cases c : n < 10
    · exact ⟨48 + n, [], TL.numL_lt c, by omega⟩
    · obtain ⟨d, r, e, hd⟩ := ih (n / 10) (by omega) (by omega)
      exact ⟨d, r ++ [48 + n % 10], by rw [TL.numL_step (by omega), e]; rfl, hd⟩
theorem fInt_nS {n : Nat} (h : n < 10 ^ 20) : fIntB [.d (.str (nS n))] = some (.sh (.int n)) := by
  have hl : (TL.numL n).length ≤ 20 := TL.numL_len (by decide) h
  have e := TL.int_num (n := n) (by omega)
  have hl2 : (nS n).length ≤ 640 := by
    have := nS_len (n := n) (k := 20) (by decide) h
    omega
  show (match PySem.intText? (nS n) with | some k => if (nS n).length ≤ 640 then some (Rv.sh (.int k)) else none | none => none) = _
  rw [show PySem.intText? (nS n) = some (n : Int) from e]
  show (if (nS n).length ≤ 640 then some (Rv.sh (.int (n : Int))) else none) = _
  rw [if_pos hl2]
end DL

/-! ### throws -/
namespace Law
open PySem L2 DL
theorem next_m {ns : List Int} {p m e n : Int} {μ : Store} (hp : 0 ≤ p) (h0 : 0 < n) (h1 : n < 18446744073709551616) :
    ∃ v p' m' e', m__law_next [.loc 0, .int n] (diceOb ns p m e :: μ) = .ok (.sh (.int v)) (diceOb ns p' m' e' :: μ) ∧ 0 ≤ v ∧ v < n ∧ 0 ≤ p' := by
  have md : ∀ i : Int, 0 ≤ i % n ∧ i % n < n := fun i => ⟨Int.emod_nonneg _ (by omega), Int.emod_lt_of_pos _ h0⟩
  unfold diceOb
  by_cases c1 : 0 < e
  · refine ⟨e % n, p, m, e / n, ?_, (md e).1, (md e).2, hp⟩
    simp [m__law_next, b__law_next, c1, fMod_int h0, fDiv_int h0 h1, List.replicate]
  · by_cases c2 : p + 1 ≤ ns.length
    · obtain ⟨c, hc⟩ := fIx_scr hp (show p < ns.length by omega)
      by_cases c3 : 1000000000000000000 ≤ c
      · refine ⟨c % n, p + 1, m, c / n, ?_, (md c).1, (md c).2, by omega⟩
        simp [m__law_next, b__law_next, c1, c2, c3, hc, fPow_18, fMod_int h0, fDiv_int h0 h1, List.replicate]
      · refine ⟨c % n, p + 1, m, 0, ?_, (md c).1, (md c).2, by omega⟩
        simp [m__law_next, b__law_next, c1, c2, c3, hc, fPow_18, fMod_int h0, fDiv_int h0 h1, List.replicate]
    · refine ⟨m * 48271 % 2147483647 / 7 % n, p + 1, m * 48271 % 2147483647, e, ?_, (md _).1, (md _).2, by omega⟩
      simp [m__law_next, b__law_next, c1, c2, fMul_l (i := m) (j := 48271) (by omega), fMod_int h0, fMod_int (show (0 : Int) < 2147483647 by omega), fDiv_int (show (0 : Int) < 7 by omega) (by omega), List.replicate]
theorem next_ok {d : Ob} {n : Int} {μ : Store} {Q : Rv → Store → Prop} (hd : Dice d) (h0 : 0 < n) (h1 : n < 18446744073709551616) (k : ∀ v d', Dice d' → 0 ≤ v → v < n → Q (.sh (.int v)) (d' :: μ)) : Ok (m__law_next [.loc 0, .int n] (d :: μ)) Q := by
  obtain ⟨ns, p, m, e, rfl, hp⟩ := hd
  obtain ⟨v, p', m', e', h, a, b, c⟩ := next_m (ns := ns) (m := m) (e := e) (μ := μ) hp h0 h1
  exact Ok.of h (k v _ ⟨ns, p', m', e', rfl, c⟩ a b)
theorem dice_loop : ∀ (ns : List Int) (x : Int) (s0 s2 : Sl) (μ : Store), ∃ y t2, forL (gN 2) b__law_dice_1 (ns.map .int) [s0, .sh (.int x), s2] μ = .ok (.nx, [s0, .sh (.int y), t2]) μ
  | [], x, s0, s2, μ => ⟨x, s2, rfl⟩
  | n :: ns, x, s0, s2, μ => by
    obtain ⟨y, t2, ih⟩ := dice_loop ns ((x * 48271 + n % 2147483647 * 69621 + 11) % 2147483647) s0 (.sh (.int n)) μ
    refine ⟨y, t2, ?_⟩
    rw [← ih, List.map_cons, forL]
    simp [b__law_dice_1, fMul_l (i := x) (j := 48271) (by omega), fMul_l (i := n % 2147483647) (j := 69621) (by omega), fMod_int (show (0 : Int) < 2147483647 by omega)]
theorem dice_ok {ns : List Int} {μ : Store} {Q : Rv → Store → Prop} (k : ∀ d, Dice d → Q (.own d) μ) : Ok (m__law_dice [.scr ns] μ) Q := by
  obtain ⟨y, t2, h⟩ := dice_loop ns 0 (.sh (.scr ns)) .no μ
  have hm : fMul (.d (.int y)) (.d (.int (if (2 : Int) < ns.length then 1 else 0))) = some (.sh (.int (y * (if (2 : Int) < ns.length then 1 else 0)))) := fMul_l (by split <;> omega)
  unfold m__law_dice b__law_dice
  simp [h, hm, List.replicate]
  exact k _ ⟨ns, 0, _, 0, rfl, Int.le_refl _⟩
end Law

/-! ### the plain theory of stretches -/
namespace St
abbrev Row := Int × Int × Int
def In (rs : List Row) (h n : Int) : Prop := ∃ r ∈ rs, r.1 = h ∧ r.2.1 ≤ n ∧ n ≤ r.2.2
def Ok (r : Row) : Prop := r.2.1 ≤ r.2.2
def Sep (a b : Row) : Prop := a.1 < b.1 ∨ (a.1 = b.1 ∧ a.2.2 + 1 < b.2.1)
def Canon (rs : List Row) : Prop := (∀ r ∈ rs, Ok r) ∧ rs.Pairwise Sep
theorem in_nil {h n : Int} : ¬ In [] h n := fun ⟨r, hr, _⟩ => by simp at hr
theorem in_cons {r : Row} {rs : List Row} {h n : Int} : In (r :: rs) h n ↔ (r.1 = h ∧ r.2.1 ≤ n ∧ n ≤ r.2.2) ∨ In rs h n := by
  constructor
  · rintro ⟨q, hq, z⟩
    rcases List.mem_cons.mp hq with e | e
    · exact .inl (e ▸ z)
    · exact .inr ⟨q, e, z⟩
  · rintro (z | ⟨q, hq, z⟩)
    · exact ⟨r, List.mem_cons_self, z⟩
    · exact ⟨q, List.mem_cons_of_mem _ hq, z⟩
theorem in_append {rs qs : List Row} {h n : Int} : In (rs ++ qs) h n ↔ In rs h n ∨ In qs h n := by
  constructor
  · rintro ⟨q, hq, z⟩
    rcases List.mem_append.mp hq with e | e
    · exact .inl ⟨q, e, z⟩
    · exact .inr ⟨q, e, z⟩
  · rintro (⟨q, hq, z⟩ | ⟨q, hq, z⟩)
    · exact ⟨q, List.mem_append_left _ hq, z⟩
    · exact ⟨q, List.mem_append_right _ hq, z⟩
theorem in_perm {rs qs : List Row} (p : rs.Perm qs) {h n : Int} : In rs h n ↔ In qs h n :=
  ⟨fun ⟨r, hr, z⟩ => ⟨r, p.mem_iff.mp hr, z⟩, fun ⟨r, hr, z⟩ => ⟨r, p.mem_iff.mpr hr, z⟩⟩
theorem canon_nil : Canon [] := ⟨fun r h => by simp at h, List.Pairwise.nil⟩
theorem canon_cons {r : Row} {rs : List Row} : Canon (r :: rs) ↔ Ok r ∧ (∀ q ∈ rs, Sep r q) ∧ Canon rs := by
  unfold Canon
  rw [List.pairwise_cons]
  constructor
  · rintro ⟨h1, h2, h3⟩
    exact ⟨h1 r List.mem_cons_self, h2, fun q hq => h1 q (List.mem_cons_of_mem _ hq), h3⟩
  · rintro ⟨h1, h2, h3, h4⟩
    refine ⟨fun q hq => ?_, h2, h4⟩
    rcases List.mem_cons.mp hq with e | e
    · exact e ▸ h1
    · exact h3 q e
theorem canon_append {rs qs : List Row} (h1 : Canon rs) (h2 : Canon qs) (h : ∀ r ∈ rs, ∀ q ∈ qs, Sep r q) : Canon (rs ++ qs) :=
  ⟨fun r hr => (List.mem_append.mp hr).elim (h1.1 r) (h2.1 r), List.pairwise_append.mpr ⟨h1.2, h2.2, h⟩⟩
/-- the first row of a canonical list is least -/
theorem head_le {x : Row} {xs : List Row} (c : Canon (x :: xs)) {h n : Int} (i : In (x :: xs) h n) : x.1 < h ∨ (x.1 = h ∧ x.2.1 ≤ n) := by
  obtain ⟨k1, k2, _⟩ := canon_cons.mp c
  rcases in_cons.mp i with ⟨e1, e2, _⟩ | ⟨r, hr, e1, e2, e3⟩
  · exact .inr ⟨e1, e2⟩
  · have k1 : x.2.1 ≤ x.2.2 := k1
    rcases k2 r hr with s | ⟨s1, s2⟩
    · omega
    · exact .inr ⟨by omega, by omega⟩
theorem in_first {x : Row} {xs : List Row} (h : Ok x) : In (x :: xs) x.1 x.2.1 := in_cons.mpr (.inl ⟨rfl, Int.le_refl _, h⟩)
/-- beyond the first row's end nothing follows at once -/
theorem in_next {x : Row} {xs : List Row} (c : Canon (x :: xs)) : ¬ In (x :: xs) x.1 (x.2.2 + 1) := by
  obtain ⟨k1, k2, _⟩ := canon_cons.mp c
  intro i
  rcases in_cons.mp i with ⟨_, _, e⟩ | ⟨r, hr, e1, e2, e3⟩
  · omega
  · rcases k2 r hr with s | ⟨s1, s2⟩ <;> omega
/-- a set has one canonical list -/
theorem canon_ext : ∀ {xs ys : List Row}, Canon xs → Canon ys → (∀ h n, In xs h n ↔ In ys h n) → xs = ys
  | [], [], _, _, _ => rfl
  | [], y :: ys, _, c, e => absurd ((e _ _).mpr (in_first (canon_cons.mp c).1)) in_nil
  | x :: xs, [], c, _, e => absurd ((e _ _).mp (in_first (canon_cons.mp c).1)) in_nil
  | x :: xs, y :: ys, cx, cy, e => by
    obtain ⟨x1, x2, x3⟩ := canon_cons.mp cx
    obtain ⟨y1, y2, y3⟩ := canon_cons.mp cy
    have a1 := head_le cy ((e _ _).mp (in_first (xs := xs) x1))
    have a2 := head_le cx ((e _ _).mpr (in_first (xs := ys) y1))
    have e1 : x.1 = y.1 := by omega
    have e2 : x.2.1 = y.2.1 := by omega
    have x1' : x.2.1 ≤ x.2.2 := x1
    have y1' : y.2.1 ≤ y.2.2 := y1
    have e3 : x.2.2 = y.2.2 := by
      rcases Int.lt_trichotomy x.2.2 y.2.2 with l | l | l
      · exact absurd ((e _ _).mpr (in_cons.mpr (.inl ⟨e1.symm, by omega, by omega⟩))) (in_next cx)
      · exact l
      · exact absurd ((e _ _).mp (in_cons.mpr (.inl ⟨e1, by omega, by omega⟩))) (in_next cy)
    have exy : x = y := by
      obtain ⟨a, b, c⟩ := x
      obtain ⟨a', b', c'⟩ := y
      simp only at e1 e2 e3
      rw [e1, e2, e3]
    subst exy
    rw [canon_ext x3 y3 fun h n => ?_]
    constructor
    · rintro ⟨r, hr, r1, r2, r3⟩
      rcases in_cons.mp ((e h n).mp (in_cons.mpr (.inr ⟨r, hr, r1, r2, r3⟩))) with ⟨z1, z2, z3⟩ | z
      · rcases x2 r hr with s | ⟨s1, s2⟩ <;> omega
      · exact z
    · rintro ⟨r, hr, r1, r2, r3⟩
      rcases in_cons.mp ((e h n).mpr (in_cons.mpr (.inr ⟨r, hr, r1, r2, r3⟩))) with ⟨z1, z2, z3⟩ | z
      · rcases y2 r hr with s | ⟨s1, s2⟩ <;> omega
      · exact z
/-! ### merged -/
def mergeR : Row → List Row → List Row
  | l, [] => [l]
  | l, r :: rs => if l.1 = r.1 ∧ r.2.1 ≤ l.2.2 + 1 then mergeR (l.1, l.2.1, max l.2.2 r.2.2) rs else l :: mergeR r rs
def mergeS : List Row → List Row
  | [] => []
  | r :: rs => mergeR r rs
/-- by house and first -/
def Le (a b : Row) : Prop := a.1 < b.1 ∨ (a.1 = b.1 ∧ a.2.1 ≤ b.2.1)
theorem mergeR_ok : ∀ (rs : List Row) (l : Row), (∀ r ∈ l :: rs, Ok r) → (l :: rs).Pairwise Le → Canon (mergeR l rs) ∧ (∀ h n, In (mergeR l rs) h n ↔ In (l :: rs) h n) ∧ (∀ q ∈ mergeR l rs, Le l q)
  | [], l, ho, _ => ⟨canon_cons.mpr ⟨ho l List.mem_cons_self, fun q hq => by simp at hq, canon_nil⟩, fun _ _ => Iff.rfl, fun q hq => by
      have : q = l := by simpa [mergeR] using hq
      rw [this]
      exact .inr ⟨rfl, Int.le_refl _⟩⟩
  | r :: rs, l, ho, hs => by
    obtain ⟨s1, s2⟩ := List.pairwise_cons.mp hs
    obtain ⟨s3, s4⟩ := List.pairwise_cons.mp s2
    have ol : l.2.1 ≤ l.2.2 := ho l List.mem_cons_self
    have orr : r.2.1 ≤ r.2.2 := ho r (List.mem_cons_of_mem _ List.mem_cons_self)
    have lr := s1 r List.mem_cons_self
    unfold mergeR
    split
    · next c =>
      obtain ⟨c1, c2⟩ := c
      have ih := mergeR_ok rs (l.1, l.2.1, max l.2.2 r.2.2) (fun q hq => ?_) (List.pairwise_cons.mpr ⟨fun q hq => s1 q (List.mem_cons_of_mem _ hq), s4⟩)
      · obtain ⟨i1, i2, i3⟩ := ih
        refine ⟨i1, fun h n => ?_, i3⟩
        rw [i2, in_cons, in_cons, in_cons]
        show (l.1 = h ∧ l.2.1 ≤ n ∧ n ≤ max l.2.2 r.2.2) ∨ _ ↔ _
        rcases lr with z | ⟨z1, z2⟩
        · omega
        constructor
        · rintro (⟨a, b, c⟩ | z)
          · by_cases q : n ≤ l.2.2
            · exact .inl ⟨a, b, q⟩
            · exact .inr (.inl ⟨by omega, by omega, by omega⟩)
          · exact .inr (.inr z)
        · rintro (⟨a, b, c⟩ | ⟨a, b, c⟩ | z)
          · exact .inl ⟨a, b, by omega⟩
          · exact .inl ⟨by omega, by omega, by omega⟩
          · exact .inr z
      · rcases List.mem_cons.mp hq with e | e
        · rw [e]
          show l.2.1 ≤ max l.2.2 r.2.2
          omega
        · exact ho q (List.mem_cons_of_mem _ (List.mem_cons_of_mem _ e))
    · next c =>
      obtain ⟨i1, i2, i3⟩ := mergeR_ok rs r (fun q hq => ho q (List.mem_cons_of_mem _ hq)) s2
      have sep : ∀ q ∈ mergeR r rs, Sep l q := fun q hq => by
        have a := i3 q hq
        unfold Sep
        unfold Le at a lr
        omega
      refine ⟨canon_cons.mpr ⟨ol, sep, i1⟩, fun h n => ?_, fun q hq => ?_⟩
      · rw [in_cons, in_cons, i2]
      · rcases List.mem_cons.mp hq with e | e
        · rw [e]
          exact .inr ⟨rfl, Int.le_refl _⟩
        · have a := i3 q e
          unfold Le at a lr ⊢
          omega
theorem mergeS_ok {rs : List Row} (ho : ∀ r ∈ rs, Ok r) (hs : rs.Pairwise Le) : Canon (mergeS rs) ∧ ∀ h n, In (mergeS rs) h n ↔ In rs h n := by
  cases rs with
  | nil => exact ⟨canon_nil, fun _ _ => Iff.rfl⟩
  | cons r rs =>
    obtain ⟨a, b, _⟩ := mergeR_ok rs r ho hs
    exact ⟨a, b⟩
theorem mergeR_len : ∀ (rs : List Row) (l : Row), (mergeR l rs).length ≤ rs.length + 1
  | [], _ => Nat.le_refl _
  | r :: rs, l => by
    unfold mergeR
    split
    · have := mergeR_len rs (l.1, l.2.1, max l.2.2 r.2.2)
      simp only [List.length_cons]
      omega
    · have := mergeR_len rs r
      simp only [List.length_cons]
      omega
/-! ### what of one isn't in the other -/
def cutL (h last : Int) : Int → List Row → List Row
  | first, [] => if first ≤ last then [(h, first, last)] else []
  | first, o :: os => if o.1 = h ∧ o.2.1 ≤ last ∧ first ≤ o.2.2 then (if first < o.2.1 then [(h, first, o.2.1 - 1)] else []) ++ cutL h last (o.2.2 + 1) os else cutL h last first os
def cutOut (xs ys : List Row) : List Row := xs.flatMap fun r => cutL r.1 r.2.2 r.2.1 ys
theorem cutL_mem {h last : Int} : ∀ {os : List Row} {first : Int} {q : Row}, Canon os → q ∈ cutL h last first os → q.1 = h ∧ first ≤ q.2.1 ∧ q.2.1 ≤ q.2.2 ∧ q.2.2 ≤ last
  | [], first, q, _, hq => by
    unfold cutL at hq
    split at hq
    · have : q = (h, first, last) := by simpa using hq
      rw [this]
      exact ⟨rfl, Int.le_refl _, by assumption, Int.le_refl _⟩
    · simp at hq
  | o :: os, first, q, c, hq => by
    obtain ⟨c1, c2, c3⟩ := canon_cons.mp c
    have c1 : o.2.1 ≤ o.2.2 := c1
    unfold cutL at hq
    split at hq
    · next k =>
      rcases List.mem_append.mp hq with z | z
      · split at z
        · have : q = (h, first, o.2.1 - 1) := by simpa using z
          rw [this]
          refine ⟨rfl, Int.le_refl _, ?_, ?_⟩
          · show first ≤ o.2.1 - 1
            omega
          · show o.2.1 - 1 ≤ last
            omega
        · simp at z
      · obtain ⟨a, b, d, e⟩ := cutL_mem c3 z
        exact ⟨a, by omega, d, e⟩
    · exact cutL_mem c3 hq
theorem cutL_in {h last : Int} : ∀ {os : List Row} {first : Int}, Canon os → ∀ k n, In (cutL h last first os) k n ↔ k = h ∧ first ≤ n ∧ n ≤ last ∧ ¬ In os h n
  | [], first, _, k, n => by
    unfold cutL
    split
    · rw [in_cons]
      constructor
      · rintro (⟨a, b, c⟩ | z)
        · exact ⟨a.symm, b, c, in_nil⟩
        · exact absurd z in_nil
      · rintro ⟨a, b, c, _⟩
        exact .inl ⟨a.symm, b, c⟩
    · next hh => exact ⟨fun z => absurd z in_nil, fun ⟨a, b, c, _⟩ => by omega⟩
  | o :: os, first, c, k, n => by
    obtain ⟨c1, c2, c3⟩ := canon_cons.mp c
    have c1 : o.2.1 ≤ o.2.2 := c1
    unfold cutL
    split
    · next q =>
      obtain ⟨q1, q2, q3⟩ := q
      rw [in_append, cutL_in c3, in_cons]
      have later : n ≤ o.2.2 + 1 → ¬ In os h n := fun hn ⟨r, hr, r1, r2, r3⟩ => by
        rcases c2 r hr with s | ⟨s1, s2⟩ <;> omega
      have e : In (if first < o.2.1 then [(h, first, o.2.1 - 1)] else []) k n ↔ k = h ∧ first ≤ n ∧ n < o.2.1 := by
        split
        · rw [in_cons]
          constructor
          · rintro (⟨a, b, d⟩ | z)
            · have b : first ≤ n := b
              have d : n ≤ o.2.1 - 1 := d
              exact ⟨a.symm, b, by omega⟩
            · exact absurd z in_nil
          · rintro ⟨a, b, d⟩
            exact .inl ⟨a.symm, b, show n ≤ o.2.1 - 1 by omega⟩
        · exact ⟨fun z => absurd z in_nil, fun ⟨a, b, d⟩ => by omega⟩
      rw [e]
      constructor
      · rintro (⟨a, b, d⟩ | ⟨a, b, d, z⟩)
        · exact ⟨a, b, by omega, fun z => z.elim (fun ⟨_, _, _⟩ => by omega) (later (by omega))⟩
        · exact ⟨a, by omega, d, fun y => y.elim (fun ⟨_, _, _⟩ => by omega) z⟩
      · rintro ⟨a, b, d, z⟩
        by_cases w : n < o.2.1
        · exact .inl ⟨a, b, w⟩
        · refine .inr ⟨a, ?_, d, fun y => z (.inr y)⟩
          by_cases w2 : n ≤ o.2.2
          · exact absurd (.inl ⟨q1, by omega, w2⟩) z
          · omega
    · next q =>
      rw [cutL_in c3, in_cons]
      constructor
      · rintro ⟨a, b, d, z⟩
        exact ⟨a, b, d, fun y => y.elim (fun ⟨w1, w2, w3⟩ => q ⟨w1, by omega, by omega⟩) z⟩
      · rintro ⟨a, b, d, z⟩
        exact ⟨a, b, d, fun y => z (.inr y)⟩
theorem cutL_canon {h last : Int} : ∀ {os : List Row} {first : Int}, Canon os → Canon (cutL h last first os)
  | [], first, _ => by
    unfold cutL
    split
    · exact canon_cons.mpr ⟨by assumption, fun q hq => by simp at hq, canon_nil⟩
    · exact canon_nil
  | o :: os, first, c => by
    obtain ⟨c1, c2, c3⟩ := canon_cons.mp c
    have c1 : o.2.1 ≤ o.2.2 := c1
    unfold cutL
    split
    · next k =>
      refine canon_append ?_ (cutL_canon c3) fun r hr q hq => ?_
      · split
        · exact canon_cons.mpr ⟨show first ≤ o.2.1 - 1 by omega, fun q hq => by simp at hq, canon_nil⟩
        · exact canon_nil
      · split at hr
        · have : r = (h, first, o.2.1 - 1) := by simpa using hr
          rw [this]
          obtain ⟨a, b, d, e⟩ := cutL_mem c3 hq
          refine .inr ⟨a.symm, ?_⟩
          show o.2.1 - 1 + 1 < q.2.1
          omega
        · simp at hr
    · exact cutL_canon c3
theorem in_flatMap {xs : List Row} {f : Row → List Row} {h n : Int} : In (xs.flatMap f) h n ↔ ∃ r ∈ xs, In (f r) h n := by
  constructor
  · rintro ⟨q, hq, z⟩
    obtain ⟨r, hr, hq⟩ := List.mem_flatMap.mp hq
    exact ⟨r, hr, q, hq, z⟩
  · rintro ⟨r, hr, q, hq, z⟩
    exact ⟨q, List.mem_flatMap.mpr ⟨r, hr, hq⟩, z⟩
theorem canon_flatMap {f : Row → List Row} : ∀ {xs : List Row}, Canon xs → (∀ r ∈ xs, Canon (f r) ∧ ∀ q ∈ f r, q.1 = r.1 ∧ r.2.1 ≤ q.2.1 ∧ q.2.2 ≤ r.2.2) → Canon (xs.flatMap f)
  | [], _, _ => canon_nil
  | x :: xs, c, hf => by
    obtain ⟨c1, c2, c3⟩ := canon_cons.mp c
    rw [List.flatMap_cons]
    refine canon_append (hf x List.mem_cons_self).1 (canon_flatMap c3 fun r hr => hf r (List.mem_cons_of_mem _ hr)) fun p hp q hq => ?_
    obtain ⟨r, hr, hq⟩ := List.mem_flatMap.mp hq
    obtain ⟨a1, a2, a3⟩ := (hf x List.mem_cons_self).2 p hp
    obtain ⟨b1, b2, b3⟩ := (hf r (List.mem_cons_of_mem _ hr)).2 q hq
    have s := c2 r hr
    unfold Sep at s ⊢
    omega
theorem cutOut_ok {xs ys : List Row} (cx : Canon xs) (cy : Canon ys) : Canon (cutOut xs ys) ∧ ∀ h n, In (cutOut xs ys) h n ↔ In xs h n ∧ ¬ In ys h n := by
  refine ⟨canon_flatMap cx fun r hr => ⟨cutL_canon cy, fun q hq => ?_⟩, fun h n => ?_⟩
  · obtain ⟨a, b, d, e⟩ := cutL_mem cy hq
    exact ⟨a, b, e⟩
  · unfold cutOut
    rw [in_flatMap]
    constructor
    · rintro ⟨r, hr, z⟩
      obtain ⟨a, b, d, e⟩ := (cutL_in cy h n).mp z
      exact ⟨⟨r, hr, a.symm, b, d⟩, by rw [a]; exact e⟩
    · rintro ⟨⟨r, hr, a, b, d⟩, z⟩
      exact ⟨r, hr, (cutL_in cy h n).mpr ⟨a.symm, b, d, by rw [a]; exact z⟩⟩
/-! ### what both have -/
def bothL (r : Row) (ys : List Row) : List Row := ys.flatMap fun o => if o.1 = r.1 ∧ max r.2.1 o.2.1 ≤ min r.2.2 o.2.2 then [(r.1, max r.2.1 o.2.1, min r.2.2 o.2.2)] else []
def inBoth (xs ys : List Row) : List Row := xs.flatMap fun r => bothL r ys
theorem both_one {r o : Row} {h n : Int} : In (if o.1 = r.1 ∧ max r.2.1 o.2.1 ≤ min r.2.2 o.2.2 then [(r.1, max r.2.1 o.2.1, min r.2.2 o.2.2)] else []) h n ↔ (r.1 = h ∧ r.2.1 ≤ n ∧ n ≤ r.2.2) ∧ (o.1 = h ∧ o.2.1 ≤ n ∧ n ≤ o.2.2) := by
  split
  · rw [in_cons]
    constructor
    · rintro (⟨a, b, c⟩ | z)
      · have a : r.1 = h := a
        have b : max r.2.1 o.2.1 ≤ n := b
        have c : n ≤ min r.2.2 o.2.2 := c
        omega
      · exact absurd z in_nil
    · rintro ⟨⟨a, b, c⟩, d, e, f⟩
      exact .inl ⟨a, show max r.2.1 o.2.1 ≤ n by omega, show n ≤ min r.2.2 o.2.2 by omega⟩
  · exact ⟨fun z => absurd z in_nil, fun ⟨⟨a, b, c⟩, d, e, f⟩ => by omega⟩
theorem bothL_in {r : Row} {ys : List Row} {h n : Int} : In (bothL r ys) h n ↔ (r.1 = h ∧ r.2.1 ≤ n ∧ n ≤ r.2.2) ∧ In ys h n := by
  unfold bothL
  rw [in_flatMap]
  constructor
  · rintro ⟨o, ho, z⟩
    obtain ⟨a, b⟩ := both_one.mp z
    exact ⟨a, o, ho, b⟩
  · rintro ⟨a, o, ho, b⟩
    exact ⟨o, ho, both_one.mpr ⟨a, b⟩⟩
theorem bothL_ok {r : Row} {ys : List Row} (cy : Canon ys) : Canon (bothL r ys) ∧ ∀ q ∈ bothL r ys, q.1 = r.1 ∧ r.2.1 ≤ q.2.1 ∧ q.2.2 ≤ r.2.2 := by
  have key : ∀ (o : Row), ∀ q ∈ (if o.1 = r.1 ∧ max r.2.1 o.2.1 ≤ min r.2.2 o.2.2 then [(r.1, max r.2.1 o.2.1, min r.2.2 o.2.2)] else [] : List Row), q = (r.1, max r.2.1 o.2.1, min r.2.2 o.2.2) ∧ o.1 = r.1 ∧ max r.2.1 o.2.1 ≤ min r.2.2 o.2.2 := fun o q hq => by
    split at hq
    · next c => exact ⟨by simpa using hq, c⟩
    · simp at hq
  refine ⟨canon_flatMap cy fun o ho => ⟨?_, fun q hq => ?_⟩, fun q hq => ?_⟩
  · split
    · next c => exact canon_cons.mpr ⟨c.2, fun q hq => by simp at hq, canon_nil⟩
    · exact canon_nil
  · obtain ⟨e, a, b⟩ := key o q hq
    rw [e]
    exact ⟨a.symm, show o.2.1 ≤ max r.2.1 o.2.1 by omega, show min r.2.2 o.2.2 ≤ o.2.2 by omega⟩
  · obtain ⟨o, ho, hq⟩ := List.mem_flatMap.mp hq
    obtain ⟨e, a, b⟩ := key o q hq
    rw [e]
    exact ⟨rfl, show r.2.1 ≤ max r.2.1 o.2.1 by omega, show min r.2.2 o.2.2 ≤ r.2.2 by omega⟩
theorem inBoth_ok {xs ys : List Row} (cx : Canon xs) (cy : Canon ys) : Canon (inBoth xs ys) ∧ ∀ h n, In (inBoth xs ys) h n ↔ In xs h n ∧ In ys h n := by
  refine ⟨canon_flatMap cx fun r hr => bothL_ok cy, fun h n => ?_⟩
  unfold inBoth
  rw [in_flatMap]
  constructor
  · rintro ⟨r, hr, z⟩
    obtain ⟨a, b⟩ := bothL_in.mp z
    exact ⟨⟨r, hr, a⟩, b⟩
  · rintro ⟨⟨r, hr, a⟩, b⟩
    exact ⟨r, hr, bothL_in.mpr ⟨a, b⟩⟩
end St

/-! ### held by so many; how many -/
namespace St
/-- turns: house, number, one more or one less -/
abbrev Turn := Int × Int × Int
def wt (h n : Int) (t : Turn) : Int := if t.1 = h ∧ t.2.1 ≤ n then t.2.2 else 0
def wtH (h : Int) (t : Turn) : Int := if t.1 = h then t.2.2 else 0
def W (T : List Turn) (h n : Int) : Int := (T.map (wt h n)).sum
def Tot (T : List Turn) (h : Int) : Int := (T.map (wtH h)).sum
theorem W_cons {t : Turn} {T : List Turn} {h n : Int} : W (t :: T) h n = wt h n t + W T h n := by simp [W]
theorem Tot_cons {t : Turn} {T : List Turn} {h : Int} : Tot (t :: T) h = wtH h t + Tot T h := by simp [Tot]
theorem W_zero {h n : Int} : ∀ {T : List Turn}, (∀ t ∈ T, t.1 = h → n < t.2.1) → W T h n = 0
  | [], _ => rfl
  | t :: T, k => by
    rw [W_cons, W_zero fun q hq => k q (List.mem_cons_of_mem _ hq)]
    have := k t List.mem_cons_self
    unfold wt
    rw [if_neg (fun z => by have := this z.1; omega)]
    rfl
theorem Tot_zero {h : Int} : ∀ {T : List Turn}, (∀ t ∈ T, t.1 ≠ h) → Tot T h = 0
  | [], _ => rfl
  | t :: T, k => by
    rw [Tot_cons, Tot_zero fun q hq => k q (List.mem_cons_of_mem _ hq)]
    unfold wtH
    rw [if_neg (k t List.mem_cons_self)]
    rfl
def sweep (least : Int) : Int → Int → List Turn → List Row
  | _, _, [] => []
  | many, begun, t :: ts => (if least ≤ many ∧ begun < t.2.1 then [(t.1, begun, t.2.1 - 1)] else []) ++ sweep least (many + t.2.2) t.2.1 ts
theorem sweep_in {least : Int} (hl : 1 ≤ least) : ∀ (Q : List Turn) (hh many begun : Int), Q.Pairwise Le → (∀ t ∈ Q, hh < t.1 ∨ (hh = t.1 ∧ begun ≤ t.2.1)) → many + Tot Q hh = 0 → (∀ h, h ≠ hh → Tot Q h = 0) →
    ∀ h n, In (sweep least many begun Q) h n ↔ (h = hh ∧ begun ≤ n ∧ least ≤ many + W Q hh n) ∨ (h ≠ hh ∧ least ≤ W Q h n)
  | [], hh, many, begun, _, _, ht, _, h, n => by
    have e : many = 0 := by simpa [Tot] using ht
    constructor
    · intro z
      exact absurd z in_nil
    · rintro (⟨_, _, z⟩ | ⟨_, z⟩)
      · simp [W] at z
        omega
      · simp [W] at z
        omega
  | t :: Q, hh, many, begun, hs, hb, ht, h0, h, n => by
    obtain ⟨s1, s2⟩ := List.pairwise_cons.mp hs
    have hbt := hb t List.mem_cons_self
    unfold sweep
    rw [in_append]
    by_cases c : t.1 = hh
    · -- the same house
      have hb' : ∀ q ∈ Q, t.1 < q.1 ∨ (t.1 = q.1 ∧ t.2.1 ≤ q.2.1) := fun q hq => s1 q hq
      have ht' : many + t.2.2 + Tot Q t.1 = 0 := by
        rw [Tot_cons] at ht
        unfold wtH at ht
        rw [if_pos c] at ht
        rw [c]
        omega
      have h0' : ∀ h, h ≠ t.1 → Tot Q h = 0 := fun h hh' => by
        have := h0 h (by omega)
        rw [Tot_cons] at this
        unfold wtH at this
        rw [if_neg (fun z => hh' z.symm)] at this
        omega
      have ih := sweep_in hl Q t.1 (many + t.2.2) t.2.1 s2 hb' ht' h0' h n
      rw [ih]
      have em : In (if least ≤ many ∧ begun < t.2.1 then [(t.1, begun, t.2.1 - 1)] else []) h n ↔ h = hh ∧ least ≤ many ∧ begun ≤ n ∧ n < t.2.1 := by
        split
        · rw [in_cons]
          constructor
          · rintro (⟨a, b, d⟩ | z)
            · have a : t.1 = h := a
              have b : begun ≤ n := b
              have d : n ≤ t.2.1 - 1 := d
              exact ⟨by omega, by omega, b, by omega⟩
            · exact absurd z in_nil
          · rintro ⟨a, b, d, e⟩
            exact .inl ⟨show t.1 = h by omega, d, show n ≤ t.2.1 - 1 by omega⟩
        · exact ⟨fun z => absurd z in_nil, fun ⟨a, b, d, e⟩ => by omega⟩
      rw [em]
      by_cases e : h = hh
      · subst e
        by_cases l : n < t.2.1
        · have w0 : W (t :: Q) h n = 0 := W_zero fun q hq hq1 => by
            rcases List.mem_cons.mp hq with z | z
            · rw [z]; exact l
            · have := s1 q z
              unfold Le at this
              omega
          rw [w0]
          constructor
          · rintro (⟨_, a, b, _⟩ | ⟨_, a, _⟩ | ⟨a, _⟩)
            · exact .inl ⟨rfl, b, by omega⟩
            · omega
            · exact absurd c.symm a
          · rintro (⟨_, a, b⟩ | ⟨a, _⟩)
            · exact .inl ⟨rfl, by omega, a, l⟩
            · exact absurd rfl a
        · have w1 : W (t :: Q) h n = t.2.2 + W Q h n := by
            rw [W_cons]
            unfold wt
            rw [if_pos ⟨c, by omega⟩]
          rw [w1, c]
          constructor
          · rintro (⟨_, a, b, d⟩ | ⟨_, a, b⟩ | ⟨a, _⟩)
            · omega
            · exact .inl ⟨rfl, by omega, by omega⟩
            · exact absurd rfl a
          · rintro (⟨_, a, b⟩ | ⟨a, _⟩)
            · exact .inr (.inl ⟨rfl, by omega, by omega⟩)
            · exact absurd rfl a
      · have w1 : W (t :: Q) h n = W Q h n := by
          rw [W_cons]
          unfold wt
          rw [if_neg (fun z => e (by omega)), Int.zero_add]
        rw [w1]
        constructor
        · rintro (⟨a, _⟩ | ⟨a, _⟩ | ⟨_, a⟩)
          · exact absurd a e
          · exact absurd (a.trans c) e
          · exact .inr ⟨e, a⟩
        · rintro (⟨a, _⟩ | ⟨_, a⟩)
          · exact absurd a e
          · exact .inr (.inr ⟨fun z => e (z.trans c), a⟩)
    · -- a later house
      have lt : hh < t.1 := by omega
      have all : ∀ q ∈ t :: Q, q.1 ≠ hh := fun q hq => by
        rcases List.mem_cons.mp hq with z | z
        · rw [z]; exact c
        · have := s1 q z
          unfold Le at this
          omega
      have m0 : many = 0 := by
        rw [Tot_zero all] at ht
        omega
      subst m0
      have ne : ¬ (least ≤ 0 ∧ begun < t.2.1) := by omega
      rw [if_neg ne]
      have hb' : ∀ q ∈ Q, t.1 < q.1 ∨ (t.1 = q.1 ∧ t.2.1 ≤ q.2.1) := fun q hq => s1 q hq
      have ht' : 0 + t.2.2 + Tot Q t.1 = 0 := by
        have := h0 t.1 c
        rw [Tot_cons] at this
        unfold wtH at this
        rw [if_pos rfl] at this
        omega
      have h0' : ∀ h, h ≠ t.1 → Tot Q h = 0 := fun h hh' => by
        by_cases e : h = hh
        · rw [e]
          exact Tot_zero fun q hq => all q (List.mem_cons_of_mem _ hq)
        · have := h0 h e
          rw [Tot_cons] at this
          unfold wtH at this
          rw [if_neg (fun z => hh' z.symm)] at this
          omega
      have ih := sweep_in hl Q t.1 (0 + t.2.2) t.2.1 s2 hb' ht' h0' h n
      rw [ih]
      have wz : W (t :: Q) hh n = 0 := W_zero fun q hq hq1 => absurd hq1 (all q hq)
      have wz' : W Q hh n = 0 := W_zero fun q hq hq1 => absurd hq1 (all q (List.mem_cons_of_mem _ hq))
      by_cases e : h = t.1
      · subst e
        by_cases l : n < t.2.1
        · have w0 : W (t :: Q) t.1 n = 0 := W_zero fun q hq hq1 => by
            rcases List.mem_cons.mp hq with z | z
            · rw [z]; exact l
            · have := s1 q z
              unfold Le at this
              omega
          rw [w0]
          constructor
          · rintro (z | ⟨_, a, _⟩ | ⟨a, _⟩)
            · exact absurd z in_nil
            · omega
            · exact absurd rfl a
          · rintro (⟨a, _⟩ | ⟨_, a⟩) <;> omega
        · have w1 : W (t :: Q) t.1 n = t.2.2 + W Q t.1 n := by
            rw [W_cons]
            unfold wt
            rw [if_pos ⟨rfl, by omega⟩]
          rw [w1]
          constructor
          · rintro (z | ⟨_, a, b⟩ | ⟨a, _⟩)
            · exact absurd z in_nil
            · exact .inr ⟨c, by omega⟩
            · exact absurd rfl a
          · rintro (⟨a, _⟩ | ⟨_, a⟩)
            · exact absurd a c
            · exact .inr (.inl ⟨rfl, by omega, by omega⟩)
      · have w1 : W (t :: Q) h n = W Q h n := by
          rw [W_cons]
          unfold wt
          rw [if_neg (fun z => e z.1.symm), Int.zero_add]
        rw [w1]
        constructor
        · rintro (z | ⟨a, _⟩ | ⟨_, a⟩)
          · exact absurd z in_nil
          · exact absurd a e
          · by_cases e2 : h = hh
            · rw [e2, wz'] at a
              omega
            · exact .inr ⟨e2, a⟩
        · rintro (⟨a, _, b⟩ | ⟨_, a⟩)
          · rw [wz] at b
            omega
          · exact .inr (.inr ⟨e, a⟩)
/-- the turns of rows -/
def turnsOf (rs : List Row) : List Turn := rs.flatMap fun r => [(r.1, r.2.1, 1), (r.1, r.2.2 + 1, -1)]
theorem W_append {S T : List Turn} {h n : Int} : W (S ++ T) h n = W S h n + W T h n := by simp [W, List.sum_append]
theorem Tot_append {S T : List Turn} {h : Int} : Tot (S ++ T) h = Tot S h + Tot T h := by simp [Tot, List.sum_append]
theorem sum_perm : ∀ {l m : List Int}, l.Perm m → l.sum = m.sum := fun p => by
  induction p with
  | nil => rfl
  | cons x _ ih => simp [ih]
  | swap x y l => simp only [List.sum_cons]; omega
  | trans _ _ h1 h2 => exact h1.trans h2
theorem W_perm {S T : List Turn} (p : S.Perm T) {h n : Int} : W S h n = W T h n := sum_perm (p.map _)
theorem Tot_perm {S T : List Turn} (p : S.Perm T) {h : Int} : Tot S h = Tot T h := sum_perm (p.map _)
theorem turns_tot : ∀ {rs : List Row} {h : Int}, Tot (turnsOf rs) h = 0
  | [], _ => rfl
  | r :: rs, h => by
    show Tot ([(r.1, r.2.1, 1), (r.1, r.2.2 + 1, -1)] ++ turnsOf rs) h = 0
    rw [Tot_append, turns_tot, Tot_cons, Tot_cons]
    unfold wtH
    by_cases c : r.1 = h
    · simp [c, Tot]
    · simp [c, Tot]
open Classical in
/-- one, if it is there -/
noncomputable def one (rs : List Row) (h n : Int) : Int := if In rs h n then 1 else 0
theorem turns_W : ∀ {rs : List Row}, Canon rs → ∀ h n, W (turnsOf rs) h n = one rs h n
  | [], _, h, n => by
    unfold one
    rw [if_neg in_nil]
    rfl
  | r :: rs, c, h, n => by
    obtain ⟨c1, c2, c3⟩ := canon_cons.mp c
    have c1 : r.2.1 ≤ r.2.2 := c1
    show W ([(r.1, r.2.1, 1), (r.1, r.2.2 + 1, -1)] ++ turnsOf rs) h n = _
    rw [W_append, turns_W c3, W_cons, W_cons]
    have e : wt h n (r.1, r.2.1, 1) + (wt h n (r.1, r.2.2 + 1, -1) + W [] h n) = if r.1 = h ∧ r.2.1 ≤ n ∧ n ≤ r.2.2 then 1 else 0 := by
      have w0 : W [] h n = 0 := rfl
      rw [w0]
      unfold wt
      by_cases h1 : r.1 = h
      · by_cases h2 : r.2.1 ≤ n
        · by_cases h3 : n ≤ r.2.2
          · rw [if_pos ⟨h1, h2⟩, if_neg (by show ¬ (r.1 = h ∧ r.2.2 + 1 ≤ n); omega), if_pos ⟨h1, h2, h3⟩]
            rfl
          · rw [if_pos ⟨h1, h2⟩, if_pos (by show r.1 = h ∧ r.2.2 + 1 ≤ n; omega), if_neg (by omega)]
            rfl
        · rw [if_neg (by show ¬ (r.1 = h ∧ r.2.1 ≤ n); omega), if_neg (by show ¬ (r.1 = h ∧ r.2.2 + 1 ≤ n); omega), if_neg (by omega)]
          rfl
      · rw [if_neg (fun z => h1 z.1), if_neg (fun z => h1 z.1), if_neg (fun z => h1 z.1)]
        rfl
    rw [e]
    unfold one
    by_cases z : r.1 = h ∧ r.2.1 ≤ n ∧ n ≤ r.2.2
    · have nz : ¬ In rs h n := fun ⟨q, hq, q1, q2, q3⟩ => by
        rcases c2 q hq with s | ⟨s1, s2⟩ <;> omega
      rw [if_pos z, if_neg nz, if_pos (in_cons.mpr (.inl z))]
      rfl
    · rw [if_neg z]
      by_cases y : In rs h n
      · rw [if_pos y, if_pos (in_cons.mpr (.inr y))]
        rfl
      · rw [if_neg y, if_neg (fun w => (in_cons.mp w).elim z y)]
        rfl
/-- of several sets: in how many it is -/
noncomputable def many (sets : List (List Row)) (h n : Int) : Int := (sets.map fun s => one s h n).sum
def turnsAll (sets : List (List Row)) : List Turn := sets.flatMap turnsOf
theorem all_W : ∀ {sets : List (List Row)}, (∀ s ∈ sets, Canon s) → ∀ h n, W (turnsAll sets) h n = many sets h n
  | [], _, _, _ => rfl
  | s :: sets, c, h, n => by
    show W (turnsOf s ++ turnsAll sets) h n = _
    rw [W_append, turns_W (c s List.mem_cons_self), all_W fun q hq => c q (List.mem_cons_of_mem _ hq)]
    simp [many]
theorem all_tot : ∀ {sets : List (List Row)} {h : Int}, Tot (turnsAll sets) h = 0
  | [], _ => rfl
  | s :: sets, h => by
    show Tot (turnsOf s ++ turnsAll sets) h = 0
    rw [Tot_append, turns_tot, all_tot]
    rfl
theorem low_house : ∀ T : List Turn, ∃ hh : Int, ∀ t ∈ T, hh < t.1
  | [] => ⟨0, fun t h => by simp at h⟩
  | t :: T => by
    obtain ⟨hh, k⟩ := low_house T
    refine ⟨min hh t.1 - 1, fun q hq => ?_⟩
    rcases List.mem_cons.mp hq with z | z
    · rw [z]; omega
    · have := k q z
      omega
theorem sweep_all {least : Int} (hl : 1 ≤ least) {sets : List (List Row)} (c : ∀ s ∈ sets, Canon s) {T : List Turn} (p : T.Perm (turnsAll sets)) (hs : T.Pairwise Le) (h n : Int) : In (sweep least 0 0 T) h n ↔ least ≤ many sets h n := by
  obtain ⟨hh, k⟩ := low_house T
  have tz : ∀ h, Tot T h = 0 := fun h => (Tot_perm p).trans all_tot
  rw [sweep_in hl T hh 0 0 hs (fun t ht => .inl (k t ht)) (by rw [tz]; rfl) (fun h _ => tz h), ← all_W c h n, ← W_perm p]
  constructor
  · rintro (⟨e, _, z⟩ | ⟨_, z⟩)
    · rw [e]
      omega
    · exact z
  · intro z
    by_cases e : h = hh
    · have : W T h n = 0 := W_zero fun t ht h1 => by have := k t ht; omega
      omega
    · exact .inr ⟨e, z⟩
theorem sweep_okr {least : Int} : ∀ {T : List Turn} {m b : Int} {q : Row}, q ∈ sweep least m b T → Ok q
  | [], _, _, q, h => by simp [sweep] at h
  | t :: T, m, b, q, h => by
    unfold sweep at h
    rcases List.mem_append.mp h with z | z
    · split at z
      · have : q = (t.1, b, t.2.1 - 1) := by simpa using z
        rw [this]
        show b ≤ t.2.1 - 1
        omega
      · simp at z
    · exact sweep_okr z
theorem sweep_len {least : Int} : ∀ {T : List Turn} {m b : Int}, (sweep least m b T).length ≤ T.length
  | [], _, _ => Nat.le_refl _
  | t :: T, m, b => by
    unfold sweep
    have := sweep_len (least := least) (T := T) (m := m + t.2.2) (b := t.2.1)
    rw [List.length_append, List.length_cons]
    split
    · simp only [List.length_singleton]; omega
    · simp only [List.length_nil]; omega
end St

/-! ### how many rows; how many numbers; how far -/
namespace St
theorem nodup_len {α : Type} [DecidableEq α] : ∀ {l m : List α}, l.Nodup → (∀ x ∈ l, x ∈ m) → l.length ≤ m.length
  | [], _, _, _ => Nat.zero_le _
  | x :: l, m, hn, h => by
    obtain ⟨h1, h2⟩ := List.nodup_cons.mp hn
    have hx := h x List.mem_cons_self
    have ih := nodup_len (m := m.erase x) h2 fun y hy => (List.mem_erase_of_ne (fun e => h1 (by rw [← e]; exact hy))).mpr (h y (List.mem_cons_of_mem _ hy))
    rw [List.length_erase_of_mem hx] at ih
    have : 0 < m.length := List.length_pos_of_mem hx
    rw [List.length_cons]
    omega
def starts (z : List Row) : List (Int × Int) := z.map fun r => (r.1, r.2.1)
def ends (z : List Row) : List (Int × Int) := z.map fun r => (r.1, r.2.2 + 1)
theorem starts_nodup : ∀ {z : List Row}, Canon z → (starts z).Nodup
  | [], _ => List.nodup_nil
  | r :: z, c => by
    obtain ⟨c1, c2, c3⟩ := canon_cons.mp c
    refine List.nodup_cons.mpr ⟨fun hm => ?_, starts_nodup c3⟩
    obtain ⟨q, hq, e⟩ := List.mem_map.mp hm
    have c1 : r.2.1 ≤ r.2.2 := c1
    have e1 : q.1 = r.1 := congrArg (fun p : Int × Int => p.1) e
    have e2 : q.2.1 = r.2.1 := congrArg (fun p : Int × Int => p.2) e
    rcases c2 q hq with s | ⟨s1, s2⟩ <;> omega
theorem in_row {z : List Row} {r : Row} (hr : r ∈ z) {n : Int} (h1 : r.2.1 ≤ n) (h2 : n ≤ r.2.2) : In z r.1 n := ⟨r, hr, rfl, h1, h2⟩
theorem canon_before : ∀ {z : List Row}, Canon z → ∀ r ∈ z, ¬ In z r.1 (r.2.1 - 1)
  | [], _, r, hr => by simp at hr
  | x :: z, c, r, hr => by
    obtain ⟨c1, c2, c3⟩ := canon_cons.mp c
    have c1 : x.2.1 ≤ x.2.2 := c1
    intro i
    rcases List.mem_cons.mp hr with e | e
    · subst e
      rcases in_cons.mp i with ⟨_, a, _⟩ | ⟨q, hq, a, b, d⟩
      · omega
      · rcases c2 q hq with s | ⟨s1, s2⟩ <;> omega
    · rcases in_cons.mp i with ⟨a, b, d⟩ | i
      · rcases c2 r e with s | ⟨s1, s2⟩ <;> omega
      · exact canon_before c3 r e i
theorem canon_after : ∀ {z : List Row}, Canon z → ∀ r ∈ z, ¬ In z r.1 (r.2.2 + 1)
  | [], _, r, hr => by simp at hr
  | x :: z, c, r, hr => by
    obtain ⟨c1, c2, c3⟩ := canon_cons.mp c
    have c1 : x.2.1 ≤ x.2.2 := c1
    intro i
    rcases List.mem_cons.mp hr with e | e
    · subst e
      exact in_next c i
    · rcases in_cons.mp i with ⟨a, b, d⟩ | i
      · have : r.2.1 ≤ r.2.2 := c3.1 r e
        rcases c2 r e with s | ⟨s1, s2⟩ <;> omega
      · exact canon_after c3 r e i
theorem canon_size {z : List Row} (c : Canon z) {L : List (Int × Int)} (h : ∀ h n, In z h n → ¬ In z h (n - 1) → (h, n) ∈ L) : z.length ≤ L.length := by
  have := nodup_len (m := L) (starts_nodup c) fun x hx => by
    obtain ⟨r, hr, e⟩ := List.mem_map.mp hx
    rw [← e]
    exact h _ _ (in_row hr (Int.le_refl _) (c.1 r hr)) (canon_before c r hr)
  unfold starts at this
  rwa [List.length_map] at this
theorem start_mem {z : List Row} {h n : Int} (i : In z h n) (j : ¬ In z h (n - 1)) : (h, n) ∈ starts z := by
  obtain ⟨r, hr, a, b, d⟩ := i
  by_cases e : r.2.1 = n
  · exact List.mem_map.mpr ⟨r, hr, by rw [a, e]⟩
  · exact absurd ⟨r, hr, a, by omega, by omega⟩ j
theorem end_mem {z : List Row} {h n : Int} (i : In z h (n - 1)) (j : ¬ In z h n) : (h, n) ∈ ends z := by
  obtain ⟨r, hr, a, b, d⟩ := i
  by_cases e : r.2.2 + 1 = n
  · exact List.mem_map.mpr ⟨r, hr, by rw [a, e]⟩
  · exact absurd ⟨r, hr, a, by omega, by omega⟩ j
theorem both_len {xs ys z : List Row} (c : Canon z) (e : ∀ h n, In z h n ↔ In xs h n ∧ In ys h n) : z.length ≤ xs.length + ys.length := by
  have := canon_size c (L := starts xs ++ starts ys) fun h n i j => by
    obtain ⟨i1, i2⟩ := (e h n).mp i
    by_cases k : In xs h (n - 1)
    · exact List.mem_append_right _ (start_mem i2 fun k2 => j ((e _ _).mpr ⟨k, k2⟩))
    · exact List.mem_append_left _ (start_mem i1 k)
  simpa [starts] using this
theorem cut_len {xs ys z : List Row} (c : Canon z) (e : ∀ h n, In z h n ↔ In xs h n ∧ ¬ In ys h n) : z.length ≤ xs.length + ys.length := by
  have := canon_size c (L := starts xs ++ ends ys) fun h n i j => by
    obtain ⟨i1, i2⟩ := (e h n).mp i
    by_cases k : In xs h (n - 1)
    · refine List.mem_append_right _ (end_mem ?_ i2)
      exact Classical.byContradiction fun k2 => j ((e _ _).mpr ⟨k, k2⟩)
    · exact List.mem_append_left _ (start_mem i1 k)
  simpa [starts, ends] using this
/-! amounts -/
def cntR (rs : List Row) : Int := (rs.map fun r => r.2.2 - r.2.1 + 1).sum
/-- the sum of f below N -/
def sumTo (f : Nat → Int) : Nat → Int
  | 0 => 0
  | n + 1 => sumTo f n + f n
theorem sumTo_congr {f g : Nat → Int} : ∀ {N : Nat}, (∀ n, n < N → f n = g n) → sumTo f N = sumTo g N
  | 0, _ => rfl
  | N + 1, h => by
    unfold sumTo
    rw [sumTo_congr fun n hn => h n (by omega), h N (by omega)]
theorem sumTo_add {f g : Nat → Int} : ∀ {N : Nat}, sumTo (fun n => f n + g n) N = sumTo f N + sumTo g N
  | 0 => rfl
  | N + 1 => by
    unfold sumTo
    rw [sumTo_add]
    omega
theorem sumTo_zero : ∀ {N : Nat}, sumTo (fun _ => 0) N = 0
  | 0 => rfl
  | N + 1 => by
    unfold sumTo
    rw [sumTo_zero]
    rfl
theorem sumTo_iv {a b : Int} (h0 : 0 ≤ a) (h : a ≤ b + 1) : ∀ N : Nat, sumTo (fun n => if a ≤ (n : Int) ∧ (n : Int) ≤ b then 1 else 0) N = min (b + 1) N - min a N
  | 0 => by
    unfold sumTo
    omega
  | N + 1 => by
    unfold sumTo
    rw [sumTo_iv h0 h N]
    split <;> omega
theorem sumTo_pt {k : Int} {L : Int} (h0 : 0 ≤ k) : ∀ N : Nat, sumTo (fun n => if k = (n : Int) then L else 0) N = if k < (N : Int) then L else 0
  | 0 => by
    unfold sumTo
    rw [if_neg (by omega)]
  | N + 1 => by
    unfold sumTo
    rw [sumTo_pt h0 N]
    by_cases c : k < (N : Int)
    · rw [if_pos c, if_neg (by omega), if_pos (by omega)]
      omega
    · rw [if_neg c]
      by_cases d : k = (N : Int)
      · rw [if_pos d, if_pos (by omega)]
        omega
      · rw [if_neg d, if_neg (by omega)]
        rfl
/-- over the houses and the numbers -/
def total (f : Int → Int → Int) (H N : Nat) : Int := sumTo (fun h => sumTo (fun n => f h n) N) H
theorem total_add {f g : Int → Int → Int} {H N : Nat} : total (fun h n => f h n + g h n) H N = total f H N + total g H N := by
  unfold total
  rw [← sumTo_add]
  exact sumTo_congr fun h _ => sumTo_add
theorem total_congr {f g : Int → Int → Int} {H N : Nat} (e : ∀ h n, f h n = g h n) : total f H N = total g H N := by
  unfold total
  exact sumTo_congr fun h _ => sumTo_congr fun n _ => e h n
def inR (r : Row) (h n : Int) : Int := if r.1 = h ∧ r.2.1 ≤ n ∧ n ≤ r.2.2 then 1 else 0
theorem total_row {r : Row} {H N : Nat} (h0 : 0 ≤ r.1) (h1 : r.1 < H) (h2 : 0 ≤ r.2.1) (h3 : r.2.1 ≤ r.2.2) (h4 : r.2.2 < N) : total (inR r) H N = r.2.2 - r.2.1 + 1 := by
  unfold total
  have e : ∀ h, h < H → sumTo (fun n => inR r (h : Int) (n : Int)) N = if r.1 = (h : Int) then r.2.2 - r.2.1 + 1 else 0 := fun h _ => by
    by_cases c : r.1 = (h : Int)
    · rw [if_pos c]
      have : ∀ n, n < N → inR r (h : Int) (n : Int) = if r.2.1 ≤ (n : Int) ∧ (n : Int) ≤ r.2.2 then 1 else 0 := fun n _ => by
        unfold inR
        by_cases d : r.2.1 ≤ (n : Int) ∧ (n : Int) ≤ r.2.2
        · rw [if_pos ⟨c, d⟩, if_pos d]
        · rw [if_neg (fun z => d z.2), if_neg d]
      rw [sumTo_congr this, sumTo_iv h2 (by omega)]
      omega
    · rw [if_neg c]
      have : ∀ n, n < N → inR r (h : Int) (n : Int) = 0 := fun n _ => by
        unfold inR
        rw [if_neg (fun z => c z.1)]
      rw [sumTo_congr this]
      exact sumTo_zero
  rw [sumTo_congr e, sumTo_pt h0, if_pos h1]
theorem one_cons {r : Row} {rs : List Row} (c : Canon (r :: rs)) (h n : Int) : one (r :: rs) h n = inR r h n + one rs h n := by
  obtain ⟨c1, c2, c3⟩ := canon_cons.mp c
  have c1 : r.2.1 ≤ r.2.2 := c1
  unfold one inR
  by_cases z : r.1 = h ∧ r.2.1 ≤ n ∧ n ≤ r.2.2
  · have nz : ¬ In rs h n := fun ⟨q, hq, q1, q2, q3⟩ => by
      rcases c2 q hq with s | ⟨s1, s2⟩ <;> omega
    rw [if_pos z, if_neg nz, if_pos (in_cons.mpr (.inl z))]
    rfl
  · rw [if_neg z]
    by_cases y : In rs h n
    · rw [if_pos y, if_pos (in_cons.mpr (.inr y))]
      rfl
    · rw [if_neg y, if_neg (fun w => (in_cons.mp w).elim z y)]
      rfl
theorem cnt_total {H N : Nat} : ∀ {z : List Row}, Canon z → (∀ h n, In z h n → 0 ≤ h ∧ h < H ∧ 0 ≤ n ∧ n < N) → cntR z = total (one z) H N
  | [], _, _ => by
    have : ∀ h n, one [] h n = 0 := fun h n => by
      unfold one
      rw [if_neg in_nil]
    rw [total_congr this]
    unfold total
    have e : ∀ h, h < H → sumTo (fun _ => (0 : Int)) N = 0 := fun _ _ => sumTo_zero
    rw [sumTo_congr e, sumTo_zero]
    rfl
  | r :: z, c, hb => by
    obtain ⟨c1, c2, c3⟩ := canon_cons.mp c
    have c1 : r.2.1 ≤ r.2.2 := c1
    have b1 := hb r.1 r.2.1 (in_cons.mpr (.inl ⟨rfl, Int.le_refl _, c1⟩))
    have b2 := hb r.1 r.2.2 (in_cons.mpr (.inl ⟨rfl, c1, Int.le_refl _⟩))
    rw [total_congr (one_cons c), total_add, ← cnt_total c3 fun h n i => hb h n (in_cons.mpr (.inr i)), total_row b1.1 b1.2.1 b1.2.2.1 c1 b2.2.2.2]
    simp [cntR]
open Classical in
theorem one_or {x y j b : List Row} {h n : Int} (e1 : In j h n ↔ In x h n ∨ In y h n) (e2 : In b h n ↔ In x h n ∧ In y h n) : one x h n + one y h n = one j h n + one b h n := by
  unfold one
  by_cases p : In x h n <;> by_cases q : In y h n <;> simp [e1, e2, p, q]
open Classical in
theorem one_less {x y l b : List Row} {h n : Int} (e1 : In l h n ↔ In x h n ∧ ¬ In y h n) (e2 : In b h n ↔ In x h n ∧ In y h n) : one l h n + one b h n = one x h n := by
  unfold one
  by_cases p : In x h n <;> by_cases q : In y h n <;> simp [e1, e2, p, q]
/-- from 1 on, how far -/
def reachR : List Row → Int → Int
  | [], _ => 0
  | r :: rs, h => if r.1 = h ∧ r.2.1 = 1 then r.2.2 else reachR rs h
theorem reach_cases : ∀ (z : List Row) (h : Int), (∃ r ∈ z, r.1 = h ∧ r.2.1 = 1 ∧ reachR z h = r.2.2) ∨ (reachR z h = 0 ∧ ∀ r ∈ z, r.1 = h → r.2.1 ≠ 1)
  | [], h => .inr ⟨rfl, fun r hr => by simp at hr⟩
  | x :: z, h => by
    unfold reachR
    split
    · next c => exact .inl ⟨x, List.mem_cons_self, c.1, c.2, rfl⟩
    · next c =>
      rcases reach_cases z h with ⟨r, hr, a, b, d⟩ | ⟨a, b⟩
      · exact .inl ⟨r, List.mem_cons_of_mem _ hr, a, b, d⟩
      · refine .inr ⟨a, fun r hr e => ?_⟩
        rcases List.mem_cons.mp hr with k | k
        · subst k
          exact fun e2 => c ⟨e, e2⟩
        · exact b r k e
theorem reach_spec {z : List Row} (c : Canon z) (hp : ∀ h n, In z h n → 1 ≤ n) (h : Int) : 0 ≤ reachR z h ∧ (∀ n, 1 ≤ n → n ≤ reachR z h → In z h n) ∧ ¬ In z h (reachR z h + 1) := by
  rcases reach_cases z h with ⟨r, hr, a, b, d⟩ | ⟨a, b⟩
  · have o : r.2.1 ≤ r.2.2 := c.1 r hr
    rw [d]
    exact ⟨by omega, fun n h1 h2 => ⟨r, hr, a, by omega, h2⟩, a ▸ canon_after c r hr⟩
  · rw [a]
    refine ⟨Int.le_refl _, fun n h1 h2 => by omega, fun ⟨r, hr, e1, e2, e3⟩ => ?_⟩
    have := hp r.1 r.2.1 (in_row hr (Int.le_refl _) (c.1 r hr))
    exact b r hr e1 (by omega)
/-- the last of each house -/
theorem many3_1 {a b c : List Row} {h n : Int} : 1 ≤ many [a, b, c] h n ↔ In a h n ∨ In b h n ∨ In c h n := by
  unfold many one
  by_cases p : In a h n <;> by_cases q : In b h n <;> by_cases r : In c h n <;> simp [p, q, r]
theorem many3_2 {a b c : List Row} {h n : Int} : 2 ≤ many [a, b, c] h n ↔ (In a h n ∧ In b h n) ∨ (In a h n ∧ In c h n) ∨ (In b h n ∧ In c h n) := by
  unfold many one
  by_cases p : In a h n <;> by_cases q : In b h n <;> by_cases r : In c h n <;> simp [p, q, r]
theorem many3_3 {a b c : List Row} {h n : Int} : 3 ≤ many [a, b, c] h n ↔ In a h n ∧ In b h n ∧ In c h n := by
  unfold many one
  by_cases p : In a h n <;> by_cases q : In b h n <;> by_cases r : In c h n <;> simp [p, q, r]
end St

/-! ### rows: what is refused, merged -/
namespace Law
open PySem L2 DL
abbrev rsD (rs : List Row) : D := .lst (rs.map rowD)
def Good (r : Row) : Prop := 0 ≤ r.1 ∧ r.1 < 8 ∧ 1 ≤ r.2.1 ∧ r.2.1 ≤ r.2.2 ∧ r.2.2 ≤ 1000000000000
theorem is_row_ok {r : Row} {μ : Store} (g : Good r) : m_is_row [rowD r] μ = .ok (.sh (.bl true)) μ := by
  obtain ⟨h, a, b⟩ := r
  obtain ⟨g1, g2, g3, g4, g5⟩ := g
  simp only at g1 g2 g3 g4 g5
  simp [m_is_row, b_is_row, g1, g2, g3, g4, g5]
def merged (rs : List Row) : List Row := St.mergeS (sortR rs)
theorem fNe_snoc_nil (rs : List Row) (r : Row) : fNe (.ob (.lst (rs.map rowD ++ [rowD r]))) (.ob (.lst [])) = some (.sh (.bl true)) := by
  have : rs.map rowD ++ [rowD r] = (rs ++ [r]).map rowD := by rw [List.map_append]; rfl
  rw [this, fNe_rows_nil]
  simp
theorem merged_turn {s0 : Sl} {rs : List Row} {l r : Row} {μ : Store} (hl : rs.length + 1 < 16777216) : b_merged_1 [s0, .own (.lst (rs.map rowD ++ [rowD l])), .sh (.int r.1), .sh (.int r.2.1), .sh (.int r.2.2)] μ =
    if l.1 = r.1 ∧ r.2.1 ≤ l.2.2 + 1 then .ok (.nx, [s0, .own (.lst (rs.map rowD ++ [rowD (l.1, l.2.1, max l.2.2 r.2.2)])), .sh (.int r.1), .sh (.int r.2.1), .sh (.int r.2.2)]) μ
    else .ok (.nx, [s0, .own (.lst (rs.map rowD ++ [rowD l] ++ [rowD r])), .sh (.int r.1), .sh (.int r.2.1), .sh (.int r.2.2)]) μ := by
  obtain ⟨lh, la, lb⟩ := l
  obtain ⟨h, a, b⟩ := r
  have e0 := fNe_snoc_nil rs (lh, la, lb)
  simp only [rowD_mk] at e0 ⊢
  by_cases c1 : lh = h
  · subst c1
    by_cases c2 : a ≤ lb + 1
    · simp [b_merged_1, e0, c2]
    · simp [b_merged_1, e0, c2, hl]
  · simp [b_merged_1, e0, c1, hl]
theorem merged_loop : ∀ (qs : List Row) (rs : List Row) (l : Row) (s0 s2 s3 s4 : Sl) (μ : Store), rs.length + qs.length + 1 < 16777216 → ∃ t2 t3 t4, forL (gT [2, 3, 4]) b_merged_1 (qs.map rowD) [s0, .own (.lst (rs.map rowD ++ [rowD l])), s2, s3, s4] μ = .ok (.nx, [s0, .own (.lst ((rs ++ St.mergeR l qs).map rowD)), t2, t3, t4]) μ
  | [], rs, l, s0, s2, s3, s4, μ, _ => ⟨s2, s3, s4, by simp [forL, St.mergeR]⟩
  | q :: qs, rs, l, s0, s2, s3, s4, μ, hl => by
    simp only [List.length_cons] at hl
    rw [List.map_cons, forL]
    have e : gT [2, 3, 4] (rowD q) [s0, .own (.lst (rs.map rowD ++ [rowD l])), s2, s3, s4] = some [s0, .own (.lst (rs.map rowD ++ [rowD l])), .sh (.int q.1), .sh (.int q.2.1), .sh (.int q.2.2)] := rfl
    rw [e]
    dsimp only
    rw [merged_turn (by omega), St.mergeR]
    split
    · rw [loopR_nx]
      exact merged_loop qs rs _ s0 _ _ _ μ (by omega)
    · rw [loopR_nx]
      obtain ⟨t2, t3, t4, h⟩ := merged_loop qs (rs ++ [l]) q s0 (.sh (.int q.1)) (.sh (.int q.2.1)) (.sh (.int q.2.2)) μ (by simp only [List.length_append, List.length_singleton]; omega)
      rw [List.map_append] at h
      refine ⟨t2, t3, t4, h.trans ?_⟩
      rw [List.append_assoc]
      rfl
theorem sortR_len : ∀ rs : List Row, (sortR rs).length = rs.length
  | [] => rfl
  | r :: rs => by
    have : ∀ (x : Row) (l : List Row), (insR x l).length = l.length + 1 := fun x l => by
      induction l with
      | nil => rfl
      | cons y ys ih =>
        unfold insR
        split
        · rw [List.length_cons, ih, List.length_cons]
        · rfl
    show (insR r (sortR rs)).length = _
    rw [this, sortR_len rs, List.length_cons]
theorem merged_gen {x : D} {w : Vw} {rs : List Row} {μ : Store} (hv : x.vw μ = some w) (hs : fSrtB [w] = some (.own (.lst ((sortR rs).map rowD)))) (hl : rs.length < 16777215) : m_merged [x] μ = .ok (.own (.lst ((merged rs).map rowD))) μ := by
  have h : ∃ t2 t3 t4, forL (gT [2, 3, 4]) b_merged_1 ((sortR rs).map rowD) [.sh x, .own (.lst []), .no, .no, .no] μ = .ok (.nx, [.sh x, .own (.lst ((merged rs).map rowD)), t2, t3, t4]) μ := by
    unfold merged
    have sl := sortR_len rs
    cases hq : sortR rs with
    | nil => exact ⟨.no, .no, .no, rfl⟩
    | cons q qs =>
      rw [hq] at sl
      simp only [List.length_cons] at sl
      obtain ⟨t2, t3, t4, h⟩ := merged_loop qs [] q (.sh x) (.sh (.int q.1)) (.sh (.int q.2.1)) (.sh (.int q.2.2)) μ (by simp only [List.length_nil]; omega)
      refine ⟨t2, t3, t4, ?_⟩
      refine Eq.trans ?_ h
      rw [List.map_cons, forL]
      have e : gT [2, 3, 4] (rowD q) [.sh x, .own (.lst []), .no, .no, .no] = some [.sh x, .own (.lst []), .sh (.int q.1), .sh (.int q.2.1), .sh (.int q.2.2)] := rfl
      rw [e]
      have e0 : fNe (.ob (.lst [])) (.ob (.lst [])) = some (.sh (.bl false)) := fNe_rows [] []
      obtain ⟨qh, qa, qb⟩ := q
      simp [b_merged_1, e0]
  obtain ⟨t2, t3, t4, h⟩ := h
  simp [m_merged, b_merged, hv, hs, h, List.replicate]
theorem merged_ok {rs : List Row} {μ : Store} (hl : rs.length < 16777215) : m_merged [rsD rs] μ = .ok (.own (.lst ((merged rs).map rowD))) μ := merged_gen rfl (fSorted_rows rs) hl
theorem merged_ok_t {rs : List Row} {μ : Store} (hl : rs.length < 16777215) : m_merged [.tup (rs.map rowD)] μ = .ok (.own (.lst ((merged rs).map rowD))) μ := merged_gen rfl (fSrtB_rows rs) hl
end Law

/-! ### the sets' defs as sets -/
namespace Law
open PySem L2 DL
theorem insR_perm (x : Row) : ∀ l : List Row, (insR x l).Perm (x :: l)
  | [] => List.Perm.refl _
  | y :: ys => by
    unfold insR
    split
    · exact ((insR_perm x ys).cons y).trans (List.Perm.swap x y ys)
    · exact List.Perm.refl _
theorem sortR_perm : ∀ l : List Row, (sortR l).Perm l
  | [] => List.Perm.refl _
  | x :: xs => (insR_perm x (sortR xs)).trans ((sortR_perm xs).cons x)
theorem rowLt_t {y x : Row} (h : rowLt y x = true) : St.Le y x := by
  obtain ⟨a, b, c⟩ := y
  obtain ⟨a', b', c'⟩ := x
  have h : (if a = a' then (if b = b' then (if c = c' then false else decide (c < c')) else decide (b < b')) else decide (a < a')) = true := h
  unfold St.Le
  show a < a' ∨ (a = a' ∧ b ≤ b')
  split at h
  · split at h
    · omega
    · have := of_decide_eq_true h
      omega
  · have := of_decide_eq_true h
    omega
theorem rowLt_f {y x : Row} (h : ¬ rowLt y x = true) : St.Le x y := by
  obtain ⟨a, b, c⟩ := y
  obtain ⟨a', b', c'⟩ := x
  have h : ¬ (if a = a' then (if b = b' then (if c = c' then false else decide (c < c')) else decide (b < b')) else decide (a < a')) = true := h
  unfold St.Le
  show a' < a ∨ (a' = a ∧ b' ≤ b)
  split at h
  · split at h
    · omega
    · have : ¬ b < b' := fun z => h (decide_eq_true z)
      omega
  · have : ¬ a < a' := fun z => h (decide_eq_true z)
    omega
theorem le_trans {a b c : Row} (h1 : St.Le a b) (h2 : St.Le b c) : St.Le a c := by
  unfold St.Le at *
  omega
theorem insR_sorted {x : Row} : ∀ {l : List Row}, l.Pairwise St.Le → (insR x l).Pairwise St.Le
  | [], _ => List.pairwise_singleton _ _
  | y :: ys, h => by
    obtain ⟨h1, h2⟩ := List.pairwise_cons.mp h
    unfold insR
    split
    · next c =>
      refine List.pairwise_cons.mpr ⟨fun q hq => ?_, insR_sorted h2⟩
      rcases List.mem_cons.mp ((insR_perm x ys).mem_iff.mp hq) with e | e
      · rw [e]; exact rowLt_t c
      · exact h1 q e
    · next c =>
      refine List.pairwise_cons.mpr ⟨fun q hq => ?_, h⟩
      rcases List.mem_cons.mp hq with e | e
      · rw [e]; exact rowLt_f c
      · exact le_trans (rowLt_f c) (h1 q e)
theorem sortR_sorted : ∀ l : List Row, (sortR l).Pairwise St.Le
  | [] => List.Pairwise.nil
  | _ :: xs => insR_sorted (sortR_sorted xs)
theorem merged_spec {rs : List Row} (h : ∀ r ∈ rs, St.Ok r) : St.Canon (merged rs) ∧ ∀ a n, St.In (merged rs) a n ↔ St.In rs a n := by
  obtain ⟨a, b⟩ := St.mergeS_ok (fun r hr => h r ((sortR_perm rs).mem_iff.mp hr)) (sortR_sorted rs)
  exact ⟨a, fun k n => (b k n).trans (St.in_perm (sortR_perm rs))⟩
theorem merged_len (rs : List Row) : (merged rs).length ≤ rs.length := by
  unfold merged
  have := sortR_len rs
  cases e : sortR rs with
  | nil => exact Nat.zero_le _
  | cons q qs =>
    rw [e] at this
    show (St.mergeR q qs).length ≤ _
    have l := St.mergeR_len qs q
    simp only [List.length_cons] at this
    omega
theorem Good.ok {r : Row} (g : Good r) : St.Ok r := g.2.2.2.1
/-- rows that plain takes, at most k -/
structure Fit (k : Nat) (rs : List Row) : Prop where
  good : ∀ r ∈ rs, Good r
  len : rs.length ≤ k
theorem Fit.mono {k l : Nat} {rs : List Row} (f : Fit k rs) (h : k ≤ l) : Fit l rs := ⟨f.good, Nat.le_trans f.len h⟩
theorem Fit.box {k : Nat} {rs : List Row} (f : Fit k rs) {h n : Int} (i : St.In rs h n) : 0 ≤ h ∧ h < 8 ∧ 1 ≤ n ∧ n ≤ 1000000000000 := by
  obtain ⟨r, hr, a, b, c⟩ := i
  have g := f.good r hr
  unfold Good at g
  omega
theorem fit_of {k : Nat} {z : List Row} (c : St.Canon z) (hb : ∀ h n, St.In z h n → 0 ≤ h ∧ h < 8 ∧ 1 ≤ n ∧ n ≤ 1000000000000) (hl : z.length ≤ k) : Fit k z := by
  refine ⟨fun r hr => ?_, hl⟩
  have o : r.2.1 ≤ r.2.2 := c.1 r hr
  have b1 := hb _ _ (St.in_row hr (Int.le_refl _) o)
  have b2 := hb _ _ (St.in_row hr o (Int.le_refl _))
  exact ⟨b1.1, b1.2.1, b1.2.2.1, o, b2.2.2.2⟩
/-- canonical and fitting: what a def gives back -/
structure Set (k : Nat) (z : List Row) : Prop where
  can : St.Canon z
  fit : Fit k z
theorem merged_set {k : Nat} {rs : List Row} (f : Fit k rs) : Set k (merged rs) := by
  obtain ⟨a, b⟩ := merged_spec fun r hr => (f.good r hr).ok
  exact ⟨a, fit_of a (fun h n i => f.box ((b h n).mp i)) (Nat.le_trans (merged_len rs) f.len)⟩
theorem merged_in {k : Nat} {rs : List Row} (f : Fit k rs) (h n : Int) : St.In (merged rs) h n ↔ St.In rs h n := (merged_spec fun r hr => (f.good r hr).ok).2 h n
theorem merged_id {z : List Row} (c : St.Canon z) : merged z = z := by
  obtain ⟨a, b⟩ := merged_spec c.1
  exact St.canon_ext a c b
def joinR (a b : List Row) : List Row := merged (merged a ++ merged b)
def bothR (a b : List Row) : List Row := St.inBoth (merged a) (merged b)
def lessR (a b : List Row) : List Row := St.cutOut (merged a) (merged b)
section
variable {k l : Nat} {a b : List Row}
theorem Fit.app (fa : Fit k a) (fb : Fit l b) : Fit (k + l) (a ++ b) := ⟨fun r hr => (List.mem_append.mp hr).elim (fa.good r) (fb.good r), by rw [List.length_append]; have := fa.len; have := fb.len; omega⟩
theorem join_set (fa : Fit k a) (fb : Fit l b) : Set (k + l) (joinR a b) := merged_set ((merged_set fa).fit.app (merged_set fb).fit)
theorem join_in (fa : Fit k a) (fb : Fit l b) (h n : Int) : St.In (joinR a b) h n ↔ St.In a h n ∨ St.In b h n := by
  unfold joinR
  rw [merged_in ((merged_set fa).fit.app (merged_set fb).fit), St.in_append, merged_in fa, merged_in fb]
theorem both_in (fa : Fit k a) (fb : Fit l b) (h n : Int) : St.In (bothR a b) h n ↔ St.In a h n ∧ St.In b h n := by
  unfold bothR
  rw [(St.inBoth_ok (merged_set fa).can (merged_set fb).can).2, merged_in fa, merged_in fb]
theorem both_set (fa : Fit k a) (fb : Fit l b) : Set (k + l) (bothR a b) := by
  have c := (St.inBoth_ok (merged_set fa).can (merged_set fb).can)
  refine ⟨c.1, fit_of c.1 (fun h n i => fa.box ((both_in fa fb h n).mp i).1) ?_⟩
  have := St.both_len c.1 c.2
  have := (merged_set fa).fit.len
  have := (merged_set fb).fit.len
  unfold bothR
  omega
theorem less_in (fa : Fit k a) (fb : Fit l b) (h n : Int) : St.In (lessR a b) h n ↔ St.In a h n ∧ ¬ St.In b h n := by
  unfold lessR
  rw [(St.cutOut_ok (merged_set fa).can (merged_set fb).can).2, merged_in fa, merged_in fb]
theorem less_set (fa : Fit k a) (fb : Fit l b) : Set (k + l) (lessR a b) := by
  have c := (St.cutOut_ok (merged_set fa).can (merged_set fb).can)
  refine ⟨c.1, fit_of c.1 (fun h n i => fa.box ((less_in fa fb h n).mp i).1) ?_⟩
  have := St.cut_len c.1 c.2
  have := (merged_set fa).fit.len
  have := (merged_set fb).fit.len
  unfold lessR
  omega
theorem small_mul {x y : Nat} (hx : x ≤ 200) (hy : y ≤ 200) : x * (y + 1) < 16777216 :=
  Nat.lt_of_le_of_lt (Nat.mul_le_mul hx (Nat.add_le_add_right hy 1)) (by decide)
end
theorem nil_of {z : List Row} (c : St.Canon z) (h : ∀ a n, ¬ St.In z a n) : z = [] := St.canon_ext c St.canon_nil fun a n => ⟨fun i => absurd i (h a n), fun i => absurd i St.in_nil⟩
end Law

/-! ### need_rows -/
namespace Law
open PySem L2 DL
theorem need_loop : ∀ (rs : List Row) (k : Nat) (ρ : Ev) (μ : Store), ρ.length = 3 → k + rs.length ≤ 200 → (∀ r ∈ rs, Good r) → ∃ ρ', forL (gT [1, 2]) b_need_rows_1 (((rs.map rowD).zipIdx k).map fun p => .tup [.int (p.2 : Nat), p.1]) ρ μ = .ok (.nx, ρ') μ
  | [], k, ρ, μ, _, _, _ => ⟨ρ, rfl⟩
  | r :: rs, k, ρ, μ, hl, hk, hg => by
    obtain ⟨s0, s1, s2, rfl⟩ : ∃ a b c, ρ = [a, b, c] := by
      match ρ, hl with
      | [a, b, c], _ => exact ⟨a, b, c, rfl⟩
    obtain ⟨ρ', h⟩ := need_loop rs (k + 1) [s0, .sh (.int (k : Nat)), .sh (rowD r)] μ rfl (by simp only [List.length_cons] at hk; omega) fun q hq => hg q (List.mem_cons_of_mem _ hq)
    refine ⟨ρ', ?_⟩
    have ir := is_row_ok (μ := μ) (hg r List.mem_cons_self)
    have : (k : Int) < 200 := by simp only [List.length_cons] at hk; omega
    have nk : ¬ (200 : Int) ≤ k := by omega
    rw [List.map_cons, List.zipIdx_cons, List.map_cons, forL, ← h]
    simp [b_need_rows_1, ir, nk]
theorem need_rows_ok {rs : List Row} {μ : Store} (hg : ∀ r ∈ rs, Good r) (hl : rs.length ≤ 200) : m_need_rows [rsD rs] μ = .ok (.sh .non) μ := by
  obtain ⟨ρ', h⟩ := need_loop rs 0 [.sh (rsD rs), .no, .no] μ rfl (by omega) hg
  have h : forL (gT [1, 2]) b_need_rows_1 (enumD (rs.map rowD)) [.sh (rsD rs), .no, .no] μ = _ := h
  simp [m_need_rows, b_need_rows, h, List.replicate]
end Law

/-! ### plain of stretches -/
namespace Law
open PySem L2 DL
section
variable {k l : Nat} {a b : List Row} {μ : Store}
theorem plain_m (fa : Fit k a) (hk : k ≤ 200) : m_plain [rsD a] μ = .ok (.own (.lst ((merged a).map rowD))) μ := by
  have h1 := fa.len
  have nr := need_rows_ok (μ := μ) fa.good (by omega)
  have mg := merged_ok (rs := a) (μ := μ) (by omega)
  simp [m_plain, b_plain, List.replicate, nr, mg]
end
end Law

namespace Law
open PySem L2 DL
theorem snoc_rows (acc : List Row) (h a b : Int) : acc.map rowD ++ [.tup [.int h, .int a, .int b]] = (acc ++ [(h, a, b)]).map rowD := by rw [List.map_append]; rfl
end Law

/-! ### cut_out, in_both and the rest of the sets -/
namespace Law
open PySem L2 DL
theorem cut_loop (h last : Int) : ∀ (os : List Row) (acc : List Row) (first : Int) (s0 s1 s6 s7 s8 : Sl) (μ : Store), acc.length + os.length < 16777216 →
    ∃ acc' first' t6 t7 t8, forL (gT [6, 7, 8]) b_cut_out_1 (os.map rowD) [s0, s1, .own (.lst (acc.map rowD)), .sh (.int h), .sh (.int first), .sh (.int last), s6, s7, s8] μ = .ok (.nx, [s0, s1, .own (.lst (acc'.map rowD)), .sh (.int h), .sh (.int first'), .sh (.int last), t6, t7, t8]) μ ∧
      acc' ++ (if first' ≤ last then [(h, first', last)] else []) = acc ++ St.cutL h last first os ∧ acc'.length ≤ acc.length + os.length
  | [], acc, first, s0, s1, s6, s7, s8, μ, _ => ⟨acc, first, s6, s7, s8, rfl, by rw [St.cutL], Nat.le_refl _⟩
  | o :: os, acc, first, s0, s1, s6, s7, s8, μ, hl => by
    obtain ⟨oh, oa, ob⟩ := o
    simp only [List.length_cons] at hl
    rw [List.map_cons, forL, St.cutL]
    have hl' : acc.length < 16777216 := by omega
    by_cases c : oh = h ∧ oa ≤ last ∧ first ≤ ob
    · obtain ⟨c1, c2, c3⟩ := c
      subst c1
      rw [if_pos ⟨rfl, c2, c3⟩]
      by_cases c4 : first < oa
      · obtain ⟨acc', first', t6, t7, t8, i1, i2, i3⟩ := cut_loop oh last os (acc ++ [(oh, first, oa - 1)]) (ob + 1) s0 s1 (.sh (.int oh)) (.sh (.int oa)) (.sh (.int ob)) μ (by simp only [List.length_append, List.length_singleton]; omega)
        refine ⟨acc', first', t6, t7, t8, ?_, ?_, ?_⟩
        · rw [← i1, ← snoc_rows]
          simp [b_cut_out_1, c2, c3, c4, hl']
        · rw [i2, if_pos c4, List.append_assoc]
        · simp only [List.length_append, List.length_cons, List.length_nil] at i3 ⊢
          omega
      · obtain ⟨acc', first', t6, t7, t8, i1, i2, i3⟩ := cut_loop oh last os acc (ob + 1) s0 s1 (.sh (.int oh)) (.sh (.int oa)) (.sh (.int ob)) μ (by omega)
        refine ⟨acc', first', t6, t7, t8, ?_, ?_, ?_⟩
        · rw [← i1]
          simp [b_cut_out_1, c2, c3, c4]
        · rw [i2, if_neg c4]
          rfl
        · simp only [List.length_cons]
          omega
    · rw [if_neg c]
      obtain ⟨acc', first', t6, t7, t8, i1, i2, i3⟩ := cut_loop h last os acc first s0 s1 (.sh (.int oh)) (.sh (.int oa)) (.sh (.int ob)) μ (by omega)
      refine ⟨acc', first', t6, t7, t8, ?_, i2, by simp only [List.length_cons]; omega⟩
      rw [← i1]
      by_cases c1 : oh = h
      · by_cases c2 : oa ≤ last
        · have c3 : ¬ first ≤ ob := fun z => c ⟨c1, c2, z⟩
          simp [b_cut_out_1, c1, c2, c3]
        · simp [b_cut_out_1, c1, c2]
      · simp [b_cut_out_1, c1]
theorem cut_outer (ys : List Row) : ∀ (xs : List Row) (acc : List Row) (s0 s3 s4 s5 s6 s7 s8 : Sl) (μ : Store), acc.length + xs.length * (ys.length + 1) < 16777216 →
    ∃ t3 t4 t5 t6 t7 t8, forL (gT [3, 4, 5]) b_cut_out_2 (xs.map rowD) [s0, .sh (rsD ys), .own (.lst (acc.map rowD)), s3, s4, s5, s6, s7, s8] μ = .ok (.nx, [s0, .sh (rsD ys), .own (.lst ((acc ++ St.cutOut xs ys).map rowD)), t3, t4, t5, t6, t7, t8]) μ
  | [], acc, s0, s3, s4, s5, s6, s7, s8, μ, _ => ⟨s3, s4, s5, s6, s7, s8, by simp [forL, St.cutOut]⟩
  | x :: xs, acc, s0, s3, s4, s5, s6, s7, s8, μ, hl => by
    obtain ⟨h, first, last⟩ := x
    simp only [List.length_cons] at hl
    have hm : (xs.length + 1) * (ys.length + 1) = xs.length * (ys.length + 1) + (ys.length + 1) := by rw [Nat.add_mul, Nat.one_mul]
    rw [hm] at hl
    obtain ⟨acc', first', t6, t7, t8, i1, i2, i3⟩ := cut_loop h last ys acc first s0 (.sh (rsD ys)) s6 s7 s8 μ (by omega)
    have e : St.cutOut ((h, first, last) :: xs) ys = St.cutL h last first ys ++ St.cutOut xs ys := rfl
    rw [List.map_cons, forL, e, ← List.append_assoc, ← i2]
    have hl' : acc'.length < 16777216 := by omega
    by_cases c : first' ≤ last
    · obtain ⟨u3, u4, u5, u6, u7, u8, j⟩ := cut_outer ys xs (acc' ++ [(h, first', last)]) s0 (.sh (.int h)) (.sh (.int first')) (.sh (.int last)) t6 t7 t8 μ (by simp only [List.length_append, List.length_singleton]; omega)
      refine ⟨u3, u4, u5, u6, u7, u8, ?_⟩
      rw [if_pos c, ← j, ← snoc_rows]
      simp [b_cut_out_2, i1, c, hl']
    · obtain ⟨u3, u4, u5, u6, u7, u8, j⟩ := cut_outer ys xs acc' s0 (.sh (.int h)) (.sh (.int first')) (.sh (.int last)) t6 t7 t8 μ (by omega)
      refine ⟨u3, u4, u5, u6, u7, u8, ?_⟩
      rw [if_neg c, List.append_nil, ← j]
      simp [b_cut_out_2, i1, c]
theorem cut_out_ok {xs ys : List Row} {μ : Store} (hl : xs.length * (ys.length + 1) < 16777216) : m_cut_out [rsD xs, rsD ys] μ = .ok (.own (.lst ((St.cutOut xs ys).map rowD))) μ := by
  obtain ⟨t3, t4, t5, t6, t7, t8, h⟩ := cut_outer ys xs [] (.sh (rsD xs)) .no .no .no .no .no .no μ (by simpa using hl)
  simp only [List.map_nil, List.nil_append] at h
  simp [m_cut_out, b_cut_out, h, List.replicate]
end Law

/-! ### plain, joined, less of stretches -/
namespace Law
open PySem L2 DL
section
variable {k l : Nat} {a b : List Row} {μ : Store}
theorem joined_m (fa : Fit k a) (fb : Fit l b) (hk : k ≤ 200) (hl : l ≤ 200) : m_joined [rsD a, rsD b] μ = .ok (.own (.lst ((joinR a b).map rowD))) μ := by
  have ha := merged_len a
  have hb := merged_len b
  have h1 := fa.len
  have h2 := fb.len
  have hm := merged_ok (rs := merged a ++ merged b) (μ := μ) (by rw [List.length_append]; omega)
  rw [rsD, List.map_append] at hm
  have hs : (merged a).length + (merged b).length ≤ 16777216 := by omega
  simp [m_joined, b_joined, plain_m (μ := μ) fa hk, plain_m (μ := μ) fb hl, hs, hm, joinR]
theorem less_m (fa : Fit k a) (fb : Fit l b) (hk : k ≤ 200) (hl : l ≤ 200) : m_less [rsD a, rsD b] μ = .ok (.own (.lst ((lessR a b).map rowD))) μ := by
  have ha := (merged_set fa).fit.len
  have hb := (merged_set fb).fit.len
  have hm := cut_out_ok (xs := merged a) (ys := merged b) (μ := μ) (small_mul (by omega) (by omega))
  simp [m_less, b_less, plain_m (μ := μ) fa hk, plain_m (μ := μ) fb hl, hm, lessR]
end
end Law

/-! ### in_both -/
namespace Law
open PySem L2 DL
theorem both_loop (h first last : Int) : ∀ (os : List Row) (acc : List Row) (s0 s1 s6 s7 s8 : Sl) (μ : Store), acc.length + os.length < 16777216 →
    ∃ t6 t7 t8, forL (gT [6, 7, 8]) b_in_both_1 (os.map rowD) [s0, s1, .own (.lst (acc.map rowD)), .sh (.int h), .sh (.int first), .sh (.int last), s6, s7, s8] μ = .ok (.nx, [s0, s1, .own (.lst ((acc ++ St.bothL (h, first, last) os).map rowD)), .sh (.int h), .sh (.int first), .sh (.int last), t6, t7, t8]) μ ∧
      (St.bothL (h, first, last) os).length ≤ os.length
  | [], acc, s0, s1, s6, s7, s8, μ, _ => ⟨s6, s7, s8, by simp [forL, St.bothL], Nat.le_refl _⟩
  | o :: os, acc, s0, s1, s6, s7, s8, μ, hl => by
    obtain ⟨oh, oa, ob⟩ := o
    simp only [List.length_cons] at hl
    rw [List.map_cons, forL]
    have hl' : acc.length < 16777216 := by omega
    have e : St.bothL (h, first, last) ((oh, oa, ob) :: os) = (if oh = h ∧ max first oa ≤ min last ob then [(h, max first oa, min last ob)] else []) ++ St.bothL (h, first, last) os := rfl
    rw [e]
    by_cases c : oh = h ∧ max first oa ≤ min last ob
    · rw [if_pos c]
      obtain ⟨c1, c2⟩ := c
      subst c1
      obtain ⟨t6, t7, t8, i1, i2⟩ := both_loop oh first last os (acc ++ [(oh, max first oa, min last ob)]) s0 s1 (.sh (.int oh)) (.sh (.int oa)) (.sh (.int ob)) μ (by simp only [List.length_append, List.length_singleton]; omega)
      refine ⟨t6, t7, t8, ?_, by simp only [List.length_append, List.length_cons, List.length_nil]; omega⟩
      rw [← List.append_assoc, ← i1, ← snoc_rows]
      simp [b_in_both_1, c2, hl']
    · rw [if_neg c]
      obtain ⟨t6, t7, t8, i1, i2⟩ := both_loop h first last os acc s0 s1 (.sh (.int oh)) (.sh (.int oa)) (.sh (.int ob)) μ (by omega)
      refine ⟨t6, t7, t8, ?_, by simp only [List.nil_append, List.length_cons]; omega⟩
      rw [List.nil_append, ← i1]
      by_cases c1 : oh = h
      · have c2 : ¬ max first oa ≤ min last ob := fun z => c ⟨c1, z⟩
        simp [b_in_both_1, c1, c2]
      · simp [b_in_both_1, c1]
theorem both_outer (ys : List Row) : ∀ (xs : List Row) (acc : List Row) (s0 s3 s4 s5 s6 s7 s8 : Sl) (μ : Store), acc.length + xs.length * (ys.length + 1) < 16777216 →
    ∃ t3 t4 t5 t6 t7 t8, forL (gT [3, 4, 5]) b_in_both_2 (xs.map rowD) [s0, .sh (rsD ys), .own (.lst (acc.map rowD)), s3, s4, s5, s6, s7, s8] μ = .ok (.nx, [s0, .sh (rsD ys), .own (.lst ((acc ++ St.inBoth xs ys).map rowD)), t3, t4, t5, t6, t7, t8]) μ
  | [], acc, s0, s3, s4, s5, s6, s7, s8, μ, _ => ⟨s3, s4, s5, s6, s7, s8, by simp [forL, St.inBoth]⟩
  | x :: xs, acc, s0, s3, s4, s5, s6, s7, s8, μ, hl => by
    obtain ⟨h, first, last⟩ := x
    simp only [List.length_cons] at hl
    have hm : (xs.length + 1) * (ys.length + 1) = xs.length * (ys.length + 1) + (ys.length + 1) := by rw [Nat.add_mul, Nat.one_mul]
    rw [hm] at hl
    obtain ⟨t6, t7, t8, i1, i2⟩ := both_loop h first last ys acc s0 (.sh (rsD ys)) s6 s7 s8 μ (by omega)
    have e : St.inBoth ((h, first, last) :: xs) ys = St.bothL (h, first, last) ys ++ St.inBoth xs ys := rfl
    rw [List.map_cons, forL, e, ← List.append_assoc]
    obtain ⟨u3, u4, u5, u6, u7, u8, j⟩ := both_outer ys xs (acc ++ St.bothL (h, first, last) ys) s0 (.sh (.int h)) (.sh (.int first)) (.sh (.int last)) t6 t7 t8 μ (by simp only [List.length_append]; omega)
    refine ⟨u3, u4, u5, u6, u7, u8, ?_⟩
    rw [← j]
    simp only [b_in_both_2, rowD_mk, x_gT, List.length_cons, List.length_nil, x_setsE1, x_setsE2, List.set_cons_succ, List.set_cons_zero, if_true, x_mFor, x_iSeq, x_toD, x_eVar, List.getElem?_cons_succ, List.getElem?_cons_zero, x_eVarR1, bind_ok', x_toD1, of_some, x_items1, i1, loopR_nx]
theorem in_both_ok {xs ys : List Row} {μ : Store} (hl : xs.length * (ys.length + 1) < 16777216) : m_in_both [rsD xs, rsD ys] μ = .ok (.own (.lst ((St.inBoth xs ys).map rowD))) μ := by
  obtain ⟨t3, t4, t5, t6, t7, t8, h⟩ := both_outer ys xs [] (.sh (rsD xs)) .no .no .no .no .no .no μ (by simpa using hl)
  simp only [List.map_nil, List.nil_append] at h
  unfold m_in_both b_in_both
  simp [h, List.replicate]
end Law

/-! ### names, one by one -/
namespace St
abbrev Nm := Int × Int
def nlt (a b : Nm) : Prop := a.1 < b.1 ∨ (a.1 = b.1 ∧ a.2 < b.2)
def Asc (ns : List Nm) : Prop := ns.Pairwise nlt
theorem asc_ext : ∀ {xs ys : List Nm}, Asc xs → Asc ys → (∀ x, x ∈ xs ↔ x ∈ ys) → xs = ys
  | [], [], _, _, _ => rfl
  | [], y :: ys, _, _, e => absurd ((e y).mpr List.mem_cons_self) (by simp)
  | x :: xs, [], _, _, e => absurd ((e x).mp List.mem_cons_self) (by simp)
  | x :: xs, y :: ys, hx, hy, e => by
    obtain ⟨x1, x2⟩ := List.pairwise_cons.mp hx
    obtain ⟨y1, y2⟩ := List.pairwise_cons.mp hy
    have exy : x = y := by
      rcases List.mem_cons.mp ((e x).mp List.mem_cons_self) with z | z
      · exact z
      rcases List.mem_cons.mp ((e y).mpr List.mem_cons_self) with w | w
      · exact w.symm
      have a := y1 x z
      have b := x1 y w
      unfold nlt at a b
      omega
    subst exy
    rw [asc_ext x2 y2 fun z => ?_]
    constructor
    · intro hz
      rcases List.mem_cons.mp ((e z).mp (List.mem_cons_of_mem _ hz)) with w | w
      · rw [w] at hz
        have := x1 x hz
        unfold nlt at this
        omega
      · exact w
    · intro hz
      rcases List.mem_cons.mp ((e z).mpr (List.mem_cons_of_mem _ hz)) with w | w
      · rw [w] at hz
        have := y1 x hz
        unfold nlt at this
        omega
      · exact w
def single (x : Nm) : Row := (x.1, x.2, x.2)
def toldR (ns : List Nm) : List Row := mergeS (ns.map single)
theorem in_single {ns : List Nm} {h n : Int} : In (ns.map single) h n ↔ (h, n) ∈ ns := by
  constructor
  · rintro ⟨r, hr, a, b, c⟩
    obtain ⟨x, hx, rfl⟩ := List.mem_map.mp hr
    have a : x.1 = h := a
    have b : x.2 ≤ n := b
    have c : n ≤ x.2 := c
    have : x = (h, n) := by
      obtain ⟨p, q⟩ := x
      simp only at a b c
      rw [a, show q = n by omega]
    rw [← this]
    exact hx
  · intro hx
    exact ⟨_, List.mem_map.mpr ⟨_, hx, rfl⟩, rfl, Int.le_refl _, Int.le_refl _⟩
theorem told_spec {ns : List Nm} (ha : Asc ns) : Canon (toldR ns) ∧ ∀ h n, In (toldR ns) h n ↔ (h, n) ∈ ns := by
  have hs : (ns.map single).Pairwise Le := by
    rw [List.pairwise_map]
    refine ha.imp fun {a b} h => ?_
    unfold nlt at h
    show a.1 < b.1 ∨ (a.1 = b.1 ∧ a.2 ≤ b.2)
    omega
  have ho : ∀ r ∈ ns.map single, Ok r := fun r hr => by
    obtain ⟨x, _, rfl⟩ := List.mem_map.mp hr
    exact Int.le_refl _
  obtain ⟨a, b⟩ := mergeS_ok ho hs
  exact ⟨a, fun h n => (b h n).trans in_single⟩
def expand (rs : List Row) : List Nm := rs.flatMap fun r => (List.range (r.2.2 - r.2.1 + 1).toNat).map fun i : Nat => (r.1, r.2.1 + (i : Int))
theorem expand_mem {rs : List Row} {h n : Int} : (h, n) ∈ expand rs ↔ In rs h n := by
  unfold expand
  rw [List.mem_flatMap]
  constructor
  · rintro ⟨r, hr, hx⟩
    obtain ⟨i, hi, e⟩ := List.mem_map.mp hx
    have hi := List.mem_range.mp hi
    have e1 : r.1 = h := congrArg Prod.fst e
    have e2 : r.2.1 + (i : Int) = n := congrArg Prod.snd e
    exact ⟨r, hr, e1, by omega, by omega⟩
  · rintro ⟨r, hr, a, b, c⟩
    refine ⟨r, hr, List.mem_map.mpr ⟨(n - r.2.1).toNat, List.mem_range.mpr (by omega), ?_⟩⟩
    rw [a, show r.2.1 + ((n - r.2.1).toNat : Int) = n by omega]
theorem expand_asc : ∀ {rs : List Row}, Canon rs → Asc (expand rs)
  | [], _ => List.Pairwise.nil
  | r :: rs, c => by
    obtain ⟨c1, c2, c3⟩ := canon_cons.mp c
    show Asc (((List.range (r.2.2 - r.2.1 + 1).toNat).map fun i : Nat => (r.1, r.2.1 + (i : Int))) ++ expand rs)
    refine List.pairwise_append.mpr ⟨?_, expand_asc c3, fun x hx y hy => ?_⟩
    · rw [List.pairwise_map]
      refine List.pairwise_lt_range.imp fun {i j} h => .inr ⟨rfl, ?_⟩
      show r.2.1 + (i : Int) < r.2.1 + (j : Int)
      omega
    · obtain ⟨i, hi, rfl⟩ := List.mem_map.mp hx
      have hi := List.mem_range.mp hi
      obtain ⟨yh, yn⟩ := y
      obtain ⟨q, hq, a, b, d⟩ := expand_mem.mp hy
      have := c2 q hq
      unfold Sep at this
      show r.1 < yh ∨ (r.1 = yh ∧ r.2.1 + (i : Int) < yn)
      omega
theorem told_expand {rs : List Row} (c : Canon rs) : toldR (expand rs) = rs := by
  obtain ⟨a, b⟩ := told_spec (expand_asc c)
  exact canon_ext a c fun h n => (b h n).trans expand_mem
/-- told row by row, as the law does -/
theorem told_step {l : Row} {ns : List Nm} (ha : ∀ x ∈ ns, l.1 < x.1 ∨ (l.1 = x.1 ∧ l.2.2 < x.2)) : ∀ x ∈ ns, (l.1 = x.1 ∧ x.2 ≤ l.2.2 + 1 ↔ l.1 = x.1 ∧ l.2.2 + 1 = x.2) ∧ (l.1 = x.1 → max l.2.2 x.2 = x.2) := fun x hx => by
  have := ha x hx
  refine ⟨by omega, fun _ => by omega⟩
/-! sorted names -/
def insN (lt : Nm → Nm → Bool) (x : Nm) : List Nm → List Nm
  | [] => [x]
  | y :: ys => if lt y x = true then y :: insN lt x ys else x :: y :: ys
def moved (d : Int) (rs : List Row) : List Row := rs.map fun r => (r.1, r.2.1 + d, r.2.2 + d)
theorem in_moved {d : Int} {rs : List Row} {h n : Int} : In (moved d rs) h n ↔ In rs h (n - d) := by
  constructor
  · rintro ⟨r, hr, a, b, c⟩
    obtain ⟨q, hq, rfl⟩ := List.mem_map.mp hr
    have a : q.1 = h := a
    have b : q.2.1 + d ≤ n := b
    have c : n ≤ q.2.2 + d := c
    exact ⟨q, hq, a, by omega, by omega⟩
  · rintro ⟨q, hq, a, b, c⟩
    exact ⟨_, List.mem_map.mpr ⟨q, hq, rfl⟩, a, show q.2.1 + d ≤ n by omega, show n ≤ q.2.2 + d by omega⟩
theorem canon_moved {d : Int} {rs : List Row} (c : Canon rs) : Canon (moved d rs) := by
  obtain ⟨c1, c2⟩ := c
  refine ⟨fun r hr => ?_, ?_⟩
  · obtain ⟨q, hq, rfl⟩ := List.mem_map.mp hr
    have := c1 q hq
    unfold Ok at this ⊢
    show q.2.1 + d ≤ q.2.2 + d
    omega
  · show (rs.map fun r => (r.1, r.2.1 + d, r.2.2 + d)).Pairwise Sep
    rw [List.pairwise_map]
    refine c2.imp fun {a b} h => ?_
    unfold Sep at h ⊢
    show a.1 < b.1 ∨ (a.1 = b.1 ∧ a.2.2 + d + 1 < b.2.1 + d)
    omega
end St

namespace Law
open PySem L2 DL
abbrev nmD (ns : List Name) : D := .lst (ns.map nameD)
theorem rangeD_2 {a b : Int} (h0 : 0 ≤ a) (h1 : b ≤ 2000000000000) (h2 : a ≤ b + 1) : rangeD a (b + 1) = some ((List.range (b - a + 1).toNat).map fun i : Nat => .int (a + (i : Int))) := by
  unfold rangeD
  rw [if_pos (by omega), show b + 1 - a = b - a + 1 by omega]
def tru : Unit → D := fun _ => .bl true
theorem told_turn {s0 : Sl} {rs : List Row} {l : Row} {x : Name} {μ : Store} {N : Ev → Store → Prop} {T : Rv → Store → Prop} (hl : rs.length + 1 < 16777216) (hx : l.1 < x.1 ∨ (l.1 = x.1 ∧ l.2.2 < x.2))
    (k : ∀ rs' l', rs' ++ [l'] = rs ++ (if l.1 = x.1 ∧ x.2 ≤ l.2.2 + 1 then [(l.1, l.2.1, max l.2.2 x.2)] else [l, (x.1, x.2, x.2)]) → l'.1 = x.1 → l'.2.2 = x.2 → N [s0, .own (.lst (rs'.map rowD ++ [rowD l'])), .sh (.int x.1), .sh (.int x.2)] μ) : OkS (b__law_told_rows_1 [s0, .own (.lst (rs.map rowD ++ [rowD l])), .sh (.int x.1), .sh (.int x.2)] μ) N T := by
  obtain ⟨lh, la, lb⟩ := l
  obtain ⟨h, n⟩ := x
  have e0 := fNe_snoc_nil rs (lh, la, lb)
  simp only [rowD_mk] at e0 ⊢
  simp only at hx k
  by_cases c1 : lh = h
  · subst c1
    by_cases c2 : lb + 1 = n
    · subst c2
      simp [b__law_told_rows_1, e0]
      have := k rs (lh, la, lb + 1) (by rw [if_pos ⟨rfl, by omega⟩, show max lb (lb + 1) = lb + 1 by omega]) rfl rfl
      simpa using this
    · simp [b__law_told_rows_1, e0, c2, hl]
      have := k (rs ++ [(lh, la, lb)]) (lh, n, n) (by rw [if_neg (fun z => c2 (by omega)), List.append_assoc]; rfl) rfl rfl
      simpa using this
  · simp [b__law_told_rows_1, e0, c1, hl]
    have := k (rs ++ [(lh, la, lb)]) (h, n, n) (by rw [if_neg (fun z => c1 z.1), List.append_assoc]; rfl) rfl rfl
    simpa using this
theorem told_rows_ok {ns : List Name} {μ : Store} (ha : St.Asc ns) (hl : ns.length < 16777216) : m__law_told_rows [nmD ns] μ = .ok (.own (.lst ((St.toldR ns).map rowD))) μ := by
  refine ok_eq ?_
  unfold m__law_told_rows b__law_told_rows
  simp [List.replicate]
  refine okS_for (enc := nameD) (fun left ρ ν => ∃ s2 s3, ν = μ ∧ St.Asc left ∧ ((left = ns ∧ ρ = [.sh (nmD ns), .own (.lst []), s2, s3]) ∨ ∃ rs l, ρ = [.sh (nmD ns), .own (.lst (rs.map rowD ++ [rowD l])), s2, s3] ∧ rs ++ St.mergeR l (left.map St.single) = St.toldR ns ∧ rs.length + left.length + 1 ≤ ns.length ∧ ∀ x ∈ left, l.1 < x.1 ∨ (l.1 = x.1 ∧ l.2.2 < x.2))) ?_ ?_ ⟨.no, .no, rfl, ha, .inl ⟨rfl, rfl⟩⟩
  · rintro x left ρ ν N' ⟨s2, s3, rfl, hasc, h⟩ kk
    obtain ⟨a1, a2⟩ := List.pairwise_cons.mp hasc
    rcases h with ⟨rfl, rfl⟩ | ⟨rs, l, rfl, h1, h2, h3⟩
    · refine ⟨_, rfl, ?_⟩
      have e0 : fNe (.ob (.lst [])) (.ob (.lst [])) = some (.sh (.bl false)) := fNe_rows [] []
      obtain ⟨h, n⟩ := x
      simp [b__law_told_rows_1, e0]
      exact kk _ _ ⟨_, _, rfl, a2, .inr ⟨[], (h, n, n), rfl, rfl, by simp, fun y hy => a1 y hy⟩⟩
    · simp only [List.length_cons] at h2
      refine ⟨_, rfl, ?_⟩
      refine told_turn (by omega) (h3 x List.mem_cons_self) fun rs' l' e e1 e2 => ?_
      have e4 : rs.length ≤ rs'.length ∧ rs'.length ≤ rs.length + 1 := by
        have := congrArg List.length e
        simp only [List.length_append, List.length_cons, List.length_nil] at this
        split at this <;> simp at this <;> omega
      refine kk _ _ ⟨_, _, rfl, a2, .inr ⟨rs', l', rfl, ?_, by omega, fun y hy => ?_⟩⟩
      · rw [← h1, List.map_cons, St.mergeR]
        show _ = rs ++ (if l.1 = x.1 ∧ x.2 ≤ l.2.2 + 1 then St.mergeR (l.1, l.2.1, max l.2.2 x.2) (left.map St.single) else l :: St.mergeR (St.single x) (left.map St.single))
        split at e
        · next c =>
          rw [if_pos c]
          obtain ⟨e5, e6⟩ := List.append_inj' e rfl
          rw [e5]
          injection e6 with e6
          rw [e6]
        · next c =>
          rw [if_neg c]
          have e : rs' ++ [l'] = (rs ++ [l]) ++ [(x.1, x.2, x.2)] := by rw [e, List.append_assoc]; rfl
          obtain ⟨e5, e6⟩ := List.append_inj' e rfl
          rw [e5]
          injection e6 with e6
          rw [e6, List.append_assoc]
          rfl
      · have := a1 y hy
        rw [e1, e2]
        exact this
  · rintro ρ ν ⟨s2, s3, rfl, hasc, h⟩
    rcases h with ⟨h, rfl⟩ | ⟨rs, l, rfl, h1, h2, h3⟩
    · rw [← h]
      simp [St.toldR, St.mergeS]
    · have h1 : rs ++ [l] = St.toldR ns := h1
      have e : rs.map rowD ++ [rowD l] = (St.toldR ns).map rowD := by rw [← h1, List.map_append]; rfl
      simp [e]
end Law

namespace Law
open PySem L2 DL
theorem names_ok {rs : List Row} {μ : Store} {F : Nat} (hg : ∀ r ∈ rs, Good r ∧ (r.2.2 - r.2.1 + 1).toNat ≤ F) (hF : rs.length * F < 16777216) : m__law_names [rsD rs] μ = .ok (.own (.lst ((St.expand (merged rs)).map nameD))) μ := by
  refine ok_eq ?_
  unfold m__law_names b__law_names
  simp [List.replicate]
  have e0 : (.own (.dT []) : Sl) = .own (.dT (dctD nkey tru ([] : List (Name × Unit)))) := rfl
  rw [e0]
  refine okS_for (enc := rowD) (fun left ρ ν => ∃ (kvs : List (Name × Unit)) (done : List Row) (s2 s3 s4 s5 : Sl), ρ = [.sh (rsD rs), .own (.dT (dctD nkey tru kvs)), s2, s3, s4, s5] ∧ ν = μ ∧ (kvs.map (·.1)).Nodup ∧ rs = done ++ left ∧ (∀ h n, (h, n) ∈ kvs.map (·.1) ↔ St.In done h n) ∧ kvs.length + left.length * F ≤ rs.length * F) ?_ ?_ ⟨[], [], .no, .no, .no, .no, rfl, rfl, List.nodup_nil, rfl, fun h n => ⟨fun z => by simp at z, fun z => absurd z St.in_nil⟩, by simp⟩
  · rintro r left ρ ν N' ⟨kvs, done, s2, s3, s4, s5, rfl, rfl, hn, hd, hm, hl⟩ kk
    obtain ⟨h, a, b⟩ := r
    have hr : (h, a, b) ∈ rs := by rw [hd]; exact List.mem_append_right _ List.mem_cons_self
    obtain ⟨g, hf⟩ := hg _ hr
    have g4 : a ≤ b := g.2.2.2.1
    have g3 : 1 ≤ a := g.2.2.1
    have g5 : b ≤ 1000000000000 := g.2.2.2.2
    have hf : (b - a + 1).toNat ≤ F := hf
    simp only [List.length_cons, Nat.add_mul, Nat.one_mul] at hl
    have hm0 : ∀ h' n, (h', n) ∈ kvs.map (·.1) ↔ St.In done h' n ∨ (h' = h ∧ a ≤ n ∧ n < a + ((0 : Nat) : Int)) := fun h' n => by
      rw [hm]
      have : ¬ (h' = h ∧ a ≤ n ∧ n < a + ((0 : Nat) : Int)) := by omega
      simp only [this, or_false]
    refine ⟨_, rfl, ?_⟩
    simp [b__law_names_2, rangeD_2 (show 0 ≤ a by omega) (show b ≤ 2000000000000 by omega) (by omega)]
    refine okS_for (enc := fun i : Nat => .int (a + (i : Int))) (fun lf ρ ν' => ∃ (kvs' : List (Name × Unit)) (i : Nat) (s5 : Sl), ρ = [.sh (rsD rs), .own (.dT (dctD nkey tru kvs')), .sh (.int h), .sh (.int a), .sh (.int b), s5] ∧ ν' = ν ∧ (kvs'.map (·.1)).Nodup ∧ lf = List.range' i ((b - a + 1).toNat - i) ∧ i ≤ (b - a + 1).toNat ∧ (∀ h' n, (h', n) ∈ kvs'.map (·.1) ↔ St.In done h' n ∨ (h' = h ∧ a ≤ n ∧ n < a + i)) ∧ kvs'.length ≤ kvs.length + i) ?_ ?_ ⟨kvs, 0, s5, rfl, rfl, hn, by rw [List.range_eq_range']; rfl, Nat.zero_le _, hm0, Nat.le_refl _⟩
    · rintro x lf ρ ν' N2 ⟨kvs', i, s5, rfl, rfl, hn', hlf, hi, hm', hl'⟩ k2
      have hi2 : i < (b - a + 1).toNat := by
        rcases Nat.lt_or_ge i (b - a + 1).toNat with z | z
        · exact z
        · rw [Nat.sub_eq_zero_of_le z] at hlf; cases hlf
      have ex : (b - a + 1).toNat - i = (b - a + 1).toNat - (i + 1) + 1 := by omega
      rw [ex, List.range'_succ] at hlf
      injection hlf with hx hlf
      subst hx
      refine ⟨_, rfl, ?_⟩
      have hs := fSet_names (val := tru) (xs := kvs') (h := h) (n := a + (x : Int)) (v := ()) (by omega)
      have hs : fSet (.dT (dctD nkey tru kvs')) (.tup [.int h, .int (a + (x : Int))]) (.bl true) = _ := hs
      simp [b__law_names_1, hs]
      refine k2 _ _ ⟨putA kvs' (h, a + (x : Int)) (), x + 1, _, rfl, rfl, putA_nodup _ _ hn', hlf, by omega, fun h' n => ?_, ?_⟩
      · rw [putA_mem, hm', Prod.mk.injEq]
        by_cases z : St.In done h' n
        · simp only [z, true_or]
        · simp only [z, false_or]
          omega
      · have := putA_len kvs' (h, a + (x : Int)) ()
        omega
    · rintro ρ ν' ⟨kvs', i, s5, rfl, rfl, hn', hlf, hi, hm', hl'⟩
      have hi2 : i = (b - a + 1).toNat := by
        have := congrArg List.length hlf
        rw [List.length_range'] at this
        simp at this
        omega
      refine kk _ _ ⟨kvs', done ++ [(h, a, b)], _, _, _, s5, rfl, rfl, hn', by rw [hd, List.append_assoc]; rfl, fun h' n => ?_, by omega⟩
      rw [hm', St.in_append, St.in_cons]
      have : ¬ St.In [] h' n := St.in_nil
      show St.In done h' n ∨ _ ↔ St.In done h' n ∨ (h = h' ∧ a ≤ n ∧ n ≤ b) ∨ _
      by_cases z : St.In done h' n
      · simp [z]
      · simp only [z, false_or, this, or_false]
        omega
  · rintro ρ ν ⟨kvs, done, s2, s3, s4, s5, rfl, rfl, hn, hd, hm, hl⟩
    rw [List.append_nil] at hd
    subst hd
    simp [fSrt_names]
    have hok : ∀ r ∈ rs, St.Ok r := fun r hr => (hg r hr).1.ok
    obtain ⟨c1, c2⟩ := merged_spec hok
    refine congrArg (List.map nameD) ?_
    exact St.asc_ext (sortN_asc hn) (St.expand_asc c1) fun x => by
      obtain ⟨xh, xn⟩ := x
      rw [(sortN_perm _).mem_iff, hm, St.expand_mem, c2]
end Law

/-! ### rows of small numbers -/
namespace Law
open PySem L2 DL
/-- rows of small numbers -/
def Low (far : Int) (k : Nat) (rs : List Row) : Prop := Fit k rs ∧ ∀ r ∈ rs, r.2.2 ≤ far
theorem Low.mono {far : Int} {k l : Nat} {rs : List Row} (h : Low far k rs) (hl : k ≤ l) : Low far l rs := ⟨h.1.mono hl, h.2⟩
theorem Low.sub {far : Int} {k l : Nat} {rs qs : List Row} (h : Low far k rs) (hs : ∀ r ∈ qs, r ∈ rs) (hl : qs.length ≤ l) : Low far l qs := ⟨⟨fun r hr => h.1.good r (hs r hr), hl⟩, fun r hr => h.2 r (hs r hr)⟩
theorem Low.app {far : Int} {k l : Nat} {rs qs : List Row} (h : Low far k rs) (g : Low far l qs) : Low far (k + l) (rs ++ qs) := ⟨h.1.app g.1, fun r hr => (List.mem_append.mp hr).elim (h.2 r) (g.2 r)⟩
theorem Low.names {far : Int} {k : Nat} {rs : List Row} {μ : Store} (h : Low far k rs) (hf : far ≤ 400) (hk : k ≤ 400) : m__law_names [rsD rs] μ = .ok (.own (.lst ((St.expand (merged rs)).map nameD))) μ := by
  refine names_ok (F := 400) (fun r hr => ⟨h.1.good r hr, ?_⟩) ?_
  · have g := h.1.good r hr
    have := h.2 r hr
    unfold Good at g
    omega
  · have := h.1.len
    omega
theorem expand_len {far : Int} {k : Nat} {rs : List Row} (h : Low far k rs) (hf : far ≤ 400) : (St.expand (merged rs)).length ≤ 3300 := by
  have c := (merged_set h.1).can
  have nd : (St.expand (merged rs)).Nodup := (St.expand_asc c).imp fun {a b} h => by
    intro e
    subst e
    unfold St.nlt at h
    omega
  have := St.nodup_len (m := (List.range 3300).map fun i : Nat => (((i / 401 : Nat) : Int), ((i % 401 : Nat) : Int))) nd fun x hx => by
    obtain ⟨xh, xn⟩ := x
    obtain ⟨r, hr, a, b, d⟩ := (merged_in h.1 xh xn).mp (St.expand_mem.mp hx)
    have g := h.1.good r hr
    have := h.2 r hr
    unfold Good at g
    refine List.mem_map.mpr ⟨xh.toNat * 401 + xn.toNat, List.mem_range.mpr (by omega), ?_⟩
    rw [Prod.mk.injEq]
    constructor
    · omega
    · omega
  rwa [List.length_map, List.length_range] at this
end Law

/-! ### rows thrown -/
namespace Law
open PySem L2 DL
theorem rows_ok {d : Ob} {far hs most : Int} {μ : Store} {Q : Rv → Store → Prop} (hd : Dice d) (hf : 1 ≤ far) (hf2 : far ≤ 1000000000000) (hh : 0 < hs) (hh2 : hs ≤ 8) (hm : 0 ≤ most) (hm2 : most ≤ 200)
    (k : ∀ rs d', Dice d' → Fit most.toNat rs → (∀ r ∈ rs, r.1 < hs ∧ r.2.2 ≤ far) → Q (.own (.lst (rs.map rowD))) (d' :: μ)) : Ok (m__law_rows [.loc 0, .int hs, .int far, .int most] (d :: μ)) Q := by
  unfold m__law_rows b__law_rows
  simp [List.replicate]
  refine next_ok hd (by omega) (by omega) fun v d1 hd1 a1 b1 => ?_
  simp [rangeD_0 a1 (by omega)]
  refine okS_for (enc := fun i : Nat => .int (i : Int)) (fun left ρ ν => ∃ rs d' s5 s6 s7, ρ = [.sh (.loc 0), .sh (.int hs), .sh (.int far), .sh (.int most), .own (.lst (rs.map rowD)), s5, s6, s7] ∧ ν = d' :: μ ∧ Dice d' ∧ rs.length + left.length = v.toNat ∧ (∀ r ∈ rs, Good r ∧ r.1 < hs ∧ r.2.2 ≤ far)) ?_ ?_ ⟨[], d1, .no, .no, .no, rfl, rfl, hd1, by simp, fun r hr => by simp at hr⟩
  · rintro x left ρ ν N' ⟨rs, d', s5, s6, s7, rfl, rfl, hd', hl, hg⟩ kk
    simp only [List.length_cons] at hl
    have hl' : rs.length < 16777216 := by omega
    refine ⟨_, rfl, ?_⟩
    simp [b__law_rows_1]
    refine next_ok hd' (by omega) (by omega) fun v1 d1 hd1 a1 b1 => ?_
    simp
    refine next_ok hd1 (by omega) (by omega) fun v2 d2 hd2 a2 b2 => ?_
    simp
    refine next_ok hd2 (by omega) (by omega) fun v3 d3 hd3 a3 b3 => ?_
    simp
    refine next_ok hd3 (by omega) (by omega) fun v4 d4 hd4 a4 b4 => ?_
    obtain ⟨w', hw, dd⟩ := fIx_3 (a := .int 0) (b := .int v2) (c := .int v3) a4 b4
    obtain ⟨w, rfl, hw0⟩ : ∃ w : Int, w' = .int w ∧ 0 ≤ w := by
      rcases dd with rfl | rfl | rfl
      · exact ⟨0, rfl, Int.le_refl _⟩
      · exact ⟨v2, rfl, a2⟩
      · exact ⟨v3, rfl, a3⟩
    simp [hw]
    refine next_ok hd4 (by omega) (by omega) fun v5 d5 hd5 a5 b5 => ?_
    simp [hl']
    refine kk _ _ ⟨rs ++ [(v5, 1 + v1, min far (1 + v1 + w))], d5, _, _, _, by rw [List.map_append]; rfl, rfl, hd5, by simp; omega, fun r hr => ?_⟩
    simp only [List.mem_append, List.mem_singleton] at hr
    rcases hr with hr | rfl
    · exact hg _ hr
    · unfold Good
      simp only
      omega
  · rintro ρ ν ⟨rs, d', s5, s6, s7, rfl, rfl, hd', hl, hg⟩
    simp
    exact k rs d' hd' ⟨fun r hr => (hg r hr).1, by simp at hl; omega⟩ fun r hr => (hg r hr).2
end Law

/-! ### moved -/
namespace Law
open PySem L2 DL
theorem moved_ok {rs : List Row} {d : Int} {μ : Store} (hl : rs.length ≤ 16777216) : m__law_moved [rsD rs, .int d] μ = .ok (.own (.lst ((St.moved d rs).map rowD))) μ := by
  have h := lc_fm (enc := rowD) (g := gT [2, 3, 4]) (t := mYes) (e := e__law_moved_1) (ρ := [.sh (rsD rs), .sh (.int d), .no, .no, .no]) (μ := μ) (fun _ => true) (fun r => rowD (r.1, r.2.1 + d, r.2.2 + d)) rs [] (by simpa using hl) (fun r _ => ⟨_, rfl, rfl, fun _ => by
    obtain ⟨h, a, b⟩ := r
    simp [e__law_moved_1]⟩)
  unfold m__law_moved b__law_moved
  simp [List.replicate, h]
  unfold St.moved
  rw [List.map_map]
  congr 1
  simp
end Law

/-! ### _law_like -/
namespace Law
open PySem L2 DL
/-- the loop over two rows of data -/
theorem like_seq {n : Nat} {x y : D} {wx wy : Vw} {xs ys : List D} {μ : Store} {Q : Rv → Store → Prop} (hn : ∀ {f d : D}, Rs μ n f d → m__law_like n [f, d] μ = .ok (.sh (.bl true)) μ) (vx : x.vw μ = some wx) (vy : y.vw μ = some wy) (hx : ∀ {i : Nat} {d : D}, xs[i]? = some d → fIx wx (.d (.int (i : Int))) = some (.sh d))
    (hy : ∀ {i : Nat} {d : D}, ys[i]? = some d → fIx wy (.d (.int (i : Int))) = some (.sh d)) (hl : xs.length ≤ 16777216) (h : RsAll μ n xs ys) {N : Ev → Store → Prop} (k : ∀ s2, N [.sh x, .sh y, s2] μ) :
    OkS (forL (gN 2) (b__law_like_1 (m__law_like n)) ((List.range ys.length).map fun i : Nat => .int (i : Int)) [.sh x, .sh y, .no] μ) N Q := by
  have ll := h.len
  refine okS_for (enc := fun i : Nat => .int (i : Int)) (fun left ρ ν => ∃ s2 i, ρ = [.sh x, .sh y, s2] ∧ ν = μ ∧ left = List.range' i (ys.length - i) ∧ i ≤ ys.length) ?_ ?_ ⟨.no, 0, rfl, rfl, by rw [List.range_eq_range']; rfl, Nat.zero_le _⟩
  · rintro j left ρ ν N' ⟨s2, i, rfl, rfl, hlf, hi⟩ kk
    have hi2 : i < ys.length := by
      rcases Nat.lt_or_ge i ys.length with z | z
      · exact z
      · rw [Nat.sub_eq_zero_of_le z] at hlf; cases hlf
    rw [show ys.length - i = ys.length - (i + 1) + 1 by omega, List.range'_succ] at hlf
    injection hlf with hk hlf
    subst hk
    have ex := List.getElem?_eq_getElem (show j < xs.length by omega)
    obtain ⟨d, ey, r⟩ := h.get ex
    have h3 := hn r
    refine ⟨_, rfl, ?_⟩
    simp [b__law_like_1, vx, vy, hx ex, hy ey, h3]
    exact kk _ _ ⟨_, j + 1, rfl, rfl, hlf, by omega⟩
  · rintro ρ ν ⟨s2, i, rfl, rfl, _⟩
    exact k s2
theorem like_true : ∀ {n : Nat} {f d : D} {μ : Store}, Rs μ n f d → m__law_like n [f, d] μ = .ok (.sh (.bl true)) μ := by
  intro n
  induction n with
  | zero => intro f d μ h; cases h
  | succ n ih =>
    intro f d μ h
    obtain ⟨i1, i2, i3, i4, i5, i6, i7, i8, i9, i10, i11, i12, i13, i14, i15, i16, i17, i18, i19, _⟩ := isiB_all
    have nt : ∀ p, fIs id (.d (.tup p)) (.d .non) = some (.sh (.bl false)) := fun _ => rfl
    have nl : ∀ p, fIs id (.ob (.lst p)) (.d .non) = some (.sh (.bl false)) := fun _ => rfl
    cases h with
    | non => simp [m__law_like, b__law_like, fIsi_non, i4, i9, i13, List.replicate]
    | bl b => simp [m__law_like, b__law_like, fIsi_bl, i1, fEq_bl, List.replicate]
    | int i => simp [m__law_like, b__law_like, fIsi_int, i2, i8, i12, List.replicate]
    | str s hs => simp [m__law_like, b__law_like, fIsi_str, i3, i7, fEq_str hs hs, List.replicate]
    | @tup _ xs ys hl t =>
      have ll := t.len
      refine ok_eq ?_
      have rg := rangeD_0 (v := (ys.length : Int)) (by omega) (by omega)
      simp [m__law_like, b__law_like, fIsi_tup, i5, i10, i14, i16, i18, fNe_bl, nt, ll, rg, List.replicate]
      exact like_seq (fun r => ih r) rfl rfl (fun e => fIx_tupAt e) (fun e => fIx_tupAt e) hl t fun s2 => by simp
    | @lst _ xs ys hl t =>
      have ll := t.len
      refine ok_eq ?_
      have rg := rangeD_0 (v := (ys.length : Int)) (by omega) (by omega)
      simp [m__law_like, b__law_like, fIsi_lst, i6, i11, i15, i17, i19, fNe_bl, nl, ll, rg, List.replicate]
      exact like_seq (fun r => ih r) rfl rfl (fun e => fIx_lstAt e) (fun e => fIx_lstAt e) hl t fun s2 => by simp
    | @loc _ k xs ys e hl t =>
      have ll := t.len
      refine ok_eq ?_
      have rg := rangeD_0 (v := (ys.length : Int)) (by omega) (by omega)
      simp [m__law_like, b__law_like, fIsi_lst, i6, i11, i15, i17, i19, fNe_bl, nl, ll, rg, e, List.replicate]
      exact like_seq (wx := .ob (.lst xs)) (fun r => ih r) (by simp [e]) rfl (fun e => fIx_lstAt e) (fun e => fIx_lstAt e) hl t fun s2 => by simp
end Law

/-! ### sorted(set(names)) -/
namespace Law
open PySem L2 DL
theorem nl_inj {a b : Name} (h : nl a = nl b) : a = b := by
  have h1 : a.1 = b.1 := by injection h
  have h2 : a.2 = b.2 := by
    injection h with _ h
    injection h
  exact Prod.ext h1 h2
theorem fSrtSM_names {ns out : List Name} (ha : St.Asc out) (he : ∀ x, x ∈ out ↔ x ∈ ns) (hl : out.length ≤ 4000) : fSrtSM [.ob (.lst (ns.map nameD))] = some (.own (.lst (out.map nameD))) := by
  have u : usortL (ns.map nl) = out.map nl := by
    refine usortL_uniq ?_ ?_ fun n => ?_
    · unfold SortedL
      rw [List.pairwise_map]
      refine ha.imp fun {a b} h => ?_
      have h : a.1 < b.1 ∨ (a.1 = b.1 ∧ a.2 < b.2) := h
      have : ¬ (nameLt b a = true) := fun z => by
        have := nameLt_iff.mp z
        omega
      exact Bool.eq_false_iff.mpr this
    · refine List.pairwise_map.mpr (ha.imp fun {a b} h e => ?_)
      have h : a.1 < b.1 ∨ (a.1 = b.1 ∧ a.2 < b.2) := h
      have := nl_inj e
      subst this
      omega
    · constructor
      · intro h
        obtain ⟨x, hx, rfl⟩ := List.mem_map.mp h
        exact List.mem_map.mpr ⟨x, (he x).mp hx, rfl⟩
      · intro h
        obtain ⟨x, hx, rfl⟩ := List.mem_map.mp h
        exact List.mem_map.mpr ⟨x, (he x).mpr hx, rfl⟩
  show (D.intss (ns.map nameD)).bind _ = _
  rw [names_intss, Option.bind_some, u, List.length_map, if_pos hl, List.map_map]
  rfl
end Law

/-! ### exceptions, lambdas, displays: for simp -/
namespace DL
open PySem L2
section
variable {ρ : Ev} {μ : Store} {a b : ME} {i : Nat}
@[simp] theorem x_mRaise0 {c} : mRaise0 c ρ μ = .exc ⟨c, [], []⟩ μ := (rfl)
@[simp] theorem x_mRaise1 {c f} : mRaise1 c f a ρ μ = (toD a ρ μ).bind fun d μ1 => .exc ⟨c, [f], [d]⟩ μ1 := (rfl)
@[simp] theorem x_eXIs {ad d k} : eXIs ad d k a ρ μ = (a ρ μ).bind (isXR ad d k) := (rfl)
@[simp] theorem x_isXR {ad d k ns ds} : isXR ad d k (.sh (.exn ad d ns ds)) μ = .ok (.sh (.bl k)) μ := by
  exact if_pos ⟨rfl, rfl⟩
@[simp] theorem x_eXFld {ad d f} : eXFld ad d f a ρ μ = (a ρ μ).bind (fldXR ad d f) := (rfl)
@[simp] theorem x_fldXR {ad d f ns ds} : fldXR ad (some d) f (.sh (.exn ad (some d) ns ds)) μ = Res.of (((ns.zip ds).lookup f).map Op.sh) μ := by
  exact if_pos ⟨rfl, rfl, rfl⟩
@[simp] theorem x_eBm {f} : eBm f a b ρ μ = (a ρ μ).bind fun o μ1 => if isLV (deref ρ μ1 o) = true then (b ρ μ1).bind fun x μ2 => Res.of (fin2 f ρ μ2 o x) μ2 else .stk := (rfl)
@[simp] theorem x_isLV {ds} : isLV (some (.ob (.lst ds))) = true := (rfl)
@[simp] theorem x_eDisp {ks ms} : eDisp ks ms ρ μ = (asOf ms ρ μ).bind fun ds μ1 => if ks.length = ds.length then .ok (.own (.dK ((ks.map Sum.inr).zip ds))) μ1 else .stk := (rfl)
@[simp] theorem x_asOf0 : asOf [] = aNil := (rfl)
@[simp] theorem x_asOf1 {ms} : asOf (a :: ms) = aCons a (asOf ms) := (rfl)
def locMR (o : Op) (μ : Store) : Res Op := match o with
  | .own ob => .ok (.sh (.loc μ.length)) (μ ++ [ob])
  | .sh d => .ok (.sh d) μ
  | _ => .stk
@[simp] theorem x_locMR1 {ob} : locMR (.own ob) μ = .ok (.sh (.loc μ.length)) (μ ++ [ob]) := (rfl)
@[simp] theorem x_locMR2 {d} : locMR (.sh d) μ = .ok (.sh d) μ := (rfl)
@[simp] theorem x_eLocM : eLocM a ρ μ = (a ρ μ).bind locMR := (rfl)
def toldR (tx : Xc → Option D) (r : Res Op) : Res Op := match r with
  | .exc x μ1 => Res.of ((tx x).map Op.sh) μ1
  | r => r
@[simp] theorem x_eTold {tx} : eTold tx a ρ μ = toldR tx (a ρ μ) := (rfl)
@[simp] theorem x_toldR1 {tx o} : toldR tx (.ok o μ) = .ok o μ := (rfl)
@[simp] theorem x_toldR2 {tx x} : toldR tx (.exc x μ) = Res.of ((tx x).map Op.sh) μ := (rfl)
def tryR (hl : List (Str × Str)) (ρ : Ev) (r : Res Op) : Res (Fl × Ev) := match r with
  | .ok o μ1 => (match opRv ρ o with
    | some rv => .ok (.rt rv, ρ) μ1
    | none => .stk)
  | .exc x μ1 => (match tellX hl x with
    | some d => .ok (.rt (.sh d), ρ) μ1
    | none => .stk)
  | .stk => .stk
@[simp] theorem x_mTryR {hl} : mTryR hl a ρ μ = tryR hl ρ (a ρ μ) := (rfl)
@[simp] theorem x_tryR1 {hl o} : tryR hl ρ (.ok o μ) = retR ρ μ (opRv ρ o) := by
  cases h : opRv ρ o <;> simp [tryR, retR, h]
@[simp] theorem x_tryR2 {hl x} : tryR hl ρ (.exc x μ) = retR ρ μ ((tellX hl x).map .sh) := by
  cases h : tellX hl x <;> simp [tryR, retR, h]
end
section
variable {α β : Type} {x : Xc} {μ : Store}
@[simp] theorem bind_exc' (f : α → Store → Res β) : (Res.exc x μ : Res α).bind f = .exc x μ := (rfl)
@[simp] theorem seqR_exc (n : MS) : seqR (.exc x μ) n = .exc x μ := (rfl)
@[simp] theorem loopR_exc (n : MS) : loopR (.exc x μ) n = .exc x μ := (rfl)
@[simp] theorem endR_exc : endR (.exc x μ) = .exc x μ := (rfl)
@[simp] theorem makeR_exc {k} : makeR k (.exc x μ) = .exc x μ := (rfl)
end
/-! ### data of two kinds -/
theorem ne_py {w w' : Vw} {p q : PyData} (e : w.py = some p) (e' : w'.py = some q) (s1 : SeqAt.shaped p = true) (s2 : SeqAt.shaped q = true) : fNe w w' = some (.sh (.bl (!PyData.eqv p q))) := by
  unfold fNe fEq2
  rw [e, e']
  show (if SeqAt.shaped p = true ∧ SeqAt.shaped q = true then _ else _) = _
  rw [if_pos ⟨s1, s2⟩]
theorem eq_py {w w' : Vw} {p q : PyData} (e : w.py = some p) (e' : w'.py = some q) (s1 : SeqAt.shaped p = true) (s2 : SeqAt.shaped q = true) : fEq w w' = some (.sh (.bl (PyData.eqv p q))) := by
  unfold fEq fEq2
  rw [e, e']
  show (if SeqAt.shaped p = true ∧ SeqAt.shaped q = true then _ else _) = _
  rw [if_pos ⟨s1, s2⟩]
  rfl
theorem Pd.neS {α : Type} [DecidableEq α] {enc : α → D} (P : Pd enc) (h : P.dep + 1 ≤ 64) (xs : List α) {t : Str} (ht : SOk t) : fNe (.ob (.lst (xs.map enc))) (.d (.str t)) = some (.sh (.bl true)) :=
  ne_py (p := .list (xs.map P.py)) (q := .str t) (by show (D.pys (xs.map enc)).map PyData.list = _; rw [P.pys]; rfl) rfl (P.shapedL h xs) ht
theorem Pd.eqS {α : Type} [DecidableEq α] {enc : α → D} (P : Pd enc) (h : P.dep + 1 ≤ 64) (xs : List α) {t : Str} (ht : SOk t) : fEq (.ob (.lst (xs.map enc))) (.d (.str t)) = some (.sh (.bl false)) :=
  eq_py (p := .list (xs.map P.py)) (q := .str t) (by show (D.pys (xs.map enc)).map PyData.list = _; rw [P.pys]; rfl) rfl (P.shapedL h xs) ht
/-- what follows, with exceptions: OkX r Q E -/
def OkX {α : Type} (r : Res α) (Q : α → Store → Prop) (E : Xc → Store → Prop) : Prop := match r with
  | .ok a μ => Q a μ
  | .exc x μ => E x μ
  | .stk => False
end DL

/-! ### comprehensions over a dict of the store -/
namespace DL
open PySem L2
variable [Tbs]
theorem set_back {μ : Store} {n : Nat} {o x : Ob} (h : μ[n]? = some o) : (μ.set n x).set n o = μ := by
  rw [List.set_set]
  apply List.ext_getElem?
  intro i
  by_cases c : n = i
  · subst c
    rw [List.getElem?_set_self (List.getElem?_eq_some_iff.mp h).1, h]
  · rw [List.getElem?_set_ne c]
theorem lk_names {ν : Type} {val : ν → D} {it : ME} {g : D → Ev → Option Ev} {ws : List Nat} {t : MT} {e : ME} {ρ : Ev} {μ : Store} {n : Nat} {kvs : List (Name × ν)} {ds : List D} (h : μ[n]? = some (.dT (dctD nkey val kvs)))
    (h1 : it ρ μ = .ok (.sh (.loc n)) μ) (h2 : it ρ (μ.set n (.lkT (dctD nkey val kvs))) = .ok (.sh (.loc n)) (μ.set n (.lkT (dctD nkey val kvs))))
    (h3 : lcL g t e (wipeE ρ ws) (kvs.map fun p => nameD p.1) (μ.set n (.lkT (dctD nkey val kvs))) [] = .ok ds (μ.set n (.lkT (dctD nkey val kvs)))) :
    eLk it (eLcK it g ws t e) ρ μ = .ok (.own (.lst ds)) μ := by
  have hl := (List.getElem?_eq_some_iff.mp h).1
  have g1 : (μ.set n (.lkT (dctD nkey val kvs)))[n]? = some (.lkT (dctD nkey val kvs)) := List.getElem?_set_self hl
  have ks : (dctD nkey val kvs).map (fun kv => D.tup (kv.1.map keyD)) = kvs.map fun p => nameD p.1 := by
    unfold dctD
    rw [List.map_map]
    rfl
  unfold eLk whichLoc eLcK toD
  rw [h1]
  dsimp only
  rw [h]
  dsimp only
  rw [h2]
  simp only [Res.bind, Op.toD, Res.of]
  unfold keysAt
  rw [g1]
  dsimp only
  rw [ks, h3]
  simp only [Res.bind]
  unfold lockR
  dsimp only
  rw [g1]
  dsimp only
  rw [set_back h]
end DL

namespace DL
open PySem L2
/-! ### lists told are scrawled over -/
theorem scrawl {g : D → Ev → Option Ev} {b : MS} {N : Ev → Store → Prop} {T : Rv → Store → Prop} (P : Ev → Prop)
    (hb : ∀ (k : Nat) (xs : List D) (ρ : Ev) (σ : Store), P ρ → σ[k]? = some (.lst xs) → xs.length < 16777216 → ∃ ρ1, g (.loc k) ρ = some ρ1 ∧ P ρ1 ∧ b ρ1 σ = .ok (.nx, ρ1) (σ.set k (.lst (xs ++ [.int 0])))) :
    ∀ (locs : List (Nat × List D)) (ρ : Ev) (σ : Store), P ρ → (locs.map (·.1)).Nodup → (∀ p ∈ locs, σ[p.1]? = some (.lst p.2) ∧ p.2.length < 16777216) →
    (∀ ρ' σ', P ρ' → σ'.length = σ.length → (∀ j, j ∉ locs.map (·.1) → σ'[j]? = σ[j]?) → N ρ' σ') → OkS (forL g b (locs.map fun p => D.loc p.1) ρ σ) N T
  | [], ρ, σ, hP, _, _, k => k ρ σ hP rfl fun _ _ => rfl
  | p :: locs, ρ, σ, hP, nd, hl, k => by
    obtain ⟨h1, h2⟩ := hl p List.mem_cons_self
    obtain ⟨ρ1, e1, P1, e2⟩ := hb p.1 p.2 ρ σ hP h1 h2
    rw [List.map_cons, List.nodup_cons] at nd
    rw [List.map_cons, forL, e1]
    dsimp only
    rw [e2, loopR_nx]
    refine scrawl P hb locs ρ1 _ P1 nd.2 (fun q hq => ?_) fun ρ' σ' P' hlen hk => k ρ' σ' P' (by rw [hlen, List.length_set]) fun j hj => ?_
    · have ne : p.1 ≠ q.1 := fun e => nd.1 (e ▸ List.mem_map.mpr ⟨q, hq, rfl⟩)
      rw [List.getElem?_set_ne ne]
      exact hl q (List.mem_cons_of_mem _ hq)
    · rw [List.map_cons, List.mem_cons, not_or] at hj
      rw [hk j hj.2, List.getElem?_set_ne (Ne.symm hj.1)]
end DL

namespace DL
open PySem L2
/-! ### deeds in order, taken back: plain -/
section
variable {κ ν : Type} [DecidableEq κ]
theorem putsA_cons (xs : List (κ × ν)) (p : κ × ν) (ys : List (κ × ν)) : putsA xs (p :: ys) = putsA (putA xs p.1 p.2) ys := rfl
theorem putsA_nodup : ∀ {ys xs : List (κ × ν)}, (xs.map (·.1)).Nodup → ((putsA xs ys).map (·.1)).Nodup
  | [], _, h => h
  | p :: ys, xs, h => putsA_nodup (ys := ys) (putA_nodup p.1 p.2 h)
theorem putsA_mem {x : κ} : ∀ {ys xs : List (κ × ν)}, x ∈ (putsA xs ys).map (·.1) ↔ x ∈ xs.map (·.1) ∨ x ∈ ys.map (·.1)
  | [], xs => by simp [putsA]
  | p :: ys, xs => by
    rw [putsA_cons, putsA_mem (ys := ys), putA_mem, List.map_cons, List.mem_cons, or_assoc]
theorem putsA_len : ∀ {ys xs : List (κ × ν)}, (putsA xs ys).length ≤ xs.length + ys.length
  | [], xs => Nat.le_refl _
  | p :: ys, xs => by
    rw [putsA_cons, List.length_cons]
    have := putsA_len (ys := ys) (xs := putA xs p.1 p.2)
    have := putA_len xs p.1 p.2
    omega
theorem putsA_get {k : κ} {v : ν} : ∀ {ys xs : List (κ × ν)}, getA (putsA xs ys) k = some v → getA xs k = some v ∨ (k, v) ∈ ys
  | [], xs, h => .inl h
  | p :: ys, xs, h => by
    rcases putsA_get (ys := ys) h with h | h
    · rw [getA_put] at h
      split at h
      · next c =>
        cases h
        exact .inr (by rw [c]; exact List.mem_cons_self)
      · exact .inl h
    · exact .inr (List.mem_cons_of_mem _ h)
end
def Uq (ds : List Deed) : Prop := ∀ a ∈ ds, ∀ b ∈ ds, a.nm = b.nm → a = b
theorem st_nm {a b : Deed} (h : a.st = b.st) : a.nm = b.nm := by
  unfold Deed.st at h
  unfold Deed.nm
  injection h with _ h
def known (ds : List Deed) : List (Row × Deed) := putsA [] (ds.map fun d => (d.st, d))
def inOrd (ds : List Deed) : List Deed := (sortR ((known ds).map (·.1))).map fun s => (getA (known ds) s).getD default
theorem known_snoc (ds : List Deed) (d : Deed) : known (ds ++ [d]) = putA (known ds) d.st d := by
  unfold known putsA
  rw [List.map_append, List.foldl_append]
  rfl
theorem known_nodup (ds : List Deed) : ((known ds).map (·.1)).Nodup := putsA_nodup List.nodup_nil
theorem known_len (ds : List Deed) : (known ds).length ≤ ds.length := by
  have := putsA_len (xs := []) (ys := ds.map fun d => (d.st, d))
  rw [List.length_map] at this
  unfold known
  simpa using this
theorem known_get {ds : List Deed} {s : Row} (h : s ∈ (known ds).map (·.1)) : ∃ d, getA (known ds) s = some d ∧ d ∈ ds ∧ d.st = s := by
  cases c : getA (known ds) s with
  | none => exact absurd h (getA_none.mp c)
  | some d =>
    rcases putsA_get c with z | z
    · cases z
    · obtain ⟨e, he, z⟩ := List.mem_map.mp z
      injection z with z1 z2
      subst z2
      exact ⟨e, rfl, he, z1⟩
theorem inOrd_len (ds : List Deed) : (inOrd ds).length ≤ ds.length := by
  unfold inOrd
  rw [List.length_map, (sortR_perm' _).length_eq, List.length_map]
  exact known_len ds
theorem inOrd_st (ds : List Deed) : (inOrd ds).map Deed.st = sortR ((known ds).map (·.1)) := by
  unfold inOrd
  rw [List.map_map]
  refine (List.map_congr_left (g := id) fun s hs => ?_).trans (List.map_id _)
  obtain ⟨d, e, _, h⟩ := known_get ((sortR_perm' _).mem_iff.mp hs)
  show ((getA (known ds) s).getD default).st = s
  rw [e]
  exact h
def SltD (a b : Deed) : Prop := slt a.st b.st
theorem inOrd_asc (ds : List Deed) : (inOrd ds).Pairwise SltD := by
  have := sortR_strict (known_nodup ds)
  rw [← inOrd_st, List.pairwise_map] at this
  exact this
theorem inOrd_sub {ds : List Deed} {d : Deed} (h : d ∈ inOrd ds) : d ∈ ds := by
  obtain ⟨s, hs, rfl⟩ := List.mem_map.mp h
  obtain ⟨e, he, hm, _⟩ := known_get ((sortR_perm' _).mem_iff.mp hs)
  rw [he]
  exact hm
theorem inOrd_mem {ds : List Deed} (hu : Uq ds) {d : Deed} : d ∈ inOrd ds ↔ d ∈ ds := by
  refine ⟨inOrd_sub, fun h => ?_⟩
  have hk : d.st ∈ (known ds).map (·.1) := putsA_mem.mpr (.inr (List.mem_map.mpr ⟨(d.st, d), List.mem_map.mpr ⟨d, h, rfl⟩, rfl⟩))
  obtain ⟨e, he, hm, hs⟩ := known_get hk
  refine List.mem_map.mpr ⟨d.st, (sortR_perm' _).mem_iff.mpr hk, ?_⟩
  rw [he]
  exact hu e hm d h (st_nm hs)
theorem Uq.ord {ds : List Deed} (hu : Uq ds) : Uq (inOrd ds) := fun a ha b hb => hu a (inOrd_sub ha) b (inOrd_sub hb)
theorem sltD_irr {a : Deed} : ¬ SltD a a := slt_irr
theorem sltD_trans {a b c : Deed} (h : SltD a b) (k : SltD b c) : SltD a c := slt_trans h k
theorem asc_ext : ∀ {xs ys : List Deed}, xs.Pairwise SltD → ys.Pairwise SltD → (∀ x, x ∈ xs ↔ x ∈ ys) → xs = ys
  | [], [], _, _, _ => rfl
  | [], y :: ys, _, _, h => absurd ((h y).mpr List.mem_cons_self) (by simp)
  | x :: xs, [], _, _, h => absurd ((h x).mp List.mem_cons_self) (by simp)
  | x :: xs, y :: ys, hx, hy, h => by
    obtain ⟨x1, x2⟩ := List.pairwise_cons.mp hx
    obtain ⟨y1, y2⟩ := List.pairwise_cons.mp hy
    have e : x = y := by
      rcases List.mem_cons.mp ((h x).mp List.mem_cons_self) with z | z
      · exact z
      · rcases List.mem_cons.mp ((h y).mpr List.mem_cons_self) with w | w
        · exact w.symm
        · exact absurd (sltD_trans (y1 x z) (x1 y w)) sltD_irr
    subst e
    rw [asc_ext x2 y2 fun z => ?_]
    constructor
    · intro hz
      rcases List.mem_cons.mp ((h z).mp (List.mem_cons_of_mem _ hz)) with w | w
      · subst w; exact absurd (x1 _ hz) sltD_irr
      · exact w
    · intro hz
      rcases List.mem_cons.mp ((h z).mpr (List.mem_cons_of_mem _ hz)) with w | w
      · subst w; exact absurd (y1 _ hz) sltD_irr
      · exact w
theorem inOrd_ext {ds es : List Deed} (hd : Uq ds) (he : Uq es) (h : ∀ x, x ∈ ds ↔ x ∈ es) : inOrd ds = inOrd es :=
  asc_ext (inOrd_asc _) (inOrd_asc _) fun x => by rw [inOrd_mem hd, inOrd_mem he, h]
/-! void -/
def tgt : What → Name
  | .back h n => (h, n)
  | _ => (0, 0)
def hasR (rs : List Row) (x : Name) : Bool := rs.any fun r => decide (r.1 = x.1) && (decide (r.2.1 ≤ x.2) && decide (x.2 ≤ r.2.2))
def sealAt (x : Name) (s : Row) (e : Deed) : Bool := match e.w with
  | .sealed rs => decide (slt e.st s) && hasR rs x
  | _ => false
def voidAt (x : Name) (s : Row) (e : Deed) : Bool := (decide (e.nm = x) && decide (¬ slt e.st s)) || sealAt x s e
def voidB (ds : List Deed) (d : Deed) : Bool := ds.any (voidAt (tgt d.w) d.st)
theorem any_ext {α : Type} {p : α → Bool} {xs ys : List α} (h : ∀ x, x ∈ xs ↔ x ∈ ys) : xs.any p = ys.any p := by
  rw [Bool.eq_iff_iff, List.any_eq_true, List.any_eq_true]
  constructor
  · rintro ⟨x, hx, k⟩
    exact ⟨x, (h x).mp hx, k⟩
  · rintro ⟨x, hx, k⟩
    exact ⟨x, (h x).mpr hx, k⟩
theorem voidB_ext {ds es : List Deed} (h : ∀ x, x ∈ ds ↔ x ∈ es) (d : Deed) : voidB ds d = voidB es d := any_ext h
theorem nonvoid {ds : List Deed} {d e : Deed} (h : voidB ds d = false) (he : e ∈ ds) (hn : e.nm = tgt d.w) : slt e.st d.st := by
  unfold voidB at h
  rw [List.any_eq_false] at h
  have := h e he
  unfold voidAt at this
  rw [Bool.or_eq_true, not_or, Bool.and_eq_true, decide_eq_true_eq, decide_eq_true_eq] at this
  have := this.1
  by_cases c : slt e.st d.st
  · exact c
  · exact absurd ⟨hn, c⟩ this
/-! dead, marks -/
abbrev SB (d : Deed) : Prop := d.w.kind = .sealed ∨ d.w.kind = .bye
def deadStep (vd : Deed → Bool) (F : List (Name × Unit)) (d : Deed) : List (Name × Unit) := if d.w.kind = .back ∧ d.nm ∉ F.map (·.1) ∧ vd d = false then putA F (tgt d.w) () else F
def mine (bs : List Deed) (M : List (Name × Bool)) (x : Name) : List Deed := bs.filter fun b => decide (tgt b.w = x) && !((getA M b.nm).getD false)
def markStep (bs : List Deed) (M : List (Name × Bool)) (d : Deed) : List (Name × Bool) := putA M d.nm (!decide (mine bs M d.nm = []) && !decide (SB d))
def backs (vd : Deed → Bool) (rows : List Deed) : List Deed := rows.filter fun d => decide (d.w.kind = .back) && !vd d
structure MInv (vd : Deed → Bool) (P : List Deed) (F : List (Name × Unit)) (M : List (Name × Bool)) : Prop where
  i1 : ∀ d ∈ P, getA M d.nm = some (!decide (SB d) && decide (d.nm ∈ F.map (·.1)))
  i2 : ∀ x, x ∈ F.map (·.1) ↔ ∃ c ∈ P, c.w.kind = .back ∧ vd c = false ∧ c.nm ∉ F.map (·.1) ∧ tgt c.w = x
theorem minv_nil {vd : Deed → Bool} : MInv vd [] [] [] := ⟨fun d h => by simp at h, fun x => by simp⟩
section
variable {vd : Deed → Bool} {rows P l : List Deed} {d b : Deed} {F : List (Name × Unit)} {M : List (Name × Bool)}
/-- a back that counts stands ahead of what it takes back -/
theorem back_ahead (ha : rows.Pairwise SltD) (hv : ∀ c ∈ rows, ∀ e ∈ rows, vd c = false → e.nm = tgt c.w → slt e.st c.st) (hr : rows.reverse = P ++ d :: l) (hb : b ∈ backs vd rows) (ht : tgt b.w = d.nm) : b ∈ P := by
  obtain ⟨b1, b2⟩ := List.mem_filter.mp hb
  rw [Bool.and_eq_true] at b2
  have bv : vd b = false := by simpa using b2.2
  have hm : ∀ x, x ∈ rows ↔ x ∈ P ++ d :: l := fun x => by rw [← hr, List.mem_reverse]
  have hd : d ∈ rows := (hm d).mpr (by simp)
  have hs := hv b b1 d hd bv ht.symm
  have hp : (P ++ d :: l).Pairwise (fun a b => SltD b a) := by rw [← hr, List.pairwise_reverse]; exact ha
  rcases List.mem_append.mp ((hm b).mp b1) with z | z
  · exact z
  · rcases List.mem_cons.mp z with z | z
    · subst z; exact absurd hs slt_irr
    · have := (List.pairwise_cons.mp (List.pairwise_append.mp hp).2.1).1 b z
      exact absurd (slt_trans hs this) slt_irr
theorem mine_iff (ha : rows.Pairwise SltD) (hv : ∀ c ∈ rows, ∀ e ∈ rows, vd c = false → e.nm = tgt c.w → slt e.st c.st) (hr : rows.reverse = P ++ d :: l) (I : MInv vd P F M) : mine (backs vd rows) M d.nm = [] ↔ d.nm ∉ F.map (·.1) := by
  have hm : ∀ x, x ∈ P → x ∈ rows := fun x hx => by rw [← List.mem_reverse, hr]; exact List.mem_append_left _ hx
  rw [I.i2]
  constructor
  · rintro h ⟨c, hc, c1, c2, c3, c4⟩
    have : c ∈ mine (backs vd rows) M d.nm := by
      refine List.mem_filter.mpr ⟨List.mem_filter.mpr ⟨hm c hc, by simp [c1, c2]⟩, ?_⟩
      rw [I.i1 c hc]
      simp [c3, c4]
    rw [h] at this
    simp at this
  · intro h
    rw [List.eq_nil_iff_forall_not_mem]
    intro c hc
    obtain ⟨c1, c2⟩ := List.mem_filter.mp hc
    rw [Bool.and_eq_true, decide_eq_true_eq] at c2
    have hp := back_ahead ha hv hr c1 c2.1
    obtain ⟨c3, c4⟩ := List.mem_filter.mp c1
    rw [Bool.and_eq_true, decide_eq_true_eq] at c4
    have hk : ¬ SB c := by unfold SB; rw [c4.1]; simp
    have c5 := c2.2
    rw [I.i1 c hp] at c5
    simp [hk] at c5
    exact h ⟨c, hp, c4.1, by simpa using c4.2, by simpa using c5, c2.1⟩
theorem minv_step (hu : Uq rows) (ha : rows.Pairwise SltD) (hv : ∀ c ∈ rows, ∀ e ∈ rows, vd c = false → e.nm = tgt c.w → slt e.st c.st) (hr : rows.reverse = P ++ d :: l) (I : MInv vd P F M) : MInv vd (P ++ [d]) (deadStep vd F d) (markStep (backs vd rows) M d) := by
  have hm : ∀ x, x ∈ P ++ d :: l → x ∈ rows := fun x hx => by rw [← List.mem_reverse, hr]; exact hx
  have hp : (P ++ d :: l).Pairwise (fun a b => SltD b a) := by rw [← hr, List.pairwise_reverse]; exact ha
  have hd : d ∈ rows := hm d (by simp)
  have hpd : ∀ c ∈ P, SltD d c := fun c hc => (List.pairwise_append.mp hp).2.2 c hc d List.mem_cons_self
  have mi := mine_iff ha hv hr I
  -- the names of what was gone through stay as they are
  have keep : ∀ e ∈ P ++ [d], (e.nm ∈ (deadStep vd F d).map (·.1) ↔ e.nm ∈ F.map (·.1)) := fun e he => by
    unfold deadStep
    split
    · next c =>
      rw [putA_mem]
      refine ⟨fun z => z.elim id fun z => ?_, .inl⟩
      have he' : e ∈ rows := hm e (by rcases List.mem_append.mp he with w | w <;> simp at * <;> simp [w])
      have := hv d hd e he' c.2.2 z
      rcases List.mem_append.mp he with w | w
      · exact absurd (slt_trans this (hpd e w)) slt_irr
      · have : e = d := by simpa using w
        subst this
        exact absurd this slt_irr
    · exact Iff.rfl
  refine ⟨fun e he => ?_, fun x => ?_⟩
  · unfold markStep
    rw [getA_put]
    have kk := keep e he
    by_cases c : e.nm = d.nm
    · have he' : e ∈ rows := hm e (by rcases List.mem_append.mp he with w | w <;> simp at * <;> simp [w])
      have : e = d := hu e he' d hd c
      subst this
      rw [if_pos rfl]
      congr 1
      by_cases c2 : e.nm ∈ F.map (·.1)
      · have : ¬ mine (backs vd rows) M e.nm = [] := fun z => mi.mp z c2
        rw [decide_eq_false this, decide_eq_true (kk.mpr c2)]
        simp
      · rw [decide_eq_true (mi.mpr c2), decide_eq_false (fun z => c2 (kk.mp z))]
        simp
    · rw [if_neg c]
      rcases List.mem_append.mp he with w | w
      · rw [I.i1 e w]
        by_cases c2 : e.nm ∈ F.map (·.1)
        · rw [decide_eq_true c2, decide_eq_true (kk.mpr c2)]
        · rw [decide_eq_false c2, decide_eq_false (fun z => c2 (kk.mp z))]
      · exact absurd (by rw [show e = d by simpa using w]) c
  · have key : (∃ c ∈ P ++ [d], c.w.kind = .back ∧ vd c = false ∧ c.nm ∉ (deadStep vd F d).map (·.1) ∧ tgt c.w = x) ↔ (∃ c ∈ P ++ [d], c.w.kind = .back ∧ vd c = false ∧ c.nm ∉ F.map (·.1) ∧ tgt c.w = x) :=
      ⟨fun ⟨c, a, b, g, h, k⟩ => ⟨c, a, b, g, fun z => h ((keep c a).mpr z), k⟩, fun ⟨c, a, b, g, h, k⟩ => ⟨c, a, b, g, fun z => h ((keep c a).mp z), k⟩⟩
    rw [key]
    have sp : (∃ c ∈ P ++ [d], c.w.kind = .back ∧ vd c = false ∧ c.nm ∉ F.map (·.1) ∧ tgt c.w = x) ↔ x ∈ F.map (·.1) ∨ (d.w.kind = .back ∧ vd d = false ∧ d.nm ∉ F.map (·.1) ∧ tgt d.w = x) := by
      rw [I.i2]
      constructor
      · rintro ⟨c, hc, r⟩
        rcases List.mem_append.mp hc with w | w
        · exact .inl ⟨c, w, r⟩
        · rw [show c = d by simpa using w] at r
          exact .inr r
      · rintro (⟨c, hc, r⟩ | r)
        · exact ⟨c, List.mem_append_left _ hc, r⟩
        · exact ⟨d, by simp, r⟩
    rw [sp]
    unfold deadStep
    split
    · next c =>
      rw [putA_mem]
      exact or_congr Iff.rfl ⟨fun z => ⟨c.1, c.2.2, c.2.1, z.symm⟩, fun z => z.2.2.2.symm⟩
    · next c =>
      refine ⟨.inl, fun z => z.elim id fun z => absurd ⟨z.1, z.2.2.1, z.2.1⟩ c⟩
end
def deadL (vd : Deed → Bool) (rows : List Deed) : List (Name × Unit) := rows.reverse.foldl (deadStep vd) []
def marksL (vd : Deed → Bool) (rows : List Deed) : List (Name × Bool) := rows.reverse.foldl (markStep (backs vd rows)) []
theorem minv_all {vd : Deed → Bool} {rows : List Deed} (hu : Uq rows) (ha : rows.Pairwise SltD) (hv : ∀ c ∈ rows, ∀ e ∈ rows, vd c = false → e.nm = tgt c.w → slt e.st c.st) : ∀ (l P : List Deed) (F : List (Name × Unit)) (M : List (Name × Bool)), rows.reverse = P ++ l → MInv vd P F M → MInv vd rows.reverse (l.foldl (deadStep vd) F) (l.foldl (markStep (backs vd rows)) M)
  | [], P, F, M, hr, I => by rw [hr, List.append_nil]; exact I
  | d :: l, P, F, M, hr, I => minv_all hu ha hv l (P ++ [d]) _ _ (by rw [hr, List.append_assoc]; rfl) (minv_step hu ha hv hr I)
theorem deadStep_len (vd : Deed → Bool) (F : List (Name × Unit)) (d : Deed) : (deadStep vd F d).length ≤ F.length + 1 := by
  unfold deadStep
  split
  · exact putA_len _ _ _
  · omega
/-- who is alive -/
def aliveL (rows : List Deed) : List Deed := rows.filter fun d => decide (SB d) || !decide (d.nm ∈ (deadL (voidB rows) rows).map (·.1))
theorem alive_marks {rows : List Deed} (hu : Uq rows) (ha : rows.Pairwise SltD) : (rows.filter fun d => !((getA (marksL (voidB rows) rows) d.nm).getD false)) = aliveL rows := by
  have I := minv_all (vd := voidB rows) hu ha (fun c hc e he hv hn => nonvoid hv he hn) rows.reverse [] [] [] rfl minv_nil
  refine List.filter_congr fun d hd => ?_
  have := I.i1 d (List.mem_reverse.mpr hd)
  show (!((getA (rows.reverse.foldl (markStep (backs (voidB rows) rows)) []) d.nm).getD false)) = _
  rw [this]
  show (!(!decide (SB d) && decide _)) = _
  rw [Bool.not_and, Bool.not_not]
  rfl
/-- worths -/
def worthStep (ws : List Int) (d : Deed) : List Int := match d.w with
  | .put k w => ws.set k.toNat w
  | .add k w => ws.set k.toNat (ws.getD k.toNat 0 + w)
  | _ => ws
def worthsL (rows : List Deed) : List Int := (aliveL rows).foldl worthStep [0, 0, 0, 0, 0, 0]
theorem worthStep_len (ws : List Int) (d : Deed) : (worthStep ws d).length = ws.length := by
  unfold worthStep
  split <;> simp
end DL

/-! ### k02: the rest of the sets -/
namespace Law
open PySem L2 DL
theorem need_house_ok {h : Int} {μ : Store} (h0 : 0 ≤ h) (h8 : h < 8) : m_need_house [.int h] μ = .ok (.sh .non) μ := by
  simp [m_need_house, b_need_house, h0, h8]
theorem ints_map (ns : List Int) : D.ints (ns.map .int) = some ns := by
  induction ns with
  | nil => rfl
  | cons n ns ih =>
    show (D.ints (ns.map .int)).map (n :: ·) = _
    rw [ih]
    rfl
theorem count_of_ok {rs : List Row} {μ : Store} (hl : rs.length < 16777216) : m_count_of [rsD rs] μ = .ok (.sh (.int (St.cntR rs))) μ := by
  have h := lc_fm (enc := rowD) (g := gN 1) (t := mYes) (e := e_count_of_1) (ρ := [.sh (rsD rs), .no]) (μ := μ) (fun _ => true) (fun r => .int (r.2.2 - r.2.1 + 1)) rs [] (by simp; omega) (fun r _ => ⟨_, rfl, rfl, fun _ => by
    obtain ⟨h, a, b⟩ := r
    simp [e_count_of_1]⟩)
  rw [List.filter_eq_self.mpr (fun _ _ => rfl), List.nil_append, show (rs.map fun r => D.int (r.2.2 - r.2.1 + 1)) = (rs.map fun r => r.2.2 - r.2.1 + 1).map .int by rw [List.map_map]; rfl] at h
  have e : ∀ ns : List Int, fSum [.ob (.lst (ns.map .int))] = some (.sh (.int ns.sum)) := fun ns => by
    show (D.ints (ns.map .int)).map _ = _
    rw [ints_map]
    rfl
  unfold St.cntR
  generalize (rs.map fun r => r.2.2 - r.2.1 + 1) = ns at h ⊢
  simp [m_count_of, b_count_of, List.replicate, h, e]
section
variable {k l : Nat} {a b : List Row} {μ : Store}
theorem common_m (fa : Fit k a) (fb : Fit l b) (hk : k ≤ 200) (hl : l ≤ 200) : m_common [rsD a, rsD b] μ = .ok (.own (.lst ((bothR a b).map rowD))) μ := by
  have ha := (merged_set fa).fit.len
  have hb := (merged_set fb).fit.len
  have hm := in_both_ok (xs := merged a) (ys := merged b) (μ := μ) (small_mul (by omega) (by omega))
  simp [m_common, b_common, plain_m (μ := μ) fa hk, plain_m (μ := μ) fb hl, hm, bothR]
theorem within_m (fa : Fit k a) (fb : Fit l b) (hk : k ≤ 200) (hl : l ≤ 200) : m_within [rsD a, rsD b] μ = .ok (.sh (.bl (decide (lessR a b = [])))) μ := by
  simp [m_within, b_within, less_m (μ := μ) fa fb hk hl, fEq_rows_nil]
theorem amount_m (fa : Fit k a) (hk : k ≤ 200) : m_amount [rsD a] μ = .ok (.sh (.int (St.cntR (merged a)))) μ := by
  have ha := (merged_set fa).fit.len
  have hm := count_of_ok (rs := merged a) (μ := μ) (by omega)
  simp [m_amount, b_amount, plain_m (μ := μ) fa hk, hm]
end
/-! reach, whole_to -/
abbrev reachBody : MS := mIf (mAnd (mT (e2 fEq (eVar 2) (eVar 1))) (mT (e2 fEq (eVar 3) (eC (.int 1))))) (mRet (eVar 4)) (mNx)
theorem reach_loop (h : Int) : ∀ (rs : List Row) (s0 s2 s3 s4 : Sl) (μ : Store), endR (seqR (forL (gT [2, 3, 4]) reachBody (rs.map rowD) [s0, .sh (.int h), s2, s3, s4] μ) (mRet (eC (.int 0)))) = .ok (.sh (.int (St.reachR rs h))) μ
  | [], s0, s2, s3, s4, μ => by simp [forL, St.reachR]
  | r :: rs, s0, s2, s3, s4, μ => by
    obtain ⟨rh, a, b⟩ := r
    have ih := reach_loop h rs s0 (.sh (.int rh)) (.sh (.int a)) (.sh (.int b)) μ
    rw [List.map_cons, forL, St.reachR]
    by_cases c1 : rh = h
    · by_cases c2 : a = 1
      · simp [c1, c2]
      · rw [if_neg (fun z => c2 z.2), ← ih]
        simp [c1, c2]
    · rw [if_neg (fun z => c1 z.1), ← ih]
      simp [c1]
theorem reach_m {rs : List Row} {h : Int} {μ : Store} : m_reach [rsD rs, .int h] μ = .ok (.sh (.int (St.reachR rs h))) μ := by
  have := reach_loop h rs (.sh (rsD rs)) .no .no .no μ
  have e : m_reach = runB 5 2 (mSeq (mFor (iSeq (eVar 0)) (gT [2, 3, 4]) reachBody) (mRet (eC (.int 0)))) := rfl
  rw [e]
  simpa [List.replicate, -x_mIf] using this
theorem whole_m {k : Nat} {a : List Row} {h : Int} {μ : Store} (fa : Fit k a) (hk : k ≤ 200) (h0 : 0 ≤ h) (h8 : h < 8) : m_whole_to [rsD a, .int h] μ = .ok (.sh (.int (St.reachR (merged a) h))) μ := by
  simp [m_whole_to, b_whole_to, plain_m (μ := μ) fa hk, need_house_ok h0 h8, reach_m]
theorem held_gen {x : D} {rs : List Row} {h n : Int} {μ : Store} (hx : x.items = some (rs.map rowD)) (hl : rs.length ≤ 16777216) : m_held [x, .int h, .int n] μ = .ok (.sh (.bl (hasR rs (h, n)))) μ := by
  have lc := lc_fm (enc := rowD) (g := gN 3) (t := t_held_1) (e := e_held_1) (ρ := [.sh x, .sh (.int h), .sh (.int n), .no]) (μ := μ) (fun r => decide (r.1 = h) && (decide (r.2.1 ≤ n) && decide (n ≤ r.2.2))) rowD rs [] (by simpa using hl) (fun r hr => ⟨_, rfl, by
    obtain ⟨a, b, c⟩ := r
    by_cases c1 : a = h
    · by_cases c2 : b ≤ n
      · simp [t_held_1, c1, c2]
      · simp [t_held_1, c1, c2]
    · simp [t_held_1, c1], fun z => by simp [e_held_1]⟩)
  have e : decide ((rs.filter fun r => decide (r.1 = h) && (decide (r.2.1 ≤ n) && decide (n ≤ r.2.2))) = []) = !hasR rs (h, n) := by
    unfold hasR
    rw [Bool.eq_iff_iff, decide_eq_true_eq, List.filter_eq_nil_iff, Bool.not_eq_true', List.any_eq_false]
  have q := fNe_rows_nil (rs.filter fun r => decide (r.1 = h) && (decide (r.2.1 ≤ n) && decide (n ≤ r.2.2)))
  rw [e, Bool.not_not] at q
  simp [m_held, b_held, List.replicate, hx, lc, q]
end Law

/-! ### k02: gaps -/
namespace Law
open PySem L2 DL
namespace Gp
abbrev KV := List (Int × Int)
def kD (kv : KV) : List (Key × D) := kv.map fun p => (.inl p.1, .int p.2)
def putI (kv : KV) (h e : Int) : KV := if h ∈ kv.map (·.1) then kv.map (fun p => if p.1 = h then (p.1, e) else p) else kv ++ [(h, e)]
theorem kD_any (h : Int) : ∀ kv : KV, ((kD kv).any fun p => decide (p.1 = Sum.inl h)) = decide (h ∈ kv.map (·.1))
  | [] => rfl
  | p :: kv => by
    have ih := kD_any h kv
    show (decide ((Sum.inl p.1 : Key) = Sum.inl h) || (kD kv).any _) = _
    rw [ih]
    by_cases c : p.1 = h
    · simp [c]
    · have c' : ¬ h = p.1 := fun z => c z.symm
      simp [c, c']
theorem kD_put (kv : KV) (h e : Int) : putD (kD kv) (.inl h) (.int e) = kD (putI kv h e) := by
  unfold putD putI
  rw [kD_any]
  by_cases c : h ∈ kv.map (·.1)
  · rw [if_pos c, if_pos (decide_eq_true c)]
    unfold kD
    rw [List.map_map, List.map_map]
    refine List.map_congr_left fun p _ => ?_
    show (if (Sum.inl p.1 : Key) = Sum.inl h then _ else _) = _
    by_cases d : p.1 = h
    · simp [d]
    · simp [d]
  · rw [if_neg c, if_neg (by simpa using c)]
    unfold kD
    rw [List.map_append]
    rfl
theorem put_mem {kv : KV} {k v h e : Int} : (h, e) ∈ putI kv k v ↔ (h = k ∧ e = v) ∨ (h ≠ k ∧ (h, e) ∈ kv) := by
  unfold putI
  split
  · next c =>
    rw [List.mem_map]
    constructor
    · rintro ⟨p, hp, e1⟩
      split at e1
      · next d =>
        have a : p.1 = h := congrArg Prod.fst e1
        have b : v = e := congrArg Prod.snd e1
        exact .inl ⟨by omega, b.symm⟩
      · next d =>
        rw [e1] at hp d
        exact .inr ⟨d, hp⟩
    · rintro (⟨a, b⟩ | ⟨a, b⟩)
      · obtain ⟨p, hp, e1⟩ := List.mem_map.mp c
        exact ⟨p, hp, by rw [if_pos e1, e1, a, b]⟩
      · exact ⟨(h, e), b, by rw [if_neg a]⟩
  · next c =>
    rw [List.mem_append, List.mem_singleton]
    constructor
    · rintro (a | a)
      · refine .inr ⟨fun z => c (List.mem_map.mpr ⟨(h, e), a, z⟩), a⟩
      · have a1 : h = k := congrArg Prod.fst a
        have a2 : e = v := congrArg Prod.snd a
        exact .inl ⟨a1, a2⟩
    · rintro (⟨a, b⟩ | ⟨a, b⟩)
      · exact .inr (by rw [a, b])
      · exact .inl b
theorem put_nodup {kv : KV} {k v : Int} (h : (kv.map (·.1)).Nodup) : ((putI kv k v).map (·.1)).Nodup := by
  unfold putI
  split
  · rw [List.map_map]
    have : ((fun p : Int × Int => p.1) ∘ fun p => if p.1 = k then (p.1, v) else p) = fun p => p.1 := by
      funext p
      show (if p.1 = k then (p.1, v) else p).1 = p.1
      split <;> rfl
    rw [this]
    exact h
  · next c =>
    rw [List.map_append]
    refine List.nodup_append.mpr ⟨h, by simp, fun a ha b hb => ?_⟩
    have : b = k := by simpa using hb
    rw [this]
    exact fun z => c (z ▸ ha)
def lastI (kv : KV) : List Row → KV
  | [] => kv
  | r :: rs => lastI (putI kv r.1 r.2.2) rs
structure LastOk (done : List Row) (kv : KV) : Prop where
  nd : (kv.map (·.1)).Nodup
  src : ∀ h e, (h, e) ∈ kv → ∃ r ∈ done, r.1 = h ∧ r.2.2 = e
  top : ∀ q ∈ done, ∃ e, (q.1, e) ∈ kv ∧ q.2.2 ≤ e
theorem last_ok : ∀ (rs : List Row) (done : List Row) (kv : KV), St.Canon (done ++ rs) → LastOk done kv → LastOk (done ++ rs) (lastI kv rs)
  | [], done, kv, _, h => by rw [List.append_nil]; exact h
  | r :: rs, done, kv, c, h => by
    have e : done ++ r :: rs = (done ++ [r]) ++ rs := by rw [List.append_assoc]; rfl
    rw [e] at c ⊢
    have or : r.2.1 ≤ r.2.2 := c.1 r (List.mem_append_left _ (List.mem_append_right _ List.mem_cons_self))
    refine last_ok rs _ _ c ⟨put_nodup h.nd, fun a b m => ?_, fun q hq => ?_⟩
    · rcases put_mem.mp m with ⟨x, y⟩ | ⟨x, y⟩
      · exact ⟨r, List.mem_append_right _ List.mem_cons_self, x.symm, y.symm⟩
      · obtain ⟨q, hq, z⟩ := h.src a b y
        exact ⟨q, List.mem_append_left _ hq, z⟩
    · rcases List.mem_append.mp hq with hq | hq
      · by_cases d : q.1 = r.1
        · have s : St.Sep q r := (List.pairwise_append.mp (List.pairwise_append.mp c.2).1).2.2 q hq r List.mem_cons_self
          refine ⟨r.2.2, put_mem.mpr (.inl ⟨d, rfl⟩), ?_⟩
          unfold St.Sep at s
          omega
        · obtain ⟨x, y, z⟩ := h.top q hq
          exact ⟨x, put_mem.mpr (.inr ⟨d, y⟩), z⟩
      · have : q = r := by simpa using hq
        rw [this]
        exact ⟨r.2.2, put_mem.mpr (.inl ⟨rfl, rfl⟩), Int.le_refl _⟩
def valI : KV → Int → Int
  | [], _ => 0
  | p :: kv, h => if p.1 = h then p.2 else valI kv h
theorem val_get : ∀ {kv : KV} {h : Int}, h ∈ kv.map (·.1) → getK (kD kv) (Sum.inl h) = some (.int (valI kv h))
  | [], h, m => by simp at m
  | p :: kv, h, m => by
    unfold getK kD valI
    rw [List.map_cons, List.find?_cons]
    by_cases c : p.1 = h
    · rw [if_pos c]
      have : decide ((Sum.inl p.1 : Key) = Sum.inl h) = true := decide_eq_true (by rw [c])
      rw [this]
      rfl
    · rw [if_neg c]
      have : decide ((Sum.inl p.1 : Key) = Sum.inl h) = false := decide_eq_false (fun z => c (Sum.inl.inj z))
      rw [this]
      refine val_get ?_
      rcases List.mem_cons.mp m with e | e
      · exact absurd e.symm c
      · exact e
theorem val_mem : ∀ {kv : KV} {h : Int}, h ∈ kv.map (·.1) → (h, valI kv h) ∈ kv
  | [], h, m => by simp at m
  | p :: kv, h, m => by
    unfold valI
    by_cases c : p.1 = h
    · rw [if_pos c]
      have : (h, p.2) = p := by rw [← c]
      rw [this]
      exact List.mem_cons_self
    · rw [if_neg c]
      refine List.mem_cons_of_mem _ (val_mem ?_)
      rcases List.mem_cons.mp m with e | e
      · exact absurd e.symm c
      · exact e
theorem val_uniq : ∀ {kv : KV} {h e : Int}, (kv.map (·.1)).Nodup → (h, e) ∈ kv → valI kv h = e
  | [], h, e, _, m => by simp at m
  | p :: kv, h, e, nd, m => by
    obtain ⟨n1, n2⟩ := List.nodup_cons.mp nd
    unfold valI
    rcases List.mem_cons.mp m with c | c
    · rw [← c, if_pos rfl]
    · rw [if_neg (fun z => n1 (List.mem_map.mpr ⟨(h, e), c, z.symm⟩))]
      exact val_uniq n2 c
def wholes (kv : KV) : List Row := (sortI (kv.map (·.1))).map fun h => (h, 1, valI kv h)
theorem wholes_spec {z : List Row} (c : St.Canon z) (hp : ∀ h n, St.In z h n → 1 ≤ n) {kv : KV} (k : LastOk z kv) : St.Canon (wholes kv) ∧ ∀ h n, St.In (wholes kv) h n ↔ 1 ≤ n ∧ ∃ m, n ≤ m ∧ St.In z h m := by
  have mk : ∀ {h}, h ∈ sortI (kv.map (·.1)) ↔ h ∈ kv.map (·.1) := fun {h} => (sortI_perm _).mem_iff
  have vz : ∀ h, h ∈ kv.map (·.1) → St.In z h (valI kv h) := fun h m => by
    obtain ⟨r, hr, a, b⟩ := k.src _ _ (val_mem m)
    rw [← b, ← a]
    exact St.in_row hr (c.1 r hr) (Int.le_refl _)
  refine ⟨⟨fun r hr => ?_, ?_⟩, fun h n => ?_⟩
  · obtain ⟨h, hh, e⟩ := List.mem_map.mp hr
    rw [← e]
    exact hp _ _ (vz h (mk.mp hh))
  · unfold wholes
    rw [List.pairwise_map]
    have nd : (sortI (kv.map (·.1))).Nodup := (sortI_perm _).nodup_iff.mpr k.nd
    have sd : (sortI (kv.map (·.1))).Pairwise (· ≤ ·) := sortI_sorted _
    have nd : (sortI (kv.map (·.1))).Pairwise (· ≠ ·) := nd
    refine (sd.and nd).imp fun {a b} h => ?_
    have h1 : a ≤ b := h.1
    have h2 : a ≠ b := h.2
    exact .inl (show a < b by omega)
  · constructor
    · rintro ⟨r, hr, a, b, d⟩
      obtain ⟨x, hx, e⟩ := List.mem_map.mp hr
      rw [← e] at a b d
      have a : x = h := a
      exact ⟨b, valI kv x, d, a ▸ vz x (mk.mp hx)⟩
    · rintro ⟨h1, m, hm, ⟨r, hr, a, b, d⟩⟩
      obtain ⟨e, e1, e2⟩ := k.top r hr
      have hk : h ∈ kv.map (·.1) := List.mem_map.mpr ⟨(r.1, e), e1, a⟩
      refine ⟨(h, 1, valI kv h), List.mem_map.mpr ⟨h, mk.mpr hk, rfl⟩, rfl, h1, ?_⟩
      show n ≤ valI kv h
      rw [← a, val_uniq k.nd e1]
      omega
def gapsR (a : List Row) : List Row := St.cutOut (wholes (lastI [] (merged a))) (merged a)
section
variable {k : Nat} {a : List Row} {μ : Store}
theorem last_fit (fa : Fit k a) : LastOk (merged a) (lastI [] (merged a)) := last_ok (merged a) [] [] (merged_set fa).can ⟨by simp, fun h e m => by simp at m, fun q hq => by simp at hq⟩
theorem wholes_fit (fa : Fit k a) : St.Canon (wholes (lastI [] (merged a))) ∧ ∀ h n, St.In (wholes (lastI [] (merged a))) h n ↔ 1 ≤ n ∧ ∃ m, n ≤ m ∧ St.In a h m := by
  obtain ⟨c, e⟩ := wholes_spec (merged_set fa).can (fun h n i => ((merged_set fa).fit.box i).2.2.1) (last_fit fa)
  refine ⟨c, fun h n => (e h n).trans ?_⟩
  constructor
  · rintro ⟨x, m, y, i⟩
    exact ⟨x, m, y, (merged_in fa h m).mp i⟩
  · rintro ⟨x, m, y, i⟩
    exact ⟨x, m, y, (merged_in fa h m).mpr i⟩
theorem keys_len (fa : Fit k a) : ((lastI [] (merged a)).map (·.1)).length ≤ 8 := by
  refine Nat.le_trans (St.nodup_len (m := [0, 1, 2, 3, 4, 5, 6, 7]) (last_fit fa).nd fun h hh => ?_) (Nat.le_refl _)
  obtain ⟨p, hp, e⟩ := List.mem_map.mp hh
  obtain ⟨r, hr, x, y⟩ := (last_fit fa).src p.1 p.2 hp
  have g := (merged_set fa).fit.good r hr
  unfold Good at g
  have : 0 ≤ h ∧ h < 8 := by omega
  have : h = 0 ∨ h = 1 ∨ h = 2 ∨ h = 3 ∨ h = 4 ∨ h = 5 ∨ h = 6 ∨ h = 7 := by omega
  simpa using this
theorem wholes_len (fa : Fit k a) : (wholes (lastI [] (merged a))).length ≤ 8 := by
  unfold wholes
  rw [List.length_map, (sortI_perm _).length_eq]
  exact keys_len fa
theorem gaps_in (fa : Fit k a) (h n : Int) : St.In (gapsR a) h n ↔ (1 ≤ n ∧ ∃ m, n ≤ m ∧ St.In a h m) ∧ ¬ St.In a h n := by
  unfold gapsR
  rw [(St.cutOut_ok (wholes_fit fa).1 (merged_set fa).can).2, (wholes_fit fa).2, merged_in fa]
theorem gaps_set (fa : Fit k a) : Set (8 + k) (gapsR a) := by
  have c := St.cutOut_ok (wholes_fit fa).1 (merged_set fa).can
  refine ⟨c.1, fit_of c.1 (fun h n i => ?_) ?_⟩
  · obtain ⟨⟨h1, m, h2, h3⟩, _⟩ := (gaps_in fa h n).mp i
    have := fa.box h3
    omega
  · have := St.cut_len c.1 c.2
    have := wholes_len fa
    have := (merged_set fa).fit.len
    unfold gapsR
    omega
end
theorem put_len (kv : KV) (h e : Int) : (putI kv h e).length ≤ kv.length + 1 := by
  unfold putI
  split
  · rw [List.length_map]; omega
  · rw [List.length_append]; exact Nat.le_refl _
theorem fSet_kD {kv : KV} {h e : Int} (hl : kv.length < 16777216) : fSet (.dK (kD kv)) (.int h) (.int e) = some (.dK (kD (putI kv h e))) := by
  show (if (kD kv).length < 16777216 then some (Ob.dK (putD (kD kv) (.inl h) (.int e))) else none) = _
  rw [kD_put, if_pos (by unfold kD; rw [List.length_map]; exact hl)]
theorem last_loop : ∀ (rs : List Row) (kv : KV) (s0 s1 s3 s4 s5 : Sl) (μ : Store), kv.length + rs.length < 16777216 →
    ∃ t3 t4 t5, forL (gT [3, 4, 5]) (mSetIt (eVar 5) (eVar 2) (eVar 3)) (rs.map rowD) [s0, s1, .own (.dK (kD kv)), s3, s4, s5] μ = .ok (.nx, [s0, s1, .own (.dK (kD (lastI kv rs))), t3, t4, t5]) μ
  | [], kv, s0, s1, s3, s4, s5, μ, _ => ⟨s3, s4, s5, rfl⟩
  | r :: rs, kv, s0, s1, s3, s4, s5, μ, hl => by
    obtain ⟨h, a, b⟩ := r
    simp only [List.length_cons] at hl
    have pl := put_len kv h b
    obtain ⟨t3, t4, t5, ih⟩ := last_loop rs (putI kv h b) s0 s1 (.sh (.int h)) (.sh (.int a)) (.sh (.int b)) μ (by omega)
    refine ⟨t3, t4, t5, ?_⟩
    rw [lastI, ← ih, List.map_cons, forL]
    simp [fSet_kD (kv := kv) (h := h) (e := b) (by omega)]
abbrev wholeElt : ME := eTup (aCons (eVar 3) (aCons (eC (.int 1)) (aCons (e2 fIx (eVar 2) (eVar 3)) (aNil))))
theorem fIx_kD {kv : KV} {h : Int} (m : h ∈ kv.map (·.1)) : fIx (.ob (.dK (kD kv))) (.d (.int h)) = some (.sh (.int (valI kv h))) := by
  show (match (some (getK (kD kv) (Sum.inl h)) : Option (Option D)) with | some (some d) => some (Rv.sh d) | _ => none) = _
  rw [val_get m]
theorem whole_loop (kv : KV) (s0 s1 s4 s5 : Sl) : ∀ (hs : List Int) (acc : List Row) (μ : Store), (∀ h ∈ hs, h ∈ kv.map (·.1)) → acc.length + hs.length < 16777216 →
    lcL (gN 3) mYes wholeElt [s0, s1, .own (.dK (kD kv)), .no, s4, s5] (hs.map .int) μ (acc.map rowD) = .ok ((acc ++ hs.map fun h => (h, 1, valI kv h)).map rowD) μ
  | [], acc, μ, _, _ => by simp [lcL]
  | h :: hs, acc, μ, hm, hl => by
    simp only [List.length_cons] at hl
    have hl' : acc.length < 16777216 := by omega
    have ih := whole_loop kv s0 s1 s4 s5 hs (acc ++ [(h, 1, valI kv h)]) μ (fun q hq => hm q (List.mem_cons_of_mem _ hq)) (by simp only [List.length_append, List.length_cons, List.length_nil]; omega)
    have fx := fIx_kD (hm h List.mem_cons_self)
    have e : acc ++ (h :: hs).map (fun h => (h, 1, valI kv h)) = acc ++ [(h, 1, valI kv h)] ++ hs.map fun h => (h, 1, valI kv h) := by rw [List.append_assoc]; rfl
    rw [e, ← ih, ← snoc_rows, List.map_cons, lcL]
    simp [hl', fx]
theorem keyInts_kD : ∀ kv : KV, keyInts ((kD kv).map (·.1)) = some (kv.map (·.1))
  | [] => rfl
  | p :: kv => by
    show (keyInts ((kD kv).map (·.1))).map (p.1 :: ·) = _
    rw [keyInts_kD kv]
    rfl
theorem fSorted_kD {kv : KV} (h : (kv.map (·.1)).length < 64) : fSorted [.ob (.dK (kD kv))] = some (.own (.lst ((sortI (kv.map (·.1))).map .int))) := by
  show ((keyInts ((kD kv).map (·.1))).bind fun ns => if ns.length < 64 then some (Rv.own (.lst ((sortI ns).map .int))) else none) = _
  rw [keyInts_kD]
  show (if _ then _ else _) = _
  rw [if_pos h]
theorem gaps_m {k : Nat} {a : List Row} {μ : Store} (fa : Fit k a) (hk : k ≤ 200) : m_gaps [rsD a] μ = .ok (.own (.lst ((gapsR a).map rowD))) μ := by
  have hl := (merged_set fa).fit.len
  have kl := keys_len fa
  have wl := wholes_len fa
  obtain ⟨t3, t4, t5, h1⟩ := last_loop (merged a) [] (.sh (rsD a)) (.sh (rsD (merged a))) .no .no .no μ (by simp only [List.length_nil]; omega)
  have h2 := whole_loop (lastI [] (merged a)) (.sh (rsD a)) (.sh (rsD (merged a))) t4 t5 (sortI ((lastI [] (merged a)).map (·.1))) [] μ (fun h hh => (sortI_perm _).mem_iff.mp hh) (by rw [(sortI_perm _).length_eq]; simp only [List.length_nil]; omega)
  simp only [List.map_nil, List.nil_append] at h2
  have h2 : lcL (gN 3) mYes e_gaps_1 [.sh (rsD a), .sh (rsD (merged a)), .own (.dK (kD (lastI [] (merged a)))), .no, t4, t5] ((sortI ((lastI [] (merged a)).map (·.1))).map .int) μ [] = Res.ok ((wholes (lastI [] (merged a))).map rowD) μ := h2
  have h3 := fSorted_kD (kv := lastI [] (merged a)) (by omega)
  have h4 := cut_out_ok (xs := wholes (lastI [] (merged a))) (ys := merged a) (μ := μ) (small_mul (by omega) (by omega))
  have h5 := plain_m (μ := μ) fa hk
  have h1 : forL (gT [3, 4, 5]) b_gaps_1 ((merged a).map rowD) [.sh (rsD a), .sh (rsD (merged a)), .own (.dK []), .no, .no, .no] μ = _ := h1
  have h3b : fSrt [.ob (.dK (kD (lastI [] (merged a))))] = some (.own (.lst ((sortI ((lastI [] (merged a)).map (·.1))).map .int))) := h3
  simp only [rsD] at h4 h5 ⊢
  simp only [rsD] at h1 h2
  simp [m_gaps, b_gaps, List.replicate, h5, h1, h3b, h2, h4, gapsR]
end Gp
end Law

/-! ### k02: sets by names -/
namespace Law
open PySem L2 DL
abbrev nmE (a : List Row) : List Name := St.expand (merged a)
theorem exp_len : ∀ {rs : List Row}, (∀ r ∈ rs, St.Ok r) → ((St.expand rs).length : Int) = St.cntR rs
  | [], _ => rfl
  | r :: rs, h => by
    have ih := exp_len (rs := rs) fun q hq => h q (List.mem_cons_of_mem _ hq)
    have o := h r List.mem_cons_self
    unfold St.Ok at o
    unfold St.expand at ih ⊢
    unfold St.cntR at ih ⊢
    rw [List.flatMap_cons, List.length_append, List.length_map, List.length_range, List.map_cons, List.sum_cons, ← ih]
    omega
theorem cnt_moved (d : Int) (rs : List Row) : St.cntR (St.moved d rs) = St.cntR rs := by
  unfold St.cntR St.moved
  rw [List.map_map]
  congr 1
  refine List.map_congr_left fun r _ => ?_
  show r.2.2 + d - (r.2.1 + d) + 1 = r.2.2 - r.2.1 + 1
  omega
theorem Low.moved {far d : Int} {k : Nat} {rs : List Row} (h : Low far k rs) (h0 : 0 ≤ d) (hd : far + d ≤ 1000000000000) : Fit k (St.moved d rs) := by
  refine ⟨fun r hr => ?_, by unfold St.moved; rw [List.length_map]; exact h.1.len⟩
  obtain ⟨q, hq, rfl⟩ := List.mem_map.mp hr
  have g := h.1.good q hq
  have := h.2 q hq
  unfold Good at g ⊢
  simp only
  omega
section
variable {far d : Int} {k l : Nat} {a b : List Row}
theorem plain_moved (ha : Low far k a) (h0 : 0 ≤ d) (hd : far + d ≤ 1000000000000) : merged (St.moved d a) = St.moved d (merged a) := by
  refine St.canon_ext (merged_set (ha.moved h0 hd)).can (St.canon_moved (merged_set ha.1).can) fun h n => ?_
  rw [merged_in (ha.moved h0 hd), St.in_moved, St.in_moved, merged_in ha.1]
theorem less_moved (ha : Low far k a) (hb : Low far l b) (h0 : 0 ≤ d) (hd : far + d ≤ 1000000000000) : lessR (St.moved d a) (St.moved d b) = St.moved d (lessR a b) := by
  refine St.canon_ext (less_set (ha.moved h0 hd) (hb.moved h0 hd)).can (St.canon_moved (less_set ha.1 hb.1).can) fun h n => ?_
  rw [less_in (ha.moved h0 hd) (hb.moved h0 hd), St.in_moved, St.in_moved, St.in_moved, less_in ha.1 hb.1]
theorem both_moved (ha : Low far k a) (hb : Low far l b) (h0 : 0 ≤ d) (hd : far + d ≤ 1000000000000) : bothR (St.moved d a) (St.moved d b) = St.moved d (bothR a b) := by
  refine St.canon_ext (both_set (ha.moved h0 hd) (hb.moved h0 hd)).can (St.canon_moved (both_set ha.1 hb.1).can) fun h n => ?_
  rw [both_in (ha.moved h0 hd) (hb.moved h0 hd), St.in_moved, St.in_moved, St.in_moved, both_in ha.1 hb.1]
theorem join_moved (ha : Low far k a) (hb : Low far l b) (h0 : 0 ≤ d) (hd : far + d ≤ 1000000000000) : joinR (St.moved d a) (St.moved d b) = St.moved d (joinR a b) := by
  refine St.canon_ext (join_set (ha.moved h0 hd) (hb.moved h0 hd)).can (St.canon_moved (join_set ha.1 hb.1).can) fun h n => ?_
  rw [join_in (ha.moved h0 hd) (hb.moved h0 hd), St.in_moved, St.in_moved, St.in_moved, join_in ha.1 hb.1]
theorem moved_nil {z : List Row} : St.moved d z = [] ↔ z = [] := by
  unfold St.moved
  simp
theorem nmE_mem (ha : Fit k a) {x : Name} : x ∈ nmE a ↔ St.In a x.1 x.2 := by
  have : x = (x.1, x.2) := rfl
  rw [this, St.expand_mem, merged_in ha]
theorem nmE_asc (ha : Fit k a) : St.Asc (nmE a) := St.expand_asc (merged_set ha).can
def bothN (a b : List Row) : List Name := (nmE a).filter fun x => decide (x ∈ nmE b)
def lessN (a b : List Row) : List Name := (nmE a).filter fun x => !decide (x ∈ nmE b)
def joinN (a b : List Row) : List Name := St.expand (joinR a b)
theorem told_nm (ha : Fit k a) : St.toldR (nmE a) = merged a := St.told_expand (merged_set ha).can
theorem told_both (ha : Fit k a) (hb : Fit l b) : St.Asc (bothN a b) ∧ St.toldR (bothN a b) = bothR a b := by
  have as : St.Asc (bothN a b) := (nmE_asc ha).filter _
  obtain ⟨t1, t2⟩ := St.told_spec as
  refine ⟨as, St.canon_ext t1 (both_set ha hb).can fun h n => ?_⟩
  unfold bothN at t2
  show St.In (St.toldR (bothN a b)) h n ↔ _
  unfold bothN
  rw [t2, List.mem_filter, nmE_mem ha, decide_eq_true_eq, nmE_mem hb, both_in ha hb]
theorem told_less (ha : Fit k a) (hb : Fit l b) : St.Asc (lessN a b) ∧ St.toldR (lessN a b) = lessR a b := by
  have as : St.Asc (lessN a b) := (nmE_asc ha).filter _
  obtain ⟨t1, t2⟩ := St.told_spec as
  refine ⟨as, St.canon_ext t1 (less_set ha hb).can fun h n => ?_⟩
  unfold lessN at t2 ⊢
  rw [t2, List.mem_filter, nmE_mem ha, Bool.not_eq_true', decide_eq_false_iff_not, nmE_mem hb, less_in ha hb]
theorem told_join (ha : Fit k a) (hb : Fit l b) : St.Asc (joinN a b) ∧ St.toldR (joinN a b) = joinR a b ∧ ∀ x, x ∈ joinN a b ↔ x ∈ nmE a ++ nmE b := by
  have c := (join_set ha hb).can
  refine ⟨St.expand_asc c, St.told_expand c, fun x => ?_⟩
  have e : x = (x.1, x.2) := rfl
  rw [List.mem_append, nmE_mem ha, nmE_mem hb]
  unfold joinN
  rw [e, St.expand_mem, join_in ha hb]
theorem less_nil (ha : Fit k a) (hb : Fit l b) : lessR a b = [] ↔ lessN a b = [] := by
  obtain ⟨as, e⟩ := told_less ha hb
  rw [← e]
  constructor
  · intro h
    cases c : lessN a b with
    | nil => rfl
    | cons x ns =>
      have := ((St.told_spec as).2 x.1 x.2).mpr (by rw [c]; exact List.mem_cons_self)
      rw [h] at this
      exact absurd this St.in_nil
  · intro h
    rw [h]
    rfl
theorem hasR_iff {rs : List Row} {x : Name} : hasR rs x = true ↔ St.In rs x.1 x.2 := by
  unfold hasR St.In
  rw [List.any_eq_true]
  constructor
  · rintro ⟨r, hr, h⟩
    simp only [Bool.and_eq_true, decide_eq_true_eq] at h
    exact ⟨r, hr, h.1, h.2.1, h.2.2⟩
  · rintro ⟨r, hr, a, b, c⟩
    exact ⟨r, hr, by simp [a, b, c]⟩
theorem has_moved (ha : Fit k a) {h n : Int} : hasR (St.moved d a) (h, n + d) = decide ((h, n) ∈ nmE a) := by
  rw [Bool.eq_iff_iff, hasR_iff, decide_eq_true_eq, nmE_mem ha, St.in_moved]
  show St.In a h (n + d - d) ↔ _
  rw [Int.add_sub_cancel]
theorem box_len {far : Int} {a b : List Row} {k l : Nat} (ha : Low far k a) (hb : Low far l b) (hf : far ≤ 400) : (joinN a b).length ≤ 3200 := by
  have nd : (joinN a b).Nodup := (told_join ha.1 hb.1).1.imp fun {x y} h => by
    intro e
    subst e
    unfold St.nlt at h
    omega
  refine Nat.le_trans (St.nodup_len (m := (List.range 8).flatMap fun h : Nat => (List.range 400).map fun n : Nat => (((h : Nat) : Int), ((n : Nat) : Int) + 1)) nd fun x hx => ?_) (by decide +kernel)
  have hx := ((told_join ha.1 hb.1).2.2 x).mp hx
  rw [List.mem_append, nmE_mem ha.1, nmE_mem hb.1] at hx
  have bx : 0 ≤ x.1 ∧ x.1 < 8 ∧ 1 ≤ x.2 ∧ x.2 ≤ 400 := by
    rcases hx with i | i
    · have g := ha.1.box i
      obtain ⟨r, hr, _, _, h3⟩ := i
      have := ha.2 r hr
      omega
    · have g := hb.1.box i
      obtain ⟨r, hr, _, _, h3⟩ := i
      have := hb.2 r hr
      omega
  refine List.mem_flatMap.mpr ⟨x.1.toNat, List.mem_range.mpr (by omega), List.mem_map.mpr ⟨(x.2 - 1).toNat, List.mem_range.mpr (by omega), ?_⟩⟩
  refine Prod.ext ?_ ?_
  · show ((x.1.toNat : Nat) : Int) = x.1
    omega
  · show (((x.2 - 1).toNat : Nat) : Int) + 1 = x.2
    omega
end
end Law

/-! ### k02: the law's own gaps, reach, case -/
namespace Law
open PySem L2 DL
theorem maxL_spec : ∀ {ns : List Int}, ns ≠ [] → maxL ns ∈ ns ∧ ∀ n ∈ ns, n ≤ maxL ns
  | [], h => absurd rfl h
  | [i], _ => ⟨List.mem_cons_self, fun n hn => by
    have : n = i := by simpa using hn
    rw [this]
    exact Int.le_refl _⟩
  | i :: j :: r, _ => by
    obtain ⟨a, b⟩ := maxL_spec (ns := j :: r) (by simp)
    have e : maxL (i :: j :: r) = max i (maxL (j :: r)) := rfl
    rw [e]
    refine ⟨?_, fun n hn => ?_⟩
    · rcases Int.le_total i (maxL (j :: r)) with c | c
      · rw [Int.max_eq_right c]
        exact List.mem_cons_of_mem _ a
      · rw [Int.max_eq_left c]
        exact List.mem_cons_self
    · rcases List.mem_cons.mp hn with z | z
      · rw [z]
        exact Int.le_max_left _ _
      · exact Int.le_trans (b n z) (Int.le_max_right _ _)
/-- a dict of names -/
def knownOf (ns : List Name) : List (Name × Unit) := putsA [] (ns.map fun x => (x, ()))
theorem puts_mem : ∀ (ns : List Name) (xs : List (Name × Unit)) (x : Name), x ∈ (putsA xs (ns.map fun x => (x, ()))).map (·.1) ↔ x ∈ xs.map (·.1) ∨ x ∈ ns
  | [], xs, x => by simp [putsA]
  | y :: ns, xs, x => by
    show x ∈ (putsA (putA xs y ()) (ns.map fun x => (x, ()))).map (·.1) ↔ _
    rw [puts_mem ns, putA_mem, List.mem_cons]
    constructor
    · rintro ((a | a) | a)
      · exact .inl a
      · exact .inr (.inl a)
      · exact .inr (.inr a)
    · rintro (a | a | a)
      · exact .inl (.inl a)
      · exact .inl (.inr a)
      · exact .inr a
theorem known_mem {ns : List Name} {x : Name} : x ∈ (knownOf ns).map (·.1) ↔ x ∈ ns := by
  unfold knownOf
  rw [puts_mem]
  simp
abbrev kdO (ns : List Name) : Ob := .dT (dctD nkey tru (knownOf ns))
theorem dict_known (ns : List Name) : fDictT [.ob (.lst (ns.map fun x => .tup [nameD x, .bl true]))] = some (.own (kdO ns)) := by
  have := fDict_of (key := nkey) (val := tru) (ks := fun x : Name => [.int x.1, .int x.2]) (fun _ => rfl) nkey_inj (ns.map fun x => (x, ()))
  rw [List.map_map] at this
  exact this
theorem in_known {ns : List Name} {x : Name} {g : Bool → Bool} : fIn g (.d (nameD x)) (.ob (kdO ns)) = some (.sh (.bl (g (decide (x ∈ ns))))) := by
  rw [fIn_namesD]
  congr 4
  rw [decide_eq_decide]
  exact known_mem
/-- names that lack, of the first houses -/
def gapN (a : List Row) (i : Nat) : List Name := (St.expand (Gp.gapsR a)).filter fun x => decide (x.1 < i)
theorem gapN_mem {k : Nat} {a : List Row} (ha : Fit k a) {i : Nat} {x : Name} : x ∈ gapN a i ↔ x.1 < i ∧ (1 ≤ x.2 ∧ ∃ m, x.2 ≤ m ∧ St.In a x.1 m) ∧ ¬ St.In a x.1 x.2 := by
  unfold gapN
  have e : x = (x.1, x.2) := rfl
  rw [List.mem_filter, decide_eq_true_eq, e, St.expand_mem, Gp.gaps_in ha]
  exact And.comm
theorem gap_turn {k : Nat} {a : List Row} {s3 s5 s6 s7 : Sl} {i : Nat} {μ : Store} {N : Ev → Store → Prop} {T : Rv → Store → Prop} (ha : Low 400 k a) (hk : k ≤ 200) (hi : i < 8) (hg : (gapN a i).length ≤ 400 * i)
    (kk : ∀ t5 t6 t7, (gapN a (i + 1)).length ≤ 400 * (i + 1) → N [.sh (nmD (nmE a)), .sh (nmD (gapN a (i + 1))), .own (kdO (nmE a)), s3, .sh (.int (i : Int)), t5, t6, t7] μ) :
    OkS (b__law_gaps_1 [.sh (nmD (nmE a)), .sh (nmD (gapN a i)), .own (kdO (nmE a)), s3, .sh (.int (i : Int)), s5, s6, s7] μ) N T := by
  have le := expand_len ha (by omega)
  have le : (nmE a).length ≤ 3300 := le
  have l1 := lc_fm (enc := nameD) (g := gT [6, 7]) (t := t__law_gaps_1) (e := e__law_gaps_2) (ρ := [.sh (nmD (nmE a)), .sh (nmD (gapN a i)), .own (kdO (nmE a)), s3, .sh (.int (i : Int)), s5, .no, .no]) (μ := μ) (fun x => decide (x.1 = (i : Int))) (fun x => .int x.2) (nmE a) [] (by simp; omega) (fun x _ => ⟨_, rfl, by
    obtain ⟨h, n⟩ := x
    simp [t__law_gaps_1], fun _ => by
    obtain ⟨h, n⟩ := x
    simp [e__law_gaps_2]⟩)
  rw [List.nil_append, show (((nmE a).filter fun x => decide (x.1 = (i : Int))).map fun x => D.int x.2) = (((nmE a).filter fun x => decide (x.1 = (i : Int))).map (·.2)).map .int by rw [List.map_map]; rfl] at l1
  obtain ⟨m1, m2⟩ := maxL_spec (ns := 0 :: ((nmE a).filter fun x => decide (x.1 = (i : Int))).map (·.2)) (by simp)
  have mx := fMaxL_ints (0 :: ((nmE a).filter fun x => decide (x.1 = (i : Int))).map (·.2)) (by simp)
  have hlen : (((nmE a).filter fun x => decide (x.1 = (i : Int))).map (·.2)).length ≤ 3300 := by rw [List.length_map]; exact Nat.le_trans (List.length_filter_le _ _) le
  have inL : ∀ n : Int, n ∈ ((nmE a).filter fun x => decide (x.1 = (i : Int))).map (·.2) ↔ St.In a i n := fun n => by
    rw [List.mem_map]
    constructor
    · rintro ⟨x, hx, rfl⟩
      rw [List.mem_filter, decide_eq_true_eq, nmE_mem ha.1] at hx
      rw [← hx.2]
      exact hx.1
    · intro h
      exact ⟨(i, n), List.mem_filter.mpr ⟨(nmE_mem ha.1).mpr h, by simp⟩, rfl⟩
  generalize ((nmE a).filter fun x => decide (x.1 = (i : Int))).map (·.2) = LS at l1 m1 m2 mx hlen inL
  generalize hLL : maxL (0 :: LS) = L at m1 m2 mx
  have L0 : 0 ≤ L := m2 0 List.mem_cons_self
  have Lt : L = 0 ∨ St.In a i L := by
    rcases List.mem_cons.mp m1 with z | z
    · exact .inl z
    · exact .inr ((inL L).mp z)
  have Lm : ∀ m, St.In a i m → m ≤ L := fun m hm => m2 m (List.mem_cons_of_mem _ ((inL m).mpr hm))
  have L4 : L ≤ 400 := by
    rcases Lt with z | ⟨r, hr, _, _, h3⟩
    · omega
    · have := ha.2 r hr
      omega
  have rg : rangeD 1 L = some ((List.range (L - 1).toNat).map fun j : Nat => .int (1 + (j : Int))) := by
    unfold rangeD
    rw [if_pos (by omega)]
  have l2 := lc_fm (enc := fun j : Nat => .int (1 + (j : Int))) (g := gN 7) (t := t__law_gaps_2) (e := e__law_gaps_3) (ρ := [.sh (nmD (nmE a)), .sh (nmD (gapN a i)), .own (kdO (nmE a)), s3, .sh (.int (i : Int)), .sh (.int L), s6, .no]) (μ := μ) (fun j : Nat => !decide (((i : Int), 1 + (j : Int)) ∈ nmE a)) (fun j : Nat => nameD ((i : Int), 1 + (j : Int))) (List.range (L - 1).toNat) [] (by simp; omega) (fun j _ => ⟨_, rfl, by
    have h1 := in_known (ns := nmE a) (x := ((i : Int), 1 + (j : Int))) (g := not)
    have h2 : (kdO (nmE a)).rd = some (kdO (nmE a)) := rfl
    generalize kdO (nmE a) = K at h1 h2 ⊢
    simp only [nameD_mk] at h1
    simp [t__law_gaps_2, h2, h1], fun _ => by simp [e__law_gaps_3]⟩)
  rw [List.nil_append] at l2
  have part : gapN a (i + 1) = gapN a i ++ ((List.range (L - 1).toNat).filter fun j : Nat => !decide (((i : Int), 1 + (j : Int)) ∈ nmE a)).map fun j : Nat => ((i : Int), 1 + (j : Int)) := by
    refine St.asc_ext ((St.expand_asc (Gp.gaps_set ha.1).can).filter _) ?_ fun x => ?_
    · refine List.pairwise_append.mpr ⟨(St.expand_asc (Gp.gaps_set ha.1).can).filter _, ?_, fun x hx y hy => ?_⟩
      · rw [List.pairwise_map]
        refine (List.pairwise_lt_range.filter _).imp fun {p q} h => .inr ⟨rfl, ?_⟩
        show (1 : Int) + (p : Int) < 1 + (q : Int)
        omega
      · have h1 := ((gapN_mem ha.1).mp hx).1
        obtain ⟨j, _, rfl⟩ := List.mem_map.mp hy
        exact .inl h1
    · rw [gapN_mem ha.1, List.mem_append, gapN_mem ha.1, List.mem_map]
      obtain ⟨h, n⟩ := x
      constructor
      · rintro ⟨b1, ⟨b2, m, b3, b4⟩, b5⟩
        have b1 : h < ((i + 1 : Nat) : Int) := b1
        rcases Int.lt_or_le h (i : Int) with c | c
        · exact .inl ⟨c, ⟨b2, m, b3, b4⟩, b5⟩
        · have eh : h = (i : Int) := by omega
          subst eh
          refine .inr ⟨(n - 1).toNat, ?_, Prod.ext rfl (show 1 + (((n - 1).toNat : Nat) : Int) = n by have b2 : 1 ≤ n := b2; omega)⟩
          have b2 : 1 ≤ n := b2
          have b3 : n ≤ m := b3
          have hm := Lm m b4
          have ne : n ≠ L := fun z => by
            rcases Lt with w | w
            · omega
            · exact b5 (z ▸ w)
          rw [List.mem_filter]
          refine ⟨List.mem_range.mpr (by omega), ?_⟩
          rw [show 1 + (((n - 1).toNat : Nat) : Int) = n by omega, Bool.not_eq_true', decide_eq_false_iff_not, nmE_mem ha.1]
          exact b5
      · rintro (⟨b1, b2⟩ | ⟨j, hj, e⟩)
        · exact ⟨by have b1 : h < (i : Int) := b1; show h < ((i + 1 : Nat) : Int); omega, b2⟩
        · rw [List.mem_filter, List.mem_range, Bool.not_eq_true', decide_eq_false_iff_not, nmE_mem ha.1] at hj
          obtain ⟨j1, j2⟩ := hj
          rw [← e]
          refine ⟨by show (i : Int) < ((i + 1 : Nat) : Int); omega, ⟨by show (1 : Int) ≤ 1 + (j : Int); omega, L, by show 1 + (j : Int) ≤ L; omega, ?_⟩, j2⟩
          rcases Lt with w | w
          · omega
          · exact w
  have pl : (((List.range (L - 1).toNat).filter fun j : Nat => !decide (((i : Int), 1 + (j : Int)) ∈ nmE a)).map fun j : Nat => ((i : Int), 1 + (j : Int))).length ≤ 400 := by
    rw [List.length_map]
    refine Nat.le_trans (List.length_filter_le _ _) ?_
    rw [List.length_range]
    omega
  have pm : (((List.range (L - 1).toNat).filter fun j : Nat => !decide (((i : Int), 1 + (j : Int)) ∈ nmE a)).map fun j : Nat => nameD ((i : Int), 1 + (j : Int))) = (((List.range (L - 1).toNat).filter fun j : Nat => !decide (((i : Int), 1 + (j : Int)) ∈ nmE a)).map fun j : Nat => ((i : Int), 1 + (j : Int))).map nameD := by rw [List.map_map]; rfl
  rw [pm] at l2
  have nx := fun t5 t6 t7 => kk t5 t6 t7 (by rw [part, List.length_append]; omega)
  rw [part] at nx
  generalize (((List.range (L - 1).toNat).filter fun j : Nat => !decide (((i : Int), 1 + (j : Int)) ∈ nmE a)).map fun j : Nat => ((i : Int), 1 + (j : Int))) = PP at l2 pl nx
  have z1 : 1 + LS.length ≤ 16777216 := by omega
  have z2 : (gapN a i).length + PP.length ≤ 16777216 := by omega
  simp only [List.map_cons] at mx
  rw [show nmD (gapN a i ++ PP) = .lst ((gapN a i).map nameD ++ PP.map nameD) by show D.lst _ = _; rw [List.map_append]] at nx
  generalize kdO (nmE a) = K at l1 l2 nx ⊢
  generalize gapN a i = G at l1 l2 nx z2 ⊢
  generalize nmE a = M at l1 l2 nx ⊢
  generalize hR : ((List.range (L - 1).toNat).map fun j : Nat => D.int (1 + (j : Int))) = RR at rg l2
  simp [b__law_gaps_1, l1, mx, z1, rg, l2, z2]
  exact nx _ _ _
theorem law_gaps_ok {k : Nat} {a : List Row} {μ : Store} (ha : Low 400 k a) (hk : k ≤ 200) : m__law_gaps [nmD (nmE a)] μ = .ok (.sh (nmD (St.expand (Gp.gapsR a)))) μ := by
  refine ok_eq ?_
  have le : (nmE a).length ≤ 3300 := expand_len ha (by omega)
  have l1 := lc_fm (enc := nameD) (g := gN 3) (t := mYes) (e := e__law_gaps_1) (ρ := [.sh (nmD (nmE a)), .sh (.lst []), .no, .no, .no, .no, .no, .no]) (μ := μ) (fun _ => true) (fun x => .tup [nameD x, .bl true]) (nmE a) [] (by simp; omega) (fun x _ => ⟨_, rfl, rfl, fun _ => by simp [e__law_gaps_1]⟩)
  rw [List.filter_eq_self.mpr (fun _ _ => rfl), List.nil_append] at l1
  have l2 := dict_known (nmE a)
  have e0 : gapN a 0 = [] := by
    refine List.eq_nil_iff_forall_not_mem.mpr fun x hx => ?_
    obtain ⟨b1, ⟨_, m, _, b3⟩, _⟩ := (gapN_mem ha.1).mp hx
    have := ha.1.box b3
    omega
  have e8 : gapN a 8 = St.expand (Gp.gapsR a) := by
    unfold gapN
    refine List.filter_eq_self.mpr fun x hx => ?_
    have e : x = (x.1, x.2) := rfl
    rw [e, St.expand_mem, Gp.gaps_in ha.1] at hx
    obtain ⟨⟨_, m, _, b3⟩, _⟩ := hx
    have := ha.1.box b3
    exact decide_eq_true (by omega)
  rw [← e8]
  have loop : ∀ t3, OkS (forL (gN 4) b__law_gaps_1 ((List.range 8).map fun i : Nat => .int (i : Int)) [.sh (nmD (nmE a)), .sh (.lst []), .own (kdO (nmE a)), t3, .no, .no, .no, .no] μ) (fun ρ ν => ν = μ ∧ ∃ t4 t5 t6 t7, ρ = [.sh (nmD (nmE a)), .sh (nmD (gapN a 8)), .own (kdO (nmE a)), t3, t4, t5, t6, t7]) (fun _ _ => False) := fun t3 => by
    refine okS_for (enc := fun i : Nat => .int (i : Int)) (fun left ρ ν => ∃ (i : Nat) (t4 t5 t6 t7 : Sl), ν = μ ∧ left = List.range' i (8 - i) ∧ (gapN a i).length ≤ 400 * i ∧ i ≤ 8 ∧ ρ = [.sh (nmD (nmE a)), .sh (nmD (gapN a i)), .own (kdO (nmE a)), t3, t4, t5, t6, t7]) ?_ ?_ ⟨0, _, _, _, _, rfl, by rw [List.range_eq_range'], by rw [e0]; exact Nat.le_refl _, by omega, by rw [e0]; rfl⟩
    · rintro j left ρ ν N' ⟨i, t4, t5, t6, t7, rfl, hlf, hl, hi8, rfl⟩ kk
      have hi2 : i < 8 := by
        rcases Nat.lt_or_ge i 8 with z | z
        · exact z
        · rw [Nat.sub_eq_zero_of_le z] at hlf; cases hlf
      rw [show 8 - i = 8 - (i + 1) + 1 by omega, List.range'_succ] at hlf
      injection hlf with hk' hlf
      subst hk'
      exact ⟨_, rfl, gap_turn ha hk hi2 hl fun u5 u6 u7 hl2 => kk _ _ ⟨j + 1, _, _, _, _, rfl, hlf, hl2, hi2, rfl⟩⟩
    · rintro ρ ν ⟨i, t4, t5, t6, t7, rfl, hlf, hl, hi8, rfl⟩
      have : i = 8 := by
        have := congrArg List.length hlf
        rw [List.length_range'] at this
        simp at this
        omega
      subst this
      exact ⟨rfl, _, _, _, _, rfl⟩
  unfold m__law_gaps b__law_gaps
  have r8 := rangeD_0 (show (0 : Int) ≤ 8 by omega) (by omega)
  generalize gapN a 8 = G8 at loop ⊢
  generalize kdO (nmE a) = K at loop l2
  generalize nmE a = M at l1 l2 loop ⊢
  simp [List.replicate, l1, l2, r8]
  refine (loop _).mono (fun ρ ν h => ?_) (fun rv ν h => h.elim)
  obtain ⟨rfl, t4, t5, t6, t7, rfl⟩ := h
  simp
theorem dec_iff {p q : Prop} {i : Decidable p} {j : Decidable q} (h : p ↔ q) : @decide p i = @decide q j := decide_eq_decide.mpr h
theorem law_reach_ok {k : Nat} {a : List Row} {h : Int} {μ : Store} (ha : Low 400 k a) : m__law_reach [nmD (nmE a), .int h] μ = .ok (.sh (.int (St.reachR (merged a) h))) μ := by
  obtain ⟨r0, r1, r2⟩ := St.reach_spec (merged_set ha.1).can (fun h n i => ((merged_set ha.1).fit.box i).2.2.1) h
  have r4 : St.reachR (merged a) h ≤ 400 := by
    rcases Int.lt_or_le (St.reachR (merged a) h) 1 with c | c
    · omega
    · obtain ⟨r, hr, _, _, h3⟩ := (merged_in ha.1 _ _).mp (r1 _ c (Int.le_refl _))
      have := ha.2 r hr
      omega
  generalize St.reachR (merged a) h = R at r0 r1 r2 r4 ⊢
  refine ok_eq ?_
  unfold m__law_reach b__law_reach
  simp [List.replicate]
  refine okS_while (fun k ρ ν => ∃ n : Int, 0 ≤ n ∧ n ≤ R ∧ k = (R - n).toNat ∧ ν = μ ∧ ρ = [.sh (nmD (nmE a)), .sh (.int h), .sh (.int n)]) ?_ 1000000000 (R - 0).toNat (by omega) ⟨0, by omega, r0, rfl, rfl, rfl⟩
  rintro k ρ ν N' ⟨n, n0, n1, rfl, rfl, rfl⟩ kk
  have hin0 := pdName.inL (by decide) id (w := .d (nameD (h, n + 1))) (x := (h, n + 1)) rfl (nmE a)
  have hin : fIn id (.d (.tup [.int h, .int (n + 1)])) (.ob (.lst ((nmE a).map nameD))) = some (.sh (.bl (decide (n < R)))) := by
    refine hin0.trans (congrArg (fun b => some (Rv.sh (D.bl b))) ?_)
    refine dec_iff ⟨fun i => ?_, fun c => ?_⟩
    · rw [nmE_mem ha.1, ← merged_in ha.1] at i
      rcases Int.lt_or_le n R with c | c
      · exact c
      · have : n = R := by omega
        subst this
        exact absurd i r2
    · rw [nmE_mem ha.1, ← merged_in ha.1]
      exact r1 (n + 1) (by omega) (by omega)
  generalize nmE a = M at hin kk ⊢
  by_cases c : n < R
  · simp [t__law_reach_1, b__law_reach_1, hin, c]
    exact kk _ _ _ (by omega) ⟨n + 1, by omega, by omega, rfl, rfl, rfl⟩
  · have e : n = R := by omega
    subst e
    simp [t__law_reach_1, hin]
theorem case_ok {d : Ob} {μ : Store} {Q : Rv → Store → Prop} (hd : Dice d) (k : ∀ one other d', Dice d' → Low 400 200 one → Low 400 200 other → Q (.sh (.tup [rsD one, rsD other])) (d' :: μ)) : Ok (m__law_case [.loc 0] (d :: μ)) Q := by
  have fin : ∀ (N : Ev → Store → Prop) (hs far most : Int) (d1 : Ob), Dice d1 → 1 ≤ hs → hs ≤ 8 → 1 ≤ far → far ≤ 400 → 0 ≤ most → most ≤ 200 → OkS ((mRet (eTup (aCons (eCall (noX m__law_rows) (aCons (eVar 0) (aCons (eVar 1) (aCons (eVar 2) (aCons (eVar 3) (aNil)))))) (aCons (eCall (noX m__law_rows) (aCons (eVar 0) (aCons (eVar 1) (aCons (eVar 2) (aCons (eVar 3) (aNil)))))) (aNil))))) [.sh (.loc 0), .sh (.int hs), .sh (.int far), .sh (.int most)] (d1 :: μ)) N Q := fun N hs far most d1 hd1 h1 h2 h3 h4 h5 h6 => by
    simp
    refine rows_ok hd1 (by omega) (by omega) (by omega) (by omega) (by omega) (by omega) fun r1 d2 hd2 f1 l1 => ?_
    simp
    refine rows_ok hd2 (by omega) (by omega) (by omega) (by omega) (by omega) (by omega) fun r2 d3 hd3 f2 l2 => ?_
    simp
    exact k r1 r2 d3 hd3 ⟨f1.mono (by omega), fun r hr => by have := (l1 r hr).2; omega⟩ ⟨f2.mono (by omega), fun r hr => by have := (l2 r hr).2; omega⟩
  unfold m__law_case b__law_case
  simp [List.replicate, -x_mRet]
  refine next_ok hd (by omega) (by omega) fun v1 d1 hd1 a1 b1 => ?_
  simp [-x_mRet]
  refine next_ok hd1 (by omega) (by omega) fun v2 d2 hd2 a2 b2 => ?_
  obtain ⟨x, hx, hy⟩ := fIx_2 (a := .int 6) (b := .int 30) a2 b2
  obtain ⟨far, rfl, f1, f2⟩ : ∃ w : Int, x = .int w ∧ 1 ≤ w ∧ w ≤ 400 := by
    rcases hy with ⟨_, rfl⟩ | ⟨_, rfl⟩ <;> exact ⟨_, rfl, by omega, by omega⟩
  simp [hx, -x_mRet]
  refine next_ok hd2 (by omega) (by omega) fun v3 d3 hd3 a3 b3 => ?_
  obtain ⟨y, hy1, hy2⟩ := fIx_2 (a := .int 4) (b := .int 40) a3 b3
  obtain ⟨most, rfl, g1, g2⟩ : ∃ w : Int, y = .int w ∧ 0 ≤ w ∧ w ≤ 200 := by
    rcases hy2 with ⟨_, rfl⟩ | ⟨_, rfl⟩ <;> exact ⟨_, rfl, by omega, by omega⟩
  simp [hy1, -x_mRet]
  refine next_ok hd3 (by omega) (by omega) fun v4 d4 hd4 a4 b4 => ?_
  simp [-x_mRet]
  by_cases c : v4 = 5
  · simp [c, -x_mRet]
    exact fin _ 8 400 200 d4 hd4 (by omega) (by omega) (by omega) (by omega) (by omega) (by omega)
  · simp [c, -x_mRet]
    exact fin _ (1 + v1) far most d4 hd4 (by omega) (by omega) (by omega) (by omega) (by omega) (by omega)
end Law

/-! ### k02: one asking -/
namespace Law
open PySem L2 DL
theorem scrawlV {v : D} {g : D → Ev → Option Ev} {b : MS} {N : Ev → Store → Prop} {T : Rv → Store → Prop} (P : Ev → Prop)
    (hb : ∀ (k : Nat) (xs : List D) (ρ : Ev) (σ : Store), P ρ → σ[k]? = some (.lst xs) → xs.length < 16777216 → ∃ ρ1, g (.loc k) ρ = some ρ1 ∧ P ρ1 ∧ b ρ1 σ = .ok (.nx, ρ1) (σ.set k (.lst (xs ++ [v])))) :
    ∀ (locs : List (Nat × List D)) (ρ : Ev) (σ : Store), P ρ → (locs.map (·.1)).Nodup → (∀ p ∈ locs, σ[p.1]? = some (.lst p.2) ∧ p.2.length < 16777216) →
    (∀ ρ' σ', P ρ' → (∀ j, j ∉ locs.map (·.1) → σ'[j]? = σ[j]?) → N ρ' σ') → OkS (forL g b (locs.map fun p => D.loc p.1) ρ σ) N T
  | [], ρ, σ, hP, _, _, k => k ρ σ hP fun _ _ => rfl
  | p :: locs, ρ, σ, hP, nd, hl, k => by
    obtain ⟨h1, h2⟩ := hl p List.mem_cons_self
    obtain ⟨ρ1, e1, P1, e2⟩ := hb p.1 p.2 ρ σ hP h1 h2
    rw [List.map_cons, List.nodup_cons] at nd
    rw [List.map_cons, forL, e1]
    dsimp only
    rw [e2, loopR_nx]
    refine scrawlV P hb locs ρ1 _ P1 nd.2 (fun q hq => ?_) fun ρ' σ' P' hk => k ρ' σ' P' fun j hj => ?_
    · have ne : p.1 ≠ q.1 := fun e => nd.1 (e ▸ List.mem_map.mpr ⟨q, hq, rfl⟩)
      rw [List.getElem?_set_ne ne]
      exact hl q (List.mem_cons_of_mem _ hq)
    · rw [List.map_cons, List.mem_cons, not_or] at hj
      rw [hk j hj.2, List.getElem?_set_ne (Ne.symm hj.1)]
theorem ask_turn {s0 s2 s3 s7 s8 s9 s10 s13 s15 s16 s17 s18 s19 s20 : Sl} {d : Ob} {one other : List Row} {m : Int} {μ : Store} {N : Ev → Store → Prop} {T : Rv → Store → Prop} (hd : Dice d) (ha : Low 400 200 one) (hb : Low 400 200 other) (h0 : 0 ≤ m) (hm : 400 + m ≤ 1000000000000)
    (k : ∀ (d' : Ob) (μ' : Store) (t15 t16 t17 t18 t19 t20 : Sl), Dice d' → N [s0, .sh (.loc 0), s2, s3, .sh (rsD one), .sh (rsD other), .sh (nmD (nmE one)), s7, s8, s9, s10, .sh (nmD (lessN one other)), .sh (.lst ([merged one, joinR one other, bothR one other, lessR one other].map rsD)), s13, .sh (.int m), t15, t16, t17, t18, t19, t20] (d' :: μ')) :
    OkS (b_law_2 [s0, .sh (.loc 0), s2, s3, .sh (rsD one), .sh (rsD other), .sh (nmD (nmE one)), s7, s8, s9, s10, .sh (nmD (lessN one other)), .sh (.lst ([merged one, joinR one other, bothR one other, lessR one other].map rsD)), s13, .sh (.int m), s15, s16, s17, s18, s19, s20] (d :: μ)) N T := by
  have fa := ha.moved h0 hm
  have fb := hb.moved h0 hm
  have m1 := fun ν => moved_ok (rs := one) (d := m) (μ := ν) (by have := ha.1.len; omega)
  have m2 := fun ν => moved_ok (rs := other) (d := m) (μ := ν) (by have := hb.1.len; omega)
  have p1 := fun ν => plain_m (μ := ν) fa (by omega)
  have p2 := fun ν => joined_m (μ := ν) fa fb (by omega) (by omega)
  have p3 := fun ν => common_m (μ := ν) fa fb (by omega) (by omega)
  have p4 := fun ν => less_m (μ := ν) fa fb (by omega) (by omega)
  have p5 := fun ν => amount_m (μ := ν) fa (by omega)
  have p6 := fun ν => within_m (μ := ν) fa fb (by omega) (by omega)
  have nr := fun ν => need_rows_ok (μ := ν) fa.good (by have := fa.len; omega)
  rw [plain_moved ha h0 hm] at p1 p5
  rw [join_moved ha hb h0 hm] at p2
  rw [both_moved ha hb h0 hm] at p3
  rw [less_moved ha hb h0 hm] at p4 p6
  have lA := (merged_set ha.1).fit.len
  have lB := (join_set ha.1 hb.1).fit.len
  have lC := (both_set ha.1 hb.1).fit.len
  have lE := (less_set ha.1 hb.1).fit.len
  have q5 : St.cntR (St.moved m (merged one)) = ((nmE one).length : Int) := by rw [cnt_moved, exp_len (merged_set ha.1).can.1]
  have q6 : decide (St.moved m (lessR one other) = []) = decide (lessN one other = []) := dec_iff (moved_nil.trans (less_nil ha.1 hb.1))
  rw [q5] at p5
  simp only [q6] at p6
  have hs : ∀ (h n : Int) (ν : Store), 0 ≤ h → h < 8 → m_has [rsD (St.moved m one), .int h, .int (n + m)] ν = .ok (.sh (.bl (decide ((h, n) ∈ nmE one)))) ν := fun h n ν a b => by
    have e1 := need_house_ok (μ := ν) a b
    have e2 := held_gen (x := rsD (St.moved m one)) (rs := St.moved m one) (h := h) (n := n + m) (μ := ν) (by simp) (by have := fa.len; omega)
    rw [has_moved ha.1] at e2
    have nr := nr ν
    generalize rsD (St.moved m one) = X at nr e2 ⊢
    simp [m_has, b_has, List.replicate, nr, e1, e2]
  have mv : ∀ (z : List Row) (ν : Store), z.length ≤ 400 → m__law_moved [rsD z, .int m] ν = .ok (.own (.lst ((St.moved m z).map rowD))) ν := fun z ν hz => moved_ok (by omega)
  have ml : ∀ z : List Row, (St.moved m z).length = z.length := fun z => by unfold St.moved; rw [List.length_map]
  have lc : ∀ (t15 t16 : Sl) (ν : Store), lcL (gN 17) mYes e_law_5 [s0, .sh (.loc 0), s2, s3, .sh (rsD one), .sh (rsD other), .sh (nmD (nmE one)), s7, s8, s9, s10, .sh (nmD (lessN one other)), .sh (.lst [rsD (merged one), rsD (joinR one other), rsD (bothR one other), rsD (lessR one other)]), s13, .sh (.int m), t15, t16, .no, s18, s19, s20] [rsD (merged one), rsD (joinR one other), rsD (bothR one other), rsD (lessR one other)] ν [] = .ok [rsD (St.moved m (merged one)), rsD (St.moved m (joinR one other)), rsD (St.moved m (bothR one other)), rsD (St.moved m (lessR one other))] ν := fun t15 t16 ν => by
    have h : ∀ z ∈ [merged one, joinR one other, bothR one other, lessR one other], z.length ≤ 400 := fun z hz => by
      simp only [List.mem_cons, List.not_mem_nil, or_false] at hz
      rcases hz with rfl | rfl | rfl | rfl <;> omega
    have := lc_fm (enc := rsD) (g := gN 17) (t := mYes) (e := e_law_5) (ρ := [s0, .sh (.loc 0), s2, s3, .sh (rsD one), .sh (rsD other), .sh (nmD (nmE one)), s7, s8, s9, s10, .sh (nmD (lessN one other)), .sh (.lst [rsD (merged one), rsD (joinR one other), rsD (bothR one other), rsD (lessR one other)]), s13, .sh (.int m), t15, t16, .no, s18, s19, s20]) (μ := ν) (fun _ => true) (fun z => rsD (St.moved m z)) [merged one, joinR one other, bothR one other, lessR one other] [] (by simp) (fun z hz => ⟨_, rfl, rfl, fun _ => by
      have e := mv z ν (h z hz)
      simp [e_law_5, e]⟩)
    exact this
  have l1 := ml (merged one)
  have l2 := ml (joinR one other)
  have l3 := ml (bothR one other)
  have l4 := ml (lessR one other)
  have nn : pdName.inL = pdName.inL := rfl
  have e1 : rsD (St.moved m one) = D.lst ((St.moved m one).map rowD) := rfl
  have e2 : rsD (St.moved m other) = D.lst ((St.moved m other).map rowD) := rfl
  have q15 : fNe (.d (.tup [.lst ((St.moved m one).map rowD), .lst ((St.moved m other).map rowD)])) (.d (.tup [.lst ((St.moved m one).map rowD), .lst ((St.moved m other).map rowD)])) = some (.sh (.bl false)) := by
    have e3 : (Vw.d (.tup [.lst ((St.moved m one).map rowD), .lst ((St.moved m other).map rowD)])).py = some ((pdRow.list.tup).py [St.moved m one, St.moved m other]) := pdRow.list.tups [St.moved m one, St.moved m other]
    have := (pdRow.list.tup).ne2 (by decide) e3 e3
    rw [decide_eq_true rfl] at this
    exact this
  simp only [e1, e2] at p1 p2 p3 p4 p5 p6 hs
  generalize hx1 : (St.moved m one).map rowD = X1 at m1 p1 p2 p3 p4 p5 p6 hs q15
  generalize hx2 : (St.moved m other).map rowD = X2 at m2 p2 p3 p4 p6 q15
  show OkS (b_law_2 [s0, .sh (.loc 0), s2, s3, .sh (rsD one), .sh (rsD other), .sh (nmD (nmE one)), s7, s8, s9, s10, .sh (nmD (lessN one other)), .sh (.lst [rsD (merged one), rsD (joinR one other), rsD (bothR one other), rsD (lessR one other)]), s13, .sh (.int m), s15, s16, s17, s18, s19, s20] (d :: μ)) N T
  have k : ∀ (d' : Ob) (μ' : Store) (t15 t16 t17 t18 t19 t20 : Sl), Dice d' → N [s0, .sh (.loc 0), s2, s3, .sh (rsD one), .sh (rsD other), .sh (nmD (nmE one)), s7, s8, s9, s10, .sh (nmD (lessN one other)), .sh (.lst [rsD (merged one), rsD (joinR one other), rsD (bothR one other), rsD (lessR one other)]), s13, .sh (.int m), t15, t16, t17, t18, t19, t20] (d' :: μ') := k
  generalize [rsD (merged one), rsD (joinR one other), rsD (bothR one other), rsD (lessR one other)] = L12 at lc k ⊢
  generalize hA : St.moved m (merged one) = A at p1 lc l1
  generalize hB : St.moved m (joinR one other) = B at p2 lc l2
  generalize hC : St.moved m (bothR one other) = C at p3 lc l3
  generalize hE : St.moved m (lessR one other) = E at p4 lc l4
  simp only [rsD] at lc
  have hS1 : (d :: (μ ++ [Ob.lst (A.map rowD), Ob.lst (B.map rowD), Ob.lst (C.map rowD), Ob.lst (E.map rowD)]))[μ.length + 1]? = some (.lst (A.map rowD)) := by simp
  have hS2 : (d :: (μ ++ [Ob.lst (A.map rowD), Ob.lst (B.map rowD), Ob.lst (C.map rowD), Ob.lst (E.map rowD)]))[μ.length + 1 + 1]? = some (.lst (B.map rowD)) := by
    rw [List.getElem?_cons_succ, List.getElem?_append_right (by omega)]
    simp
  have hS3 : (d :: (μ ++ [Ob.lst (A.map rowD), Ob.lst (B.map rowD), Ob.lst (C.map rowD), Ob.lst (E.map rowD)]))[μ.length + 1 + 1 + 1]? = some (.lst (C.map rowD)) := by
    rw [List.getElem?_cons_succ, List.getElem?_append_right (by omega), show μ.length + 1 + 1 - μ.length = 2 by omega]
    rfl
  have hS4 : (d :: (μ ++ [Ob.lst (A.map rowD), Ob.lst (B.map rowD), Ob.lst (C.map rowD), Ob.lst (E.map rowD)]))[μ.length + 3 + 1]? = some (.lst (E.map rowD)) := by
    rw [List.getElem?_cons_succ, List.getElem?_append_right (by omega), show μ.length + 3 - μ.length = 3 by omega]
    rfl
  have hl1 : A.length ≤ 16777216 := by omega
  have hl2 : B.length ≤ 16777216 := by omega
  have hl3 : C.length ≤ 16777216 := by omega
  have hl4 : E.length ≤ 16777216 := by omega
  have hlk := like_true (n := 8) (f := .lst [.loc (μ.length + 1), .loc (μ.length + 1 + 1), .loc (μ.length + 1 + 1 + 1), .loc (μ.length + 3 + 1)]) (d := .lst [.lst (A.map rowD), .lst (B.map rowD), .lst (C.map rowD), .lst (E.map rowD)]) (.lst (by simp) (.cons (rs_loc hS1 hl1 fun x _ => rs_row x) (.cons (rs_loc hS2 hl2 fun x _ => rs_row x) (.cons (rs_loc hS3 hl3 fun x _ => rs_row x) (.cons (rs_loc hS4 hl4 fun x _ => rs_row x) .nil)))))
  have hlk2 := fun (a : Int) (b : Bool) (ν : Store) => like_true (μ := ν) (n := 8) (f := .lst [.int a, .bl b]) (d := .lst [.int a, .bl b]) (.lst (by simp) (.cons (.int _) (.cons (.bl _) .nil)))
  have hlk3 := fun (b : Bool) (ν : Store) => like_true (μ := ν) (n := 8) (f := .bl b) (d := .bl b) (.bl b)
  have q11 := pdName.eqL0 (by decide) (lessN one other)
  generalize decide (lessN one other = []) = be at p6 q11
  have hin : ∀ h n : Int, fIn id (.d (.tup [.int h, .int n])) (.ob (.lst ((nmE one).map nameD))) = some (.sh (.bl (decide ((h, n) ∈ nmE one)))) := fun h n =>
    (pdName.inL (by decide) id (w := .d (nameD (h, n))) (x := (h, n)) rfl (nmE one)).trans (congrArg (fun b => some (Rv.sh (D.bl b))) (dec_iff Iff.rfl))
  generalize lessN one other = LN at lc q11 k ⊢
  simp [b_law_2, m1, m2, p1, p2, p3, p4, lc, hlk, p5, p6, hlk2, q11]
  refine next_ok hd (by omega) (by omega) fun v1 d1 hd1 a1 b1 => ?_
  simp
  refine next_ok hd1 (by omega) (by omega) fun v2 d2 hd2 a2 b2 => ?_
  have h1 := fun ν => hs v1 (1 + v2) ν a1 b1
  have h2 := hin v1 (1 + v2)
  generalize decide ((v1, 1 + v2) ∈ nmE one) = bb at h1 h2
  have g1 : (d2 :: (μ ++ [Ob.lst (A.map rowD), Ob.lst (B.map rowD), Ob.lst (C.map rowD), Ob.lst (E.map rowD)]))[μ.length + 1]? = some (.lst (A.map rowD)) := hS1
  have g2 : (d2 :: (μ ++ [Ob.lst (A.map rowD), Ob.lst (B.map rowD), Ob.lst (C.map rowD), Ob.lst (E.map rowD)]))[μ.length + 1 + 1]? = some (.lst (B.map rowD)) := hS2
  have g3 : (d2 :: (μ ++ [Ob.lst (A.map rowD), Ob.lst (B.map rowD), Ob.lst (C.map rowD), Ob.lst (E.map rowD)]))[μ.length + 1 + 1 + 1]? = some (.lst (C.map rowD)) := hS3
  have g4 : (d2 :: (μ ++ [Ob.lst (A.map rowD), Ob.lst (B.map rowD), Ob.lst (C.map rowD), Ob.lst (E.map rowD)]))[μ.length + 3 + 1]? = some (.lst (E.map rowD)) := hS4
  have g0 : (d2 :: (μ ++ [Ob.lst (A.map rowD), Ob.lst (B.map rowD), Ob.lst (C.map rowD), Ob.lst (E.map rowD)]))[0]? = some d2 := rfl
  generalize μ ++ [Ob.lst (A.map rowD), Ob.lst (B.map rowD), Ob.lst (C.map rowD), Ob.lst (E.map rowD)] = μ4 at g0 g1 g2 g3 g4 ⊢
  generalize nmE one = NM at h2 lc k ⊢
  simp [h1, h2, hlk3]
  refine scrawlV (v := .tup [.int 0, .int 1, .int 1]) (fun ρ => ∃ t17, ρ = [s0, .sh (.loc 0), s2, s3, .sh (rsD one), .sh (rsD other), .sh (nmD NM), s7, s8, s9, s10, .sh (nmD LN), .sh (.lst L12), s13, .sh (.int m), .sh (.tup [.lst X1, .lst X2]), .sh (.lst [.loc (μ.length + 1), .loc (μ.length + 1 + 1), .loc (μ.length + 1 + 1 + 1), .loc (μ.length + 3 + 1)]), t17, .sh (.lst [.int ((NM.length : Nat) : Int), .bl be]), .sh (.int v1), .sh (.int (1 + v2))]) ?_ [(μ.length + 1, A.map rowD), (μ.length + 1 + 1, B.map rowD), (μ.length + 1 + 1 + 1, C.map rowD), (μ.length + 3 + 1, E.map rowD)] _ _ ⟨_, rfl⟩ (by simp) ?_ ?_
  · rintro kx xs ρ σ ⟨t17, rfl⟩ hx hl
    refine ⟨_, rfl, ⟨_, rfl⟩, ?_⟩
    simp [b_law_1, hx, hl]
  · intro p hp
    simp only [List.mem_cons, List.not_mem_nil, or_false] at hp
    rcases hp with rfl | rfl | rfl | rfl
    · exact ⟨g1, by rw [List.length_map]; omega⟩
    · exact ⟨g2, by rw [List.length_map]; omega⟩
    · exact ⟨g3, by rw [List.length_map]; omega⟩
    · exact ⟨g4, by rw [List.length_map]; omega⟩
  · rintro ρ σ ⟨t17, rfl⟩ hk
    have z := hk 0 (by simp)
    rw [g0] at z
    cases σ with
    | nil => simp at z
    | cons d3 σ =>
      simp only [List.getElem?_cons_zero, Option.some.injEq] at z
      subst z
      simp [m1, m2, q15]
      exact k _ _ _ _ _ _ _ _ hd2
end Law

namespace Law
open PySem L2 DL
abbrev two (p : List Row × List Row) : D := .tup [rsD p.1, rsD p.2]
theorem case_turn {s0 s2 s6 s7 s8 s9 s10 s11 s12 s13 s14 s15 s16 s17 s18 s19 s20 : Sl} {d : Ob} {one other : List Row} {by_ : Int} {μ : Store} {N : Ev → Store → Prop} {T : Rv → Store → Prop} (hd : Dice d) (ha : Low 400 200 one) (hb : Low 400 200 other) (h0 : 0 ≤ by_) (hm : 400 + by_ ≤ 1000000000000)
    (k : ∀ (d' : Ob) (μ' : Store) (t6 t7 t8 t9 t10 t11 t12 t13 t14 t15 t16 t17 t18 t19 t20 : Sl), Dice d' → N [s0, .sh (.loc 0), s2, .sh (.int by_), .sh (rsD one), .sh (rsD other), t6, t7, t8, t9, t10, t11, t12, t13, t14, t15, t16, t17, t18, t19, t20] (d' :: μ')) :
    OkS (b_law_4 [s0, .sh (.loc 0), s2, .sh (.int by_), .sh (rsD one), .sh (rsD other), s6, s7, s8, s9, s10, s11, s12, s13, s14, s15, s16, s17, s18, s19, s20] (d :: μ)) N T := by
  have n1 : m__law_names [rsD one] (d :: μ) = .ok (.own (.lst ((nmE one).map nameD))) (d :: μ) := ha.names (μ := d :: μ) (by omega) (by omega)
  have n2 : m__law_names [rsD other] (d :: μ) = .ok (.own (.lst ((nmE other).map nameD))) (d :: μ) := hb.names (μ := d :: μ) (by omega) (by omega)
  have l1 : (nmE one).length ≤ 3300 := expand_len ha (by omega)
  have l2 : (nmE other).length ≤ 3300 := expand_len hb (by omega)
  have lj := box_len ha hb (by omega)
  obtain ⟨j1, j2, j3⟩ := told_join ha.1 hb.1
  obtain ⟨b1, b2⟩ := told_both ha.1 hb.1
  obtain ⟨c1, c2⟩ := told_less ha.1 hb.1
  have t1 := told_nm ha.1
  have a1 := nmE_asc ha.1
  have lb : (bothN one other).length ≤ 3300 := Nat.le_trans (List.length_filter_le _ _) l1
  have lc : (lessN one other).length ≤ 3300 := Nat.le_trans (List.length_filter_le _ _) l1
  have sm := fSrtSM_names (ns := nmE one ++ nmE other) (out := joinN one other) j1 j3 (by omega)
  rw [List.map_append] at sm
  have e1 := dict_known (nmE other)
  have c8 : ∀ (t7 t8 : Sl), lcL (gN 9) mYes e_law_1 [s0, .sh (.loc 0), s2, .sh (.int by_), .sh (rsD one), .sh (rsD other), .sh (nmD (nmE one)), t7, t8, .no, s10, s11, s12, s13, s14, s15, s16, s17, s18, s19, s20] ((nmE other).map nameD) (d :: μ) [] = .ok ((nmE other).map fun x => .tup [nameD x, .bl true]) (d :: μ) := fun t7 t8 => by
    rw [lc_fm (enc := nameD) (fun _ => true) (fun x => .tup [nameD x, .bl true]) (nmE other) [] (by simp; omega) (fun x _ => ⟨_, rfl, rfl, fun _ => by simp [e_law_1]⟩)]
    rw [List.filter_eq_self.mpr (fun _ _ => rfl), List.nil_append]
  have c10 : ∀ (t7 t10 t11 : Sl), lcL (gN 9) t_law_1 e_law_2 [s0, .sh (.loc 0), s2, .sh (.int by_), .sh (rsD one), .sh (rsD other), .sh (nmD (nmE one)), t7, .own (kdO (nmE other)), .no, t10, t11, s12, s13, s14, s15, s16, s17, s18, s19, s20] ((nmE one).map nameD) (d :: μ) [] = .ok ((bothN one other).map nameD) (d :: μ) := fun t7 t10 t11 => by
    rw [lc_fm (enc := nameD) (fun x => decide (x ∈ nmE other)) nameD (nmE one) [] (by simp; omega) (fun x _ => ⟨_, rfl, by
      have h1 := in_known (ns := nmE other) (x := x) (g := id)
      have h2 : (kdO (nmE other)).rd = some (kdO (nmE other)) := rfl
      generalize kdO (nmE other) = K at h1 h2 ⊢
      simp [t_law_1, h2, h1], fun _ => by simp [e_law_2]⟩)]
    rfl
  have c11 : ∀ (t7 t10 t11 : Sl), lcL (gN 9) t_law_2 e_law_3 [s0, .sh (.loc 0), s2, .sh (.int by_), .sh (rsD one), .sh (rsD other), .sh (nmD (nmE one)), t7, .own (kdO (nmE other)), .no, t10, t11, s12, s13, s14, s15, s16, s17, s18, s19, s20] ((nmE one).map nameD) (d :: μ) [] = .ok ((lessN one other).map nameD) (d :: μ) := fun t7 t10 t11 => by
    rw [lc_fm (enc := nameD) (fun x => !decide (x ∈ nmE other)) nameD (nmE one) [] (by simp; omega) (fun x _ => ⟨_, rfl, by
      have h1 := in_known (ns := nmE other) (x := x) (g := not)
      have h2 : (kdO (nmE other)).rd = some (kdO (nmE other)) := rfl
      generalize kdO (nmE other) = K at h1 h2 ⊢
      simp [t_law_2, h2, h1], fun _ => by simp [e_law_3]⟩)]
    rfl
  have c12 : ∀ (t7 t8 t9 t10 t11 : Sl), lcL (gN 13) mYes e_law_4 [s0, .sh (.loc 0), s2, .sh (.int by_), .sh (rsD one), .sh (rsD other), .sh (nmD (nmE one)), t7, t8, t9, t10, t11, s12, .no, s14, s15, s16, s17, s18, s19, s20] [nmD (nmE one), nmD (joinN one other), nmD (bothN one other), nmD (lessN one other)] (d :: μ) [] = .ok ([merged one, joinR one other, bothR one other, lessR one other].map rsD) (d :: μ) := fun t7 t8 t9 t10 t11 => by
    have := lc_fm (enc := nmD) (g := gN 13) (t := mYes) (e := e_law_4) (ρ := [s0, .sh (.loc 0), s2, .sh (.int by_), .sh (rsD one), .sh (rsD other), .sh (nmD (nmE one)), t7, t8, t9, t10, t11, s12, .no, s14, s15, s16, s17, s18, s19, s20]) (μ := d :: μ) (fun _ => true) (fun ns => rsD (St.toldR ns)) [nmE one, joinN one other, bothN one other, lessN one other] [] (by simp) (fun ns hns => ⟨_, rfl, rfl, fun _ => by
      have h : St.Asc ns ∧ ns.length < 16777216 := by
        simp only [List.mem_cons, List.not_mem_nil, or_false] at hns
        rcases hns with rfl | rfl | rfl | rfl
        · exact ⟨a1, by omega⟩
        · exact ⟨j1, by omega⟩
        · exact ⟨b1, by omega⟩
        · exact ⟨c1, by omega⟩
      have e := told_rows_ok (μ := d :: μ) h.1 h.2
      simp [e_law_4, e]⟩)
    refine this.trans ?_
    show Res.ok [rsD (St.toldR (nmE one)), rsD (St.toldR (joinN one other)), rsD (St.toldR (bothN one other)), rsD (St.toldR (lessN one other))] _ = Res.ok [rsD (merged one), rsD (joinR one other), rsD (bothR one other), rsD (lessR one other)] _
    rw [t1, j2, b2, c2]
  have z1 : (nmE one).length + (nmE other).length ≤ 16777216 := by omega
  have tail : ∀ (d2 : Ob) (μ2 : Store) (t7 t8 t9 t10 t13 t14 t15 t16 t17 t18 t19 t20 : Sl), Dice d2 → OkS (mSeq (mIf (mNot (mT (eCall (noX (m__law_like 8)) (aCons (eCall m_gaps (aCons (eVar 4) (aNil))) (aCons (eCall (noX m__law_told_rows) (aCons (eCall (noX m__law_gaps) (aCons (eVar 6) (aNil))) (aNil))) (aNil)))))) (mRet (eC (.bl false))) (mNx)) (mFor (iRange1 (eC (.int 8))) (gN 19) (b_law_3)) [s0, .sh (.loc 0), s2, .sh (.int by_), .sh (rsD one), .sh (rsD other), .sh (nmD (nmE one)), t7, t8, t9, t10, .sh (nmD (lessN one other)), .sh (.lst ([merged one, joinR one other, bothR one other, lessR one other].map rsD)), t13, t14, t15, t16, t17, t18, t19, t20] (d2 :: μ2)) N T := fun d2 μ2 t7 t8 t9 t10 t13 t14 t15 t16 t17 t18 t19 t20 hd2 => by
    have g1 := Gp.gaps_m (μ := d2 :: μ2) ha.1 (by omega)
    have g2 := law_gaps_ok (μ := d2 :: μ2) ha (by omega)
    have gs := Gp.gaps_set ha.1
    have ge : (St.expand (Gp.gapsR one)).length < 16777216 := by
      have hz : Low 400 208 (Gp.gapsR one) := ⟨gs.fit, fun r hr => by
        have i := St.in_row hr (gs.can.1 r hr) (Int.le_refl _)
        obtain ⟨⟨_, m, h2, q, hq, _, _, h3⟩, _⟩ := (Gp.gaps_in ha.1 _ _).mp i
        have := ha.2 q hq
        omega⟩
      have := expand_len hz (by omega)
      rw [merged_id gs.can] at this
      omega
    have g3 := told_rows_ok (μ := d2 :: μ2) (St.expand_asc gs.can) ge
    rw [St.told_expand gs.can] at g3
    have gl := gs.fit.len
    have g4 := like_true (μ := d2 :: μ2) (n := 8) (f := .lst ((Gp.gapsR one).map rowD)) (d := .lst ((Gp.gapsR one).map rowD)) (rs_list (by omega) fun x _ => rs_row x)
    have r8 := rangeD_0 (show (0 : Int) ≤ 8 by omega) (by omega)
    have lk := fun (a : Int) => like_true (μ := d2 :: μ2) (n := 8) (f := .int a) (d := .int a) (.int a)
    have lp : ∀ t19, OkS (forL (gN 19) b_law_3 ((List.range 8).map fun i : Nat => .int (i : Int)) [s0, .sh (.loc 0), s2, .sh (.int by_), .sh (rsD one), .sh (rsD other), .sh (nmD (nmE one)), t7, t8, t9, t10, .sh (nmD (lessN one other)), .sh (.lst ([merged one, joinR one other, bothR one other, lessR one other].map rsD)), t13, t14, t15, t16, t17, t18, t19, t20] (d2 :: μ2)) N T := fun t19 => by
      refine okS_for (enc := fun i : Nat => .int (i : Int)) (fun left ρ ν => ∃ t19, (∀ i ∈ left, i < 8) ∧ ν = d2 :: μ2 ∧ ρ = [s0, .sh (.loc 0), s2, .sh (.int by_), .sh (rsD one), .sh (rsD other), .sh (nmD (nmE one)), t7, t8, t9, t10, .sh (nmD (lessN one other)), .sh (.lst ([merged one, joinR one other, bothR one other, lessR one other].map rsD)), t13, t14, t15, t16, t17, t18, t19, t20]) ?_ ?_ ⟨_, fun i hi => List.mem_range.mp hi, rfl, rfl⟩
      · rintro i left ρ ν N' ⟨t19, hi, rfl, rfl⟩ kk
        refine ⟨_, rfl, ?_⟩
        have i8 := hi i List.mem_cons_self
        have w1 := whole_m (h := (i : Int)) (μ := d2 :: μ2) ha.1 (by omega) (by omega) (by omega)
        have w2 := law_reach_ok (h := (i : Int)) (μ := d2 :: μ2) ha
        have nx := kk _ (d2 :: μ2) ⟨.sh (.int (i : Int)), fun j hj => hi j (List.mem_cons_of_mem _ hj), rfl, rfl⟩
        generalize nmE one = NM at w2 nx ⊢
        simp [b_law_3, w1, w2, lk]
        exact nx
      · rintro ρ ν ⟨t19, _, rfl, rfl⟩
        exact k _ _ _ _ _ _ _ _ _ _ _ _ _ _ _ _ _ hd2
    generalize nmE one = NM at g2 lp ⊢
    generalize St.expand (Gp.gapsR one) = GE at g2 g3
    simp [g1, g2, g3, g4, r8, -List.map_cons]
    exact lp _
  unfold b_law_4
  have fin : ∀ (s14 : Sl) (t7 t8 t9 t10 t13 : Sl), OkS (forL (gN 14) b_law_2 [.int 0, .int by_] [s0, .sh (.loc 0), s2, .sh (.int by_), .sh (rsD one), .sh (rsD other), .sh (nmD (nmE one)), t7, t8, t9, t10, .sh (nmD (lessN one other)), .sh (.lst ([merged one, joinR one other, bothR one other, lessR one other].map rsD)), t13, s14, s15, s16, s17, s18, s19, s20] (d :: μ)) (fun ρ ν => OkS (mSeq (mIf (mNot (mT (eCall (noX (m__law_like 8)) (aCons (eCall m_gaps (aCons (eVar 4) (aNil))) (aCons (eCall (noX m__law_told_rows) (aCons (eCall (noX m__law_gaps) (aCons (eVar 6) (aNil))) (aNil))) (aNil)))))) (mRet (eC (.bl false))) (mNx)) (mFor (iRange1 (eC (.int 8))) (gN 19) (b_law_3)) ρ ν) N T) T := fun s14 t7 t8 t9 t10 t13 => by
    refine okS_for (enc := D.int) (fun left ρ ν => ∃ (d2 : Ob) (μ2 : Store) (t14 t15 t16 t17 t18 t19 t20 : Sl), Dice d2 ∧ (∀ m ∈ left, 0 ≤ m ∧ 400 + m ≤ 1000000000000) ∧ ν = d2 :: μ2 ∧ ρ = [s0, .sh (.loc 0), s2, .sh (.int by_), .sh (rsD one), .sh (rsD other), .sh (nmD (nmE one)), t7, t8, t9, t10, .sh (nmD (lessN one other)), .sh (.lst ([merged one, joinR one other, bothR one other, lessR one other].map rsD)), t13, t14, t15, t16, t17, t18, t19, t20]) ?_ ?_ (xs := [0, by_]) ⟨d, μ, _, _, _, _, _, _, _, hd, fun m hm' => by
      simp only [List.mem_cons, List.not_mem_nil, or_false] at hm'
      rcases hm' with rfl | rfl
      · omega
      · exact ⟨h0, hm⟩, rfl, rfl⟩
    · rintro m left ρ ν N' ⟨d2, μ2, t14, t15, t16, t17, t18, t19, t20, hd2, hmm, rfl, rfl⟩ kk
      refine ⟨_, rfl, ?_⟩
      obtain ⟨x1, x2⟩ := hmm m List.mem_cons_self
      exact ask_turn hd2 ha hb x1 x2 fun d3 μ3 u15 u16 u17 u18 u19 u20 hd3 => kk _ _ ⟨d3, μ3, _, _, _, _, _, _, _, hd3, fun q hq => hmm q (List.mem_cons_of_mem _ hq), rfl, rfl⟩
    · rintro ρ ν ⟨d2, μ2, t14, t15, t16, t17, t18, t19, t20, hd2, _, rfl, rfl⟩
      exact tail d2 μ2 _ _ _ _ _ _ _ _ _ _ _ _ hd2
  generalize hTL : (mSeq (mIf (mNot (mT (eCall (noX (m__law_like 8)) (aCons (eCall m_gaps (aCons (eVar 4) (aNil))) (aCons (eCall (noX m__law_told_rows) (aCons (eCall (noX m__law_gaps) (aCons (eVar 6) (aNil))) (aNil))) (aNil)))))) (mRet (eC (.bl false))) (mNx)) (mFor (iRange1 (eC (.int 8))) (gN 19) (b_law_3))) = TL at fin ⊢
  simp only [List.map_cons, List.map_nil] at c12 fin
  generalize joinN one other = JN at sm c12 lj
  generalize bothN one other = BN at c10 c12 fin lb
  generalize lessN one other = LN at c11 c12 fin lc
  generalize kdO (nmE other) = K at e1 c10 c11
  generalize nmE one = M1 at *
  generalize nmE other = M2 at *
  simp [n1, n2, c8, e1, c10, c11, z1, sm, c12]
  exact fin _ _ _ _ _ _
theorem law_true (ns : List Int) (hns : ns.length ≤ 63) : ∃ μ, m_law [.scr ns] [] = .ok (.sh (.bl true)) μ := by
  have key : Ok (m_law [.scr ns] []) fun rv _ => rv = .sh (.bl true) := by
    unfold m_law b_law
    simp [List.replicate]
    refine dice_ok fun d hd => ?_
    simp
    refine case_ok hd fun a1 b1 d1 hd1 ha1 hb1 => ?_
    simp
    refine case_ok hd1 fun a2 b2 d2 hd2 ha2 hb2 => ?_
    simp
    refine next_ok hd2 (by omega) (by omega) fun v d3 hd3 x1 x2 => ?_
    obtain ⟨by_, eb, y1, y2⟩ : ∃ w : Int, 999999999600 - v = w ∧ 0 ≤ w ∧ 400 + w ≤ 1000000000000 := ⟨_, rfl, by omega, by omega⟩
    have ct := cutD_take [two (a1, b1), two (a2, b2)] (show (0 : Int) ≤ 1 by omega)
    simp only [two] at ct
    simp [eb, ct]
    refine okS_for (enc := two) (fun left ρ ν => ∃ (d : Ob) (μ : Store) (t4 t5 t6 t7 t8 t9 t10 t11 t12 t13 t14 t15 t16 t17 t18 t19 t20 : Sl), Dice d ∧ (∀ p ∈ left, Low 400 200 p.1 ∧ Low 400 200 p.2) ∧ ν = d :: μ ∧ ρ = [.sh (.scr ns), .sh (.loc 0), .sh (.lst [two (a1, b1), two (a2, b2)]), .sh (.int by_), t4, t5, t6, t7, t8, t9, t10, t11, t12, t13, t14, t15, t16, t17, t18, t19, t20]) ?_ ?_ (xs := [(a1, b1), (a2, b2), (a1, b1)]) ⟨d3, [], _, _, _, _, _, _, _, _, _, _, _, _, _, _, _, _, _, hd3, fun p hp => by
      simp only [List.mem_cons, List.not_mem_nil, or_false] at hp
      rcases hp with rfl | rfl | rfl
      · exact ⟨ha1, hb1⟩
      · exact ⟨ha2, hb2⟩
      · exact ⟨ha1, hb1⟩, rfl, rfl⟩
    · rintro ⟨a, b⟩ left ρ ν N' ⟨d, μ, t4, t5, t6, t7, t8, t9, t10, t11, t12, t13, t14, t15, t16, t17, t18, t19, t20, hd, hl, rfl, rfl⟩ kk
      refine ⟨_, rfl, ?_⟩
      obtain ⟨h1, h2⟩ := hl _ List.mem_cons_self
      exact case_turn hd h1 h2 y1 y2 fun d' μ' u6 u7 u8 u9 u10 u11 u12 u13 u14 u15 u16 u17 u18 u19 u20 hd' => kk _ _ ⟨d', μ', _, _, _, _, _, _, _, _, _, _, _, _, _, _, _, _, _, hd', fun p hp => hl p (List.mem_cons_of_mem _ hp), rfl, rfl⟩
    · rintro ρ ν ⟨d, μ, t4, t5, t6, t7, t8, t9, t10, t11, t12, t13, t14, t15, t16, t17, t18, t19, t20, hd, _, rfl, rfl⟩
      simp
  obtain ⟨rv, μ, e, rfl⟩ := key.ex
  exact ⟨μ, e⟩
end Law

namespace Law
open PySem PySem.Spec PyProof.Rows L2 DL
theorem facts {P : Program} {w : World} {K : PySem.W.Frag} {h : Heap} {mg : Str → Option Value} {f : Addr} (X : K.In h) (G : h.Ns mainGlobals mg) (hfa : mg ("law" : Str) = some (.ref f)) (cE : He.SaysK fa fn tf ts ex w h K) :
    ∃ fd : FuncData, (∀ (s : Shared) (v : Value), BindsTo s fd ⟨[v], []⟩ [("_law_script", v)]) ∧ ∀ base : Heap, K.In base → base.Ns mainGlobals mg → (∀ p ∈ He.tabC K tf, LamX.TabB base mg p.1 p.2) → FnOk P w K mg base (L2.CX P w) 10 f fd ["_law_script"] (@spM ⟨He.tabT K tf⟩ K (He.ga K) 1 m_law) := by
  have c : He.SaysD fa fn K := He.SaysX.d0 cE
  have gm : Glob mg := {
    bool := He.free_ok X G (c.fact 29 (f := .free "bool") rfl),
    dict := He.free_ok X G (c.fact 30 (f := .free "dict") rfl),
    enumerate := He.free_ok X G (c.fact 31 (f := .free "enumerate") rfl),
    int := He.free_ok X G (c.fact 32 (f := .free "int") rfl),
    isinstance := He.free_ok X G (c.fact 33 (f := .free "isinstance") rfl),
    len := He.free_ok X G (c.fact 34 (f := .free "len") rfl),
    list := He.free_ok X G (c.fact 35 (f := .free "list") rfl),
    max := He.free_ok X G (c.fact 36 (f := .free "max") rfl),
    min := He.free_ok X G (c.fact 37 (f := .free "min") rfl),
    range := He.free_ok X G (c.fact 38 (f := .free "range") rfl),
    set := He.free_ok X G (c.fact 39 (f := .free "set") rfl),
    sorted := He.free_ok X G (c.fact 40 (f := .free "sorted") rfl),
    str := He.free_ok X G (c.fact 41 (f := .free "str") rfl),
    sum := He.free_ok X G (c.fact 42 (f := .free "sum") rfl),
    tuple := He.free_ok X G (c.fact 43 (f := .free "tuple") rfl),
    c_MOST_HOUSES := He.int_ok X G (c.fact 44 (f := .int "MOST_HOUSES" 8) rfl),
    c_MOST_NUMBER := He.int_ok X G (c.fact 45 (f := .int "MOST_NUMBER" 1000000000000) rfl),
    c_MOST_ROWS := He.int_ok X G (c.fact 46 (f := .int "MOST_ROWS" 200) rfl) }
  have cf : ClsF w K (He.ga K) mg := {
    x_NoHouse := ⟨(He.exc_ok (c.fact 47 (f := .exc "NoHouse") rfl)).1, (He.exc_ok (c.fact 47 (f := .exc "NoHouse") rfl)).2.1, (He.exc_ok (c.fact 47 (f := .exc "NoHouse") rfl)).2.2.1, (He.exc_ok (c.fact 47 (f := .exc "NoHouse") rfl)).2.2.2⟩,
    m_BadStretches := He.glo_ok X G (c.fact 48 (f := .glo "BadStretches") rfl),
    m_DoneError := He.glo_ok X G (c.fact 49 (f := .glo "DoneError") rfl),
    m_NoHouse := He.glo_ok X G (c.fact 50 (f := .glo "NoHouse") rfl) }
  obtain ⟨fd_is_row, F0_is_row⟩ := c.def_ 0 (d := dd_is_row) rfl
  have g_is_row : mg "is_row" = some (.ref (He.ga K "is_row")) := He.glo_ok X G (c.fact 0 (f := .glo "is_row") rfl)
  have F_is_row : Fun K "is_row" "is_row" s_is_row (He.ga K "is_row") fd_is_row := He5.fun_of F0_is_row
  obtain ⟨fd_need_rows, F0_need_rows⟩ := c.def_ 1 (d := dd_need_rows) rfl
  have g_need_rows : mg "need_rows" = some (.ref (He.ga K "need_rows")) := He.glo_ok X G (c.fact 1 (f := .glo "need_rows") rfl)
  have F_need_rows : Fun K "need_rows" "need_rows" s_need_rows (He.ga K "need_rows") fd_need_rows := He5.fun_of F0_need_rows
  obtain ⟨fd_need_house, F0_need_house⟩ := c.def_ 2 (d := dd_need_house) rfl
  have g_need_house : mg "need_house" = some (.ref (He.ga K "need_house")) := He.glo_ok X G (c.fact 2 (f := .glo "need_house") rfl)
  have F_need_house : Fun K "need_house" "need_house" s_need_house (He.ga K "need_house") fd_need_house := He5.fun_of F0_need_house
  obtain ⟨fd_merged, F0_merged⟩ := c.def_ 3 (d := dd_merged) rfl
  have g_merged : mg "merged" = some (.ref (He.ga K "merged")) := He.glo_ok X G (c.fact 3 (f := .glo "merged") rfl)
  have F_merged : Fun K "merged" "merged" s_merged (He.ga K "merged") fd_merged := He5.fun_of F0_merged
  obtain ⟨fd_cut_out, F0_cut_out⟩ := c.def_ 4 (d := dd_cut_out) rfl
  have g_cut_out : mg "cut_out" = some (.ref (He.ga K "cut_out")) := He.glo_ok X G (c.fact 4 (f := .glo "cut_out") rfl)
  have F_cut_out : Fun K "cut_out" "cut_out" s_cut_out (He.ga K "cut_out") fd_cut_out := He5.fun_of F0_cut_out
  obtain ⟨fd_in_both, F0_in_both⟩ := c.def_ 5 (d := dd_in_both) rfl
  have g_in_both : mg "in_both" = some (.ref (He.ga K "in_both")) := He.glo_ok X G (c.fact 5 (f := .glo "in_both") rfl)
  have F_in_both : Fun K "in_both" "in_both" s_in_both (He.ga K "in_both") fd_in_both := He5.fun_of F0_in_both
  obtain ⟨fd_held, F0_held⟩ := c.def_ 6 (d := dd_held) rfl
  have g_held : mg "held" = some (.ref (He.ga K "held")) := He.glo_ok X G (c.fact 6 (f := .glo "held") rfl)
  have F_held : Fun K "held" "held" s_held (He.ga K "held") fd_held := He5.fun_of F0_held
  obtain ⟨fd_count_of, F0_count_of⟩ := c.def_ 7 (d := dd_count_of) rfl
  have g_count_of : mg "count_of" = some (.ref (He.ga K "count_of")) := He.glo_ok X G (c.fact 7 (f := .glo "count_of") rfl)
  have F_count_of : Fun K "count_of" "count_of" s_count_of (He.ga K "count_of") fd_count_of := He5.fun_of F0_count_of
  obtain ⟨fd_plain, F0_plain⟩ := c.def_ 8 (d := dd_plain) rfl
  have g_plain : mg "plain" = some (.ref (He.ga K "plain")) := He.glo_ok X G (c.fact 8 (f := .glo "plain") rfl)
  have F_plain : Fun K "plain" "plain" s_plain (He.ga K "plain") fd_plain := He5.fun_of F0_plain
  obtain ⟨fd_joined, F0_joined⟩ := c.def_ 9 (d := dd_joined) rfl
  have g_joined : mg "joined" = some (.ref (He.ga K "joined")) := He.glo_ok X G (c.fact 9 (f := .glo "joined") rfl)
  have F_joined : Fun K "joined" "joined" s_joined (He.ga K "joined") fd_joined := He5.fun_of F0_joined
  obtain ⟨fd_common, F0_common⟩ := c.def_ 10 (d := dd_common) rfl
  have g_common : mg "common" = some (.ref (He.ga K "common")) := He.glo_ok X G (c.fact 10 (f := .glo "common") rfl)
  have F_common : Fun K "common" "common" s_common (He.ga K "common") fd_common := He5.fun_of F0_common
  obtain ⟨fd_less, F0_less⟩ := c.def_ 11 (d := dd_less) rfl
  have g_less : mg "less" = some (.ref (He.ga K "less")) := He.glo_ok X G (c.fact 11 (f := .glo "less") rfl)
  have F_less : Fun K "less" "less" s_less (He.ga K "less") fd_less := He5.fun_of F0_less
  obtain ⟨fd_within, F0_within⟩ := c.def_ 12 (d := dd_within) rfl
  have g_within : mg "within" = some (.ref (He.ga K "within")) := He.glo_ok X G (c.fact 12 (f := .glo "within") rfl)
  have F_within : Fun K "within" "within" s_within (He.ga K "within") fd_within := He5.fun_of F0_within
  obtain ⟨fd_has, F0_has⟩ := c.def_ 13 (d := dd_has) rfl
  have g_has : mg "has" = some (.ref (He.ga K "has")) := He.glo_ok X G (c.fact 13 (f := .glo "has") rfl)
  have F_has : Fun K "has" "has" s_has (He.ga K "has") fd_has := He5.fun_of F0_has
  obtain ⟨fd_amount, F0_amount⟩ := c.def_ 14 (d := dd_amount) rfl
  have g_amount : mg "amount" = some (.ref (He.ga K "amount")) := He.glo_ok X G (c.fact 14 (f := .glo "amount") rfl)
  have F_amount : Fun K "amount" "amount" s_amount (He.ga K "amount") fd_amount := He5.fun_of F0_amount
  obtain ⟨fd_reach, F0_reach⟩ := c.def_ 15 (d := dd_reach) rfl
  have g_reach : mg "reach" = some (.ref (He.ga K "reach")) := He.glo_ok X G (c.fact 15 (f := .glo "reach") rfl)
  have F_reach : Fun K "reach" "reach" s_reach (He.ga K "reach") fd_reach := He5.fun_of F0_reach
  obtain ⟨fd_whole_to, F0_whole_to⟩ := c.def_ 16 (d := dd_whole_to) rfl
  have g_whole_to : mg "whole_to" = some (.ref (He.ga K "whole_to")) := He.glo_ok X G (c.fact 16 (f := .glo "whole_to") rfl)
  have F_whole_to : Fun K "whole_to" "whole_to" s_whole_to (He.ga K "whole_to") fd_whole_to := He5.fun_of F0_whole_to
  obtain ⟨fd_gaps, F0_gaps⟩ := c.def_ 17 (d := dd_gaps) rfl
  have g_gaps : mg "gaps" = some (.ref (He.ga K "gaps")) := He.glo_ok X G (c.fact 17 (f := .glo "gaps") rfl)
  have F_gaps : Fun K "gaps" "gaps" s_gaps (He.ga K "gaps") fd_gaps := He5.fun_of F0_gaps
  obtain ⟨fd__law_dice, F0__law_dice⟩ := c.def_ 18 (d := dd__law_dice) rfl
  have g__law_dice : mg "_law_dice" = some (.ref (He.ga K "_law_dice")) := He.glo_ok X G (c.fact 18 (f := .glo "_law_dice") rfl)
  have F__law_dice : Fun K "_law_dice" "_law_dice" s__law_dice (He.ga K "_law_dice") fd__law_dice := He5.fun_of F0__law_dice
  obtain ⟨fd__law_next, F0__law_next⟩ := c.def_ 19 (d := dd__law_next) rfl
  have g__law_next : mg "_law_next" = some (.ref (He.ga K "_law_next")) := He.glo_ok X G (c.fact 19 (f := .glo "_law_next") rfl)
  have F__law_next : Fun K "_law_next" "_law_next" s__law_next (He.ga K "_law_next") fd__law_next := He5.fun_of F0__law_next
  obtain ⟨fd__law_like, F0__law_like⟩ := c.def_ 20 (d := dd__law_like) rfl
  have g__law_like : mg "_law_like" = some (.ref (He.ga K "_law_like")) := He.glo_ok X G (c.fact 20 (f := .glo "_law_like") rfl)
  have F__law_like : Fun K "_law_like" "_law_like" s__law_like (He.ga K "_law_like") fd__law_like := He5.fun_of F0__law_like
  obtain ⟨fd__law_rows, F0__law_rows⟩ := c.def_ 21 (d := dd__law_rows) rfl
  have g__law_rows : mg "_law_rows" = some (.ref (He.ga K "_law_rows")) := He.glo_ok X G (c.fact 21 (f := .glo "_law_rows") rfl)
  have F__law_rows : Fun K "_law_rows" "_law_rows" s__law_rows (He.ga K "_law_rows") fd__law_rows := He5.fun_of F0__law_rows
  obtain ⟨fd__law_moved, F0__law_moved⟩ := c.def_ 22 (d := dd__law_moved) rfl
  have g__law_moved : mg "_law_moved" = some (.ref (He.ga K "_law_moved")) := He.glo_ok X G (c.fact 22 (f := .glo "_law_moved") rfl)
  have F__law_moved : Fun K "_law_moved" "_law_moved" s__law_moved (He.ga K "_law_moved") fd__law_moved := He5.fun_of F0__law_moved
  obtain ⟨fd__law_names, F0__law_names⟩ := c.def_ 23 (d := dd__law_names) rfl
  have g__law_names : mg "_law_names" = some (.ref (He.ga K "_law_names")) := He.glo_ok X G (c.fact 23 (f := .glo "_law_names") rfl)
  have F__law_names : Fun K "_law_names" "_law_names" s__law_names (He.ga K "_law_names") fd__law_names := He5.fun_of F0__law_names
  obtain ⟨fd__law_told_rows, F0__law_told_rows⟩ := c.def_ 24 (d := dd__law_told_rows) rfl
  have g__law_told_rows : mg "_law_told_rows" = some (.ref (He.ga K "_law_told_rows")) := He.glo_ok X G (c.fact 24 (f := .glo "_law_told_rows") rfl)
  have F__law_told_rows : Fun K "_law_told_rows" "_law_told_rows" s__law_told_rows (He.ga K "_law_told_rows") fd__law_told_rows := He5.fun_of F0__law_told_rows
  obtain ⟨fd__law_gaps, F0__law_gaps⟩ := c.def_ 25 (d := dd__law_gaps) rfl
  have g__law_gaps : mg "_law_gaps" = some (.ref (He.ga K "_law_gaps")) := He.glo_ok X G (c.fact 25 (f := .glo "_law_gaps") rfl)
  have F__law_gaps : Fun K "_law_gaps" "_law_gaps" s__law_gaps (He.ga K "_law_gaps") fd__law_gaps := He5.fun_of F0__law_gaps
  obtain ⟨fd__law_reach, F0__law_reach⟩ := c.def_ 26 (d := dd__law_reach) rfl
  have g__law_reach : mg "_law_reach" = some (.ref (He.ga K "_law_reach")) := He.glo_ok X G (c.fact 26 (f := .glo "_law_reach") rfl)
  have F__law_reach : Fun K "_law_reach" "_law_reach" s__law_reach (He.ga K "_law_reach") fd__law_reach := He5.fun_of F0__law_reach
  obtain ⟨fd__law_case, F0__law_case⟩ := c.def_ 27 (d := dd__law_case) rfl
  have g__law_case : mg "_law_case" = some (.ref (He.ga K "_law_case")) := He.glo_ok X G (c.fact 27 (f := .glo "_law_case") rfl)
  have F__law_case : Fun K "_law_case" "_law_case" s__law_case (He.ga K "_law_case") fd__law_case := He5.fun_of F0__law_case
  obtain ⟨fd_law, F0_law⟩ := c.def_ 28 (d := dd_law) rfl
  have g_law : mg "law" = some (.ref (He.ga K "law")) := He.glo_ok X G (c.fact 28 (f := .glo "law") rfl)
  have F_law : Fun K "law" "law" s_law (He.ga K "law") fd_law := He5.fun_of F0_law
  obtain ⟨fd_BadStretches___init__, F0_BadStretches___init__⟩ := c.def_ 29 (d := dd_BadStretches___init__) rfl
  have oex_BadStretches := He.oexB_ok (He.SaysX.chk0 cE 1 (f := ck_oex_BadStretches) rfl)
  have ini_BadStretches := He.initB_ok (He.SaysX.chk0 cE 2 (f := ck_ini_BadStretches) rfl)
  have nf_BadStretches : PySem.W.findIn K (.ref (He.ga K "BadStretches")) "at" = some none := of_decide_eq_true (He.SaysX.chk0 cE 3 (f := ck_nf_BadStretches) rfl)
  have exb_BadStretches := He.exbB_ok (He.SaysX.chk0 cE 4 (f := ck_exb_DoneError) rfl)
  have F_BadStretches___init__ : Fun K "__init__" "BadStretches.__init__" s_BadStretches___init__ (He.ma K (He.ga K "BadStretches") "__init__") fd_BadStretches___init__ := He5.fun_of F0_BadStretches___init__
  have e := hfa.symm.trans g_law
  cases e
  have bl : ∀ (s : Shared) (v : Value), BindsTo s fd_law ⟨[v], []⟩ [("_law_script", v)] := fun s v => by
    have b := FunD.bindsA (ps := ["_law_script"]) F0_law fun _ _ _ _ _ _ us hl => match us, hl with | [_], _ => rfl
    exact b s [v] rfl
  refine ⟨fd_law, bl, fun base hK hN TB => ?_⟩
  letI : Tbs := ⟨He.tabT K tf⟩
  have e_BadStretches := ok_BadStretches___init__ (P := P) (w := w) (base := base) (cad := He.ga K) cf F_BadStretches___init__ oex_BadStretches ini_BadStretches nf_BadStretches exb_BadStretches
  have d_is_row := ok_is_row (P := P) (w := w) (base := base) (cad := He.ga K) gm cf  F_is_row g_is_row
  have d_need_rows := ok_need_rows (P := P) (w := w) (base := base) (cad := He.ga K) gm cf e_BadStretches d_is_row F_need_rows g_need_rows
  have d_need_house := ok_need_house (P := P) (w := w) (base := base) (cad := He.ga K) gm cf  F_need_house g_need_house
  have d_merged := ok_merged (P := P) (w := w) (base := base) (cad := He.ga K) gm cf  F_merged g_merged
  have d_cut_out := ok_cut_out (P := P) (w := w) (base := base) (cad := He.ga K) gm cf  F_cut_out g_cut_out
  have d_in_both := ok_in_both (P := P) (w := w) (base := base) (cad := He.ga K) gm cf  F_in_both g_in_both
  have d_held := ok_held (P := P) (w := w) (base := base) (cad := He.ga K) gm cf  F_held g_held
  have d_count_of := ok_count_of (P := P) (w := w) (base := base) (cad := He.ga K) gm cf  F_count_of g_count_of
  have d_plain := ok_plain (P := P) (w := w) (base := base) (cad := He.ga K) gm cf d_merged d_need_rows F_plain g_plain
  have d_joined := ok_joined (P := P) (w := w) (base := base) (cad := He.ga K) gm cf d_merged d_plain F_joined g_joined
  have d_common := ok_common (P := P) (w := w) (base := base) (cad := He.ga K) gm cf d_in_both d_plain F_common g_common
  have d_less := ok_less (P := P) (w := w) (base := base) (cad := He.ga K) gm cf d_cut_out d_plain F_less g_less
  have d_within := ok_within (P := P) (w := w) (base := base) (cad := He.ga K) gm cf d_less F_within g_within
  have d_has := ok_has (P := P) (w := w) (base := base) (cad := He.ga K) gm cf d_held d_need_house d_need_rows F_has g_has
  have d_amount := ok_amount (P := P) (w := w) (base := base) (cad := He.ga K) gm cf d_count_of d_plain F_amount g_amount
  have d_reach := ok_reach (P := P) (w := w) (base := base) (cad := He.ga K) gm cf  F_reach g_reach
  have d_whole_to := ok_whole_to (P := P) (w := w) (base := base) (cad := He.ga K) gm cf d_need_house d_plain d_reach F_whole_to g_whole_to
  have d_gaps := ok_gaps (P := P) (w := w) (base := base) (cad := He.ga K) gm cf d_cut_out d_plain F_gaps g_gaps
  have d__law_dice := ok__law_dice (P := P) (w := w) (base := base) (cad := He.ga K) gm cf  F__law_dice g__law_dice
  have d__law_next := ok__law_next (P := P) (w := w) (base := base) (cad := He.ga K) gm cf  F__law_next g__law_next
  have d__law_like := ok__law_like (P := P) (w := w) (base := base) (cad := He.ga K) gm cf  F__law_like g__law_like 8
  have d__law_rows := ok__law_rows (P := P) (w := w) (base := base) (cad := He.ga K) gm cf d__law_next F__law_rows g__law_rows
  have d__law_moved := ok__law_moved (P := P) (w := w) (base := base) (cad := He.ga K) gm cf  F__law_moved g__law_moved
  have d__law_names := ok__law_names (P := P) (w := w) (base := base) (cad := He.ga K) gm cf  F__law_names g__law_names
  have d__law_told_rows := ok__law_told_rows (P := P) (w := w) (base := base) (cad := He.ga K) gm cf  F__law_told_rows g__law_told_rows
  have d__law_gaps := ok__law_gaps (P := P) (w := w) (base := base) (cad := He.ga K) gm cf  F__law_gaps g__law_gaps
  have d__law_reach := ok__law_reach (P := P) (w := w) (base := base) (cad := He.ga K) gm cf  F__law_reach g__law_reach
  have d__law_case := ok__law_case (P := P) (w := w) (base := base) (cad := He.ga K) gm cf d__law_next d__law_rows F__law_case g__law_case
  exact ok_law_fn (P := P) (w := w) (base := base) (cad := He.ga K) gm cf d__law_case d__law_dice d__law_gaps d__law_like d__law_moved d__law_names d__law_next d__law_reach d__law_told_rows d_amount d_common d_gaps d_has d_joined d_less d_plain d_whole_to d_within F_law
end Law
open PySem PySem.W PySem.Calls PyProof.Rows
set_option maxHeartbeats 0 in
theorem PySem.Challenge.cw_doneranges_k02_sets_holds : PySem.Challenge.rw_doneranges_k02_sets.Holds := by
  w_on; o_law
  refine HandSHeadRun.head_any (r := OpenLaw.row PySem.Challenge.rw_doneranges_k02_sets) (q := view (OpenLaw.row PySem.Challenge.rw_doneranges_k02_sets).prog [37]) (H := Law.hk) (ob := Law.ob) (M := 30000) (loose := Law.loose) (d := HandSHeadRun.topDef (OpenLaw.row PySem.Challenge.rw_doneranges_k02_sets).prog 37) (kwd := []) Law.ob_eq
    (by kernel_rfl) (fun s => by kernel_rfl) Law.run (by kernel_rfl) (by kernel_rfl) (by kernel_rfl) (by rfl) (by first | assumption | decide +kernel) (by decide +kernel) ⟨rfl, rfl, rfl, rfl, rfl, by decide +kernel⟩ ?hw ?hc
  case hw => w_witness2
  case hc =>
    refine He.walk_K (l := PySem.Challenge.rw_doneranges_k02_sets) (n := 63) (k := 10) (x := "_law_script") (CX := fun w => L2.CX (PySem.Challenge.rw_doneranges_k02_sets).prog w) rfl (by decide) (by kernel_rfl) ⟨rfl, by decide, by decide⟩ ?F (fun _ _ _ _ _ z => He.cx_end z)
    intro w mg fa h Y G hmg0
    obtain ⟨K, KX, c⟩ := Y
    have hmg : mg ("law" : PySem.Str) = some (.ref fa) := by
      have e : (HandSHeadRun.topDef (OpenLaw.row PySem.Challenge.rw_doneranges_k02_sets).prog 37).name = ("law" : PySem.Str) := by kernel_rfl
      rw [← e]
      exact hmg0
    obtain ⟨fd, hb, hF⟩ := Law.facts (P := (PySem.Challenge.rw_doneranges_k02_sets).prog) (w := w) KX G hmg c
    obtain ⟨t1, t2, t3⟩ := He.says_tabs KX c
    exact ⟨K, KX, fd, He.tabC K Law.tf, @DL.spM ⟨He.tabT K Law.tf⟩ K (He.ga K) 1 Law.m_law, t1, t2, t3, hb, fun H a ns hl _ hT hS => @DL.law_sp ⟨He.tabT K Law.tf⟩ _ _ _ _ _ _ hS (He.tb_start hT) (Law.law_true ns hl), hF⟩


