import PyProof.Rows.All
import Wide.All
import OpenK.AllK
import Wide.FinOn
import PyProof.EqAt
import PyProof.EqKinds
import PyProof.TupleCall
import HandS.ForMost
import HandS.Wide
import HandS.IsInst
import HandS.SortInts
import HandS.Zip
import HandS.Flow
import KE.DataEq
import PyProof.Rows.IntBool
import HandS.SetFor
import HandS.Strs
import HandS.TupAny
import HandS.Walk
import HandS.Style
import HandS.TupMul
import HandS.More
import KE.KDictPairs
import KE.KUnpackStar
import HandS.Star
import KE.GoesMore
import HandS.ExcInit
import HandS.ClsMeth
import HandS.WordsExc
import HandS.ExcOwn
import HandS.ExcCtx
import HandS.WordsDict
import HandS.DictComp
import HandS.Defaults
import HandS.HotCalls
import KE.KExcIs
import HandS.ExcField
import PyProof.Rows.TupIter
import HandS.SetBool
import HandS.Conv
import KE.KStateDown
import HandS.Head0
import HandS.Head1
import HandS.Head2
import HandS.HeadEnd
import HandS.HeadHook1
import HandS.HeadHook2
import HandS.HeadNt
import HandS.CallSlots
import HandS.MakeKwOnly
import HandS.MakeKw
import PySem.Challenge.RW_tidecopy_k29_events_judged
set_option Elab.async false
set_option linter.all false
set_option maxRecDepth 100000
namespace Pv
open PySem PySem.Spec PyProof.Rows L2 L2H
def asM (g : Addr → Option Obj) (n : Nat) : List Addr := He.asD g n ++ [cStatics]
abbrev AlM : Type := He.AlD × Bool
abbrev Bf : Type := PySem.W.Frag → Bool
def obsM (fa : List He.Fa) (fn : List He.DefD) (ex : List Bf) (K : PySem.W.Frag) : AlM := (He.obsD fa fn K, ex.all fun b => b K)
def valM (fn : List He.DefD) : AlM := (He.valD fn, true)
def SaysM (fa : List He.Fa) (fn : List He.DefD) (ex : List Bf) (K : PySem.W.Frag) : Prop := obsM fa fn ex K = valM fn
def obsMG (n : Nat) (fa : List He.Fa) (fn : List He.DefD) (ex : List Bf) (g : Addr → Option Obj) : AlM := obsM fa fn ex (He.frG g (asM g n))
def hookM (n : Nat) (fa : List He.Fa) (fn : List He.DefD) (ex : List Bf) : PySem.W.Hook where
  α := AlM
  obs := fun s => obsMG n fa fn ex s.heap.get?
  val := fun _ => valM fn
  says := fun _ h => ∃ K : PySem.W.Frag, K.In h ∧ SaysM fa fn ex K
  of := fun _ _ e => ⟨_, He.frG_in, e⟩
  keeps := fun _ _ _ ⟨K, hK, c⟩ k => ⟨K, PySem.W.Frag.In.keeps hK k, c⟩
theorem obsMG_eq {n : Nat} {fa : List He.Fa} {fn : List He.DefD} {ex : List Bf} {g : Addr → Option Obj} {s : Shared} (h : ∀ a, g a = s.heap.get? a) : obsMG n fa fn ex g = (hookM n fa fn ex).obs s := by
  have e : g = s.heap.get? := funext h
  rw [e] <;> rfl
def oexB (K : PySem.W.Frag) (C : Addr) : Bool := (match K.lookup C with
  | some ⟨.type "type", _, .cls cd, sl⟩ => (match cd.mro, sl.toList with
    | .ref C' :: bm, [_, _, _, _, some (.builtin n), _] => C' == C && n == "ValueError.__new__" && !cd.hasDel && cd.hasDict && PySem.HandSPX.refsVE bm
    | _, _ => false)
  | _ => false) && (He.eqO (PySem.W.findIn K (.ref C) "__setattr__") (some (some (.builtin "object.__setattr__"))) && (decide (PySem.W.subIn K (.ref C) (.type "BaseException") = some true) && (decide (PySem.W.typeIn K (.ref C) = some (.type "type")) && PySem.W.keepIn K (.ref C))))
def clsB (K : PySem.W.Frag) (C : Addr) (m : Str) (v : Value) : Bool := match PySem.W.findCls K (.ref C) (.type "type") m with
  | some (.val u) => decide (u = v)
  | _ => false
def excB (K : PySem.W.Frag) (C : Addr) : Bool := xfB K C && (decide (PySem.W.findIn K (.ref C) "__class__" = some (some (.builtin "object.__class__"))) && (decide (PySem.W.specialIn K (.builtin "object.__class__") "__get__" = some (some (.builtin "getset_descriptor.__get__"))) &&
  (decide (PySem.W.takesIn K (.builtin "object.__class__") = some true) && decide (PySem.W.mroIn K C (.type "object") = some true))))
structure KRow where
  c : Str
  f : Str
  bs : List Bool
def ktB (K : PySem.W.Frag) (ds : List Value) (r : KRow × Addr) : Bool := excB K r.2 && (decide (r.1.f ≠ "" → PySem.W.findIn K (.ref r.2) r.1.f = some none) && decide (ds.map (fun c => (PySem.W.kitOne K (.ref r.2) c, PySem.W.exmOne K (.ref r.2) c)) = r.1.bs.map fun b => (some b, some b)))
def ktup0B (K : PySem.W.Frag) (a : Addr) : Bool := match K.lookup a with
  | some ⟨.type c, none, .seq its _, _⟩ => decide (c = "tuple") && decide (its.size = 0)
  | _ => false
def ownQB (K : PySem.W.Frag) (C : Addr) : Bool := He.eqO (PySem.W.findIn K (.ref C) "__class__") (some (some (.builtin "object.__class__"))) && (He.eqO (PySem.W.specialIn K (.builtin "object.__class__") "__get__") (some (some (.builtin "getset_descriptor.__get__"))) &&
  (decide (PySem.W.takesIn K (.builtin "object.__class__") = some true) && (decide (PySem.W.mroIn K C (.type "object") = some true) && ((PySem.W.clsIn K C).isSome && PySem.W.typeIn K (.ref C) == some (.type "type")))))
end Pv
namespace Pv
open PySem PySem.Spec PyProof.Rows
section
variable (st : PySem.W.SharedT → Thread → Option (PySem.W.SharedT × Thread)) (n0 : Nat) (ann : Option Value)
/-- so many steps of the top -/
def goK : Nat → PySem.W.SharedT → Thread → Option (PySem.W.SharedT × Thread)
  | 0, s, t => some (s, t)
  | m + 1, s, t => match PySem.W.through t with
    | true => none
    | false => match PySem.W.stepOk n0 ann t with
      | false => none
      | true => match st s t with
        | some (s', t') => HandSHeadRun.frS s' fun s' => goK m s' t'
        | none => none
end
theorem goF_go {st : PySem.W.SharedT → Thread → Option (PySem.W.SharedT × Thread)} {n0 N : Nat} {ann : Option Value} {r : PySem.W.SharedT} : ∀ {n : Nat} {s s1 : PySem.W.SharedT} {t t1 : Thread}, goK st n0 ann n s t = some (s1, t1) → HandSHeadRun.goF st n0 ann N s1 t1 = some r → HandSHeadRun.goF st n0 ann (n + N) s t = some r
  | 0, s, s1, t, t1, h, k => by
    cases h
    rw [Nat.zero_add]
    exact k
  | n + 1, s, s1, t, t1, h, k => by
    rw [show n + 1 + N = n + N + 1 by omega]
    replace h : (match PySem.W.through t with
      | true => none
      | false => match PySem.W.stepOk n0 ann t with
        | false => none
        | true => match st s t with
          | some (s', t') => HandSHeadRun.frS s' fun s' => goK st n0 ann n s' t'
          | none => none) = some (s1, t1) := h
    show (match PySem.W.through t with
      | true => some s
      | false => match PySem.W.stepOk n0 ann t with
        | false => none
        | true => match st s t with
          | some (s', t') => HandSHeadRun.frS s' fun s' => HandSHeadRun.goF st n0 ann (n + N) s' t'
          | none => none) = some r
    cases e1 : PySem.W.through t with
    | true => rw [e1] at h; cases h
    | false =>
      rw [e1] at h
      cases e2 : PySem.W.stepOk n0 ann t with
      | false => rw [e2] at h; cases h
      | true =>
        rw [e2] at h
        cases e3 : st s t with
        | none => rw [e3] at h; cases h
        | some p =>
          obtain ⟨s2, t2⟩ := p
          rw [e3] at h
          replace h : (HandSHeadRun.frS s2 fun s' => goK st n0 ann n s' t2) = some (s1, t1) := h
          show (HandSHeadRun.frS s2 fun s' => HandSHeadRun.goF st n0 ann (n + N) s' t2) = some r
          rw [HandSHeadRun.frS_eq] at h ⊢
          exact goF_go h k
theorem endF_cut {st : PySem.W.SharedT → Thread → Option (PySem.W.SharedT × Thread)} {n N n0 : Nat} {T : PySem.W.BT} {p : Program} {w : World} {os : OsState} {s1 r : PySem.W.SharedT} {t1 : Thread} (e : HandSHeadRun.putAll (PySem.W.boot_heap w.params).objs.toList .nil 0 = some (T, n0)) (h : goK st n0 (HandSHeadRun.bootAnn w) n (HandSHeadRun.bootT w os (T, n0)) (PySem.W.topStub p) = some (s1, t1)) (k : HandSHeadRun.goF st n0 (HandSHeadRun.bootAnn w) N s1 t1 = some r) : HandSHeadRun.endF st (n + N) p w os = some r := by
  unfold HandSHeadRun.endF
  rw [e]
  show (HandSHeadRun.frNat n0 fun n0 => HandSHeadRun.goF st n0 (HandSHeadRun.bootAnn w) (n + N) (HandSHeadRun.bootT w os (T, n0)) (PySem.W.topStub p)) = some r
  rw [HandSHeadRun.frNat_eq]
  exact goF_go h k
/-- what is looked at: the things at these addresses -/
def hookX (as : List Addr) (fa : List He.Fa) (fn : List He.DefD) (ex : List Bf) : PySem.W.Hook where
  α := AlM
  obs := fun s => obsM fa fn ex (He.frG s.heap.get? as)
  val := fun _ => valM fn
  says := fun _ h => ∃ K : PySem.W.Frag, K.In h ∧ SaysM fa fn ex K
  of := fun _ _ e => ⟨_, He.frG_in, e⟩
  keeps := fun _ _ _ ⟨K, hK, c⟩ k => ⟨K, PySem.W.Frag.In.keeps hK k, c⟩
def obsX (as : List Addr) (fa : List He.Fa) (fn : List He.DefD) (ex : List Bf) (g : Addr → Option Obj) : AlM := obsM fa fn ex (He.frG g as)
theorem obsX_eq {as : List Addr} {fa : List He.Fa} {fn : List He.DefD} {ex : List Bf} {g : Addr → Option Obj} {s : Shared} (h : ∀ a, g a = s.heap.get? a) : obsX as fa fn ex g = (hookX as fa fn ex).obs s := by
  have e : g = s.heap.get? := funext h
  rw [e] <;> rfl
theorem all_two {α : Type} {p : α → Bool} {a b : List α} (h : a.all p = true) (k : b.all p = true) : (a ++ b).all p = true := by rw [List.all_append, h, k]; rfl
theorem map_two {α β : Type} {f g : α → β} {a b : List α} (h : a.map f = a.map g) (k : b.map f = b.map g) : (a ++ b).map f = (a ++ b).map g := by rw [List.map_append, List.map_append, h, k]
theorem obsM_of {fa : List He.Fa} {fn : List He.DefD} {ex : List Bf} {K : PySem.W.Frag} (h1 : (fa.all fun f => f.ok K) = true) (h2 : (fn.all fun d => d.ok K) = true) (h3 : fn.map (fun d => He.fnW K d.at_) = fn.map He.DefD.val) (h4 : (ex.all fun b => b K) = true) : obsM fa fn ex K = valM fn := by
  unfold obsM valM He.obsD He.valD
  rw [h1, h2, h3, h4]
  rfl
end Pv

namespace K29
open PySem PySem.Spec PyProof.Rows L2 Pv
def topS (i : Nat) : Stmt := PySem.Challenge.pw_tidecopy_k29_events_judged.main.body.getD i (.Pass ⟨0, 0, 0, 0⟩)
abbrev s_NoPlace___init__ : Stmt := inClass (topS 3) 0
abbrev s_changes_of : Stmt := topS 5
abbrev s_put_change : Stmt := topS 6
abbrev s_pairs_of : Stmt := topS 7
abbrev s_need_place : Stmt := topS 8
abbrev s_all_tables : Stmt := topS 9
abbrev s_changed : Stmt := topS 10
abbrev s_due_changes : Stmt := topS 12
abbrev s_is_copy : Stmt := topS 13
abbrev s_first_wrong : Stmt := topS 14
abbrev s__law_bag : Stmt := topS 16
abbrev s__law_take : Stmt := topS 17
abbrev s__law_of : Stmt := topS 18
abbrev s__law_keys : Stmt := topS 19
abbrev s__law_table : Stmt := topS 20
abbrev s__law_changes : Stmt := topS 21
abbrev s__law_entry : Stmt := topS 22
abbrev s__law_log : Stmt := topS 23
abbrev s__law_done : Stmt := topS 24
abbrev s__law_pairs : Stmt := topS 25
abbrev s__law_groups : Stmt := topS 26
abbrev s__law_at : Stmt := topS 27
abbrev s__law_moved : Stmt := topS 28
abbrev s__law_wrong_at : Stmt := topS 29
abbrev s__law_true_events : Stmt := topS 30
abbrev s__law_other_events : Stmt := topS 31
abbrev s_law : Stmt := topS 32
def dd_changes_of : He.DefD := ⟨("changes_of", none), "changes_of", "changes_of", defArgs s_changes_of, defBody s_changes_of, defScope s_changes_of, [], []⟩
def dd_put_change : He.DefD := ⟨("put_change", none), "put_change", "put_change", defArgs s_put_change, defBody s_put_change, defScope s_put_change, [], []⟩
def dd_pairs_of : He.DefD := ⟨("pairs_of", none), "pairs_of", "pairs_of", defArgs s_pairs_of, defBody s_pairs_of, defScope s_pairs_of, [], []⟩
def dd_need_place : He.DefD := ⟨("need_place", none), "need_place", "need_place", defArgs s_need_place, defBody s_need_place, defScope s_need_place, [], []⟩
def dd_all_tables : He.DefD := ⟨("all_tables", none), "all_tables", "all_tables", defArgs s_all_tables, defBody s_all_tables, defScope s_all_tables, [], []⟩
def dd_changed : He.DefD := ⟨("changed", none), "changed", "changed", defArgs s_changed, defBody s_changed, defScope s_changed, [], []⟩
def dd_due_changes : He.DefD := ⟨("due_changes", none), "due_changes", "due_changes", defArgs s_due_changes, defBody s_due_changes, defScope s_due_changes, [], []⟩
def dd_is_copy : He.DefD := ⟨("is_copy", none), "is_copy", "is_copy", defArgs s_is_copy, defBody s_is_copy, defScope s_is_copy, [], []⟩
def dd_first_wrong : He.DefD := ⟨("first_wrong", none), "first_wrong", "first_wrong", defArgs s_first_wrong, defBody s_first_wrong, defScope s_first_wrong, [], [("start", .int 0)]⟩
def dd__law_bag : He.DefD := ⟨("_law_bag", none), "_law_bag", "_law_bag", defArgs s__law_bag, defBody s__law_bag, defScope s__law_bag, [], []⟩
def dd__law_take : He.DefD := ⟨("_law_take", none), "_law_take", "_law_take", defArgs s__law_take, defBody s__law_take, defScope s__law_take, [], []⟩
def dd__law_of : He.DefD := ⟨("_law_of", none), "_law_of", "_law_of", defArgs s__law_of, defBody s__law_of, defScope s__law_of, [], []⟩
def dd__law_keys : He.DefD := ⟨("_law_keys", none), "_law_keys", "_law_keys", defArgs s__law_keys, defBody s__law_keys, defScope s__law_keys, [], []⟩
def dd__law_table : He.DefD := ⟨("_law_table", none), "_law_table", "_law_table", defArgs s__law_table, defBody s__law_table, defScope s__law_table, [], []⟩
def dd__law_changes : He.DefD := ⟨("_law_changes", none), "_law_changes", "_law_changes", defArgs s__law_changes, defBody s__law_changes, defScope s__law_changes, [], []⟩
def dd__law_entry : He.DefD := ⟨("_law_entry", none), "_law_entry", "_law_entry", defArgs s__law_entry, defBody s__law_entry, defScope s__law_entry, [], []⟩
def dd__law_log : He.DefD := ⟨("_law_log", none), "_law_log", "_law_log", defArgs s__law_log, defBody s__law_log, defScope s__law_log, [], []⟩
def dd__law_done : He.DefD := ⟨("_law_done", none), "_law_done", "_law_done", defArgs s__law_done, defBody s__law_done, defScope s__law_done, [], []⟩
def dd__law_pairs : He.DefD := ⟨("_law_pairs", none), "_law_pairs", "_law_pairs", defArgs s__law_pairs, defBody s__law_pairs, defScope s__law_pairs, [], []⟩
def dd__law_groups : He.DefD := ⟨("_law_groups", none), "_law_groups", "_law_groups", defArgs s__law_groups, defBody s__law_groups, defScope s__law_groups, [], []⟩
def dd__law_at : He.DefD := ⟨("_law_at", none), "_law_at", "_law_at", defArgs s__law_at, defBody s__law_at, defScope s__law_at, [], []⟩
def dd__law_moved : He.DefD := ⟨("_law_moved", none), "_law_moved", "_law_moved", defArgs s__law_moved, defBody s__law_moved, defScope s__law_moved, [], []⟩
def dd__law_wrong_at : He.DefD := ⟨("_law_wrong_at", none), "_law_wrong_at", "_law_wrong_at", defArgs s__law_wrong_at, defBody s__law_wrong_at, defScope s__law_wrong_at, [], []⟩
def dd__law_true_events : He.DefD := ⟨("_law_true_events", none), "_law_true_events", "_law_true_events", defArgs s__law_true_events, defBody s__law_true_events, defScope s__law_true_events, [], []⟩
def dd__law_other_events : He.DefD := ⟨("_law_other_events", none), "_law_other_events", "_law_other_events", defArgs s__law_other_events, defBody s__law_other_events, defScope s__law_other_events, [], []⟩
def dd_law : He.DefD := ⟨("law", none), "law", "law", defArgs s_law, defBody s_law, defScope s_law, [], []⟩
def fnL0 : List He.DefD := [dd_changes_of, dd_put_change, dd_pairs_of, dd_need_place, dd_all_tables, dd_changed, dd_due_changes, dd_is_copy, dd_first_wrong, dd__law_bag, dd__law_take, dd__law_of, dd__law_keys, dd__law_table, dd__law_changes, dd__law_entry, dd__law_log, dd__law_done, dd__law_pairs, dd__law_groups, dd__law_at, dd__law_moved, dd__law_wrong_at, dd__law_true_events]
def fnL1 : List He.DefD := [dd__law_other_events, dd_law]
def fnL : List He.DefD := fnL0 ++ (fnL1)
def faL0 : List He.Fa := [.glo "changes_of", .glo "put_change", .glo "pairs_of", .glo "need_place", .glo "all_tables", .glo "changed", .glo "due_changes", .glo "is_copy", .glo "first_wrong", .glo "_law_bag", .glo "_law_take", .glo "_law_of", .glo "_law_keys", .glo "_law_table", .glo "_law_changes", .glo "_law_entry", .glo "_law_log", .glo "_law_done", .glo "_law_pairs", .glo "_law_groups", .glo "_law_at", .glo "_law_moved", .glo "_law_wrong_at", .glo "_law_true_events"]
def faL1 : List He.Fa := [.glo "_law_other_events", .glo "law", .free "tuple", .free "sorted", .free "dict", .free "len", .free "enumerate", .free "abs", .free "set", .free "range", .free "list", .free "min"]
def faL : List He.Fa := faL0 ++ (faL1)
def exL0 : List Bf := []
def exL : List Bf := exL0
abbrev Rr : PySem.W.OpenRow := PySem.W.OpenLaw.row PySem.Challenge.rw_tidecopy_k29_events_judged
def asL : List Addr := List.range 226 ++ [cStatics]
abbrev hk : PySem.W.Hook := hookX asL faL fnL exL
def ob (s : PySem.W.SharedT) : AlM := obsX asL faL fnL exL (HandSHeadRun.getT s)
theorem ob_eq (s : PySem.W.SharedT) : ob s = hk.obs s.abs := obsX_eq (HandSHeadRun.getT_eq s)
def loose0 : List PySem.Str := ["TideError", "AskedError", "NoPlace", "changes_of", "put_change", "pairs_of", "need_place", "all_tables", "changed", "due_changes", "is_copy", "first_wrong", "_law_bag", "_law_take", "_law_of", "_law_keys", "_law_table", "_law_changes", "_law_entry", "_law_log"]
def loose1 : List PySem.Str := ["_law_done", "_law_pairs", "_law_groups", "_law_at", "_law_moved", "_law_wrong_at", "_law_true_events", "_law_other_events"]
def looseL : List PySem.Str := loose0 ++ loose1
abbrev PR : Program := Rr.prog
abbrev zS : String → PySem.Str := PySem.Str.ofString
noncomputable def trB (P : Params) : PySem.W.BT := (.node (PySem.W.boot_o_0 P) (.node (PySem.W.boot_o_1 P) (.node (PySem.W.boot_o_3 P) (.node (PySem.W.boot_o_7 P) .nil .nil) .nil) (.node (PySem.W.boot_o_5 P) (.node (PySem.W.boot_o_9 P) .nil .nil) .nil)) (.node (PySem.W.boot_o_2 P) (.node (PySem.W.boot_o_4 P) (.node (PySem.W.boot_o_8 P) .nil .nil) .nil) (.node (PySem.W.boot_o_6 P) (.node (PySem.W.boot_o_10 P) .nil .nil) .nil)))
def o0_0 (P : Params) : Obj := ⟨(.type "dict"), none, (.dict [⟨PyData.keyHash P (zS "__name__"), (.str (zS "__name__") 1), (.str (zS "builtins") 160)⟩, ⟨PyData.keyHash P (zS "__doc__"), (.str (zS "__doc__") 2), (.builtin "builtins.__doc__:str#opaque")⟩, ⟨PyData.keyHash P (zS "__package__"), (.str (zS "__package__") 3), (.builtin "builtins.__package__:str#opaque")⟩, ⟨PyData.keyHash P (zS "__loader__"), (.str (zS "__loader__") 4), (.builtin "builtins.__loader__:shared#opaque")⟩, ⟨PyData.keyHash P (zS "__spec__"), (.str (zS "__spec__") 5), (.builtin "builtins.__spec__#opaque")⟩, ⟨PyData.keyHash P (zS "__build_class__"), (.str (zS "__build_class__") 6), (.builtin "__build_class__")⟩, ⟨PyData.keyHash P (zS "__import__"), (.str (zS "__import__") 7), (.builtin "__import__")⟩, ⟨PyData.keyHash P (zS "abs"), (.str (zS "abs") 8), (.builtin "abs")⟩, ⟨PyData.keyHash P (zS "all"), (.str (zS "all") 9), (.builtin "all")⟩, ⟨PyData.keyHash P (zS "any"), (.str (zS "any") 10), (.builtin "any")⟩, ⟨PyData.keyHash P (zS "ascii"), (.str (zS "ascii") 11), (.builtin "ascii")⟩, ⟨PyData.keyHash P (zS "bin"), (.str (zS "bin") 12), (.builtin "bin")⟩, ⟨PyData.keyHash P (zS "breakpoint"), (.str (zS "breakpoint") 13), (.builtin "breakpoint")⟩, ⟨PyData.keyHash P (zS "callable"), (.str (zS "callable") 14), (.builtin "callable")⟩, ⟨PyData.keyHash P (zS "chr"), (.str (zS "chr") 15), (.builtin "chr")⟩, ⟨PyData.keyHash P (zS "compile"), (.str (zS "compile") 16), (.builtin "compile")⟩, ⟨PyData.keyHash P (zS "delattr"), (.str (zS "delattr") 17), (.builtin "delattr")⟩, ⟨PyData.keyHash P (zS "dir"), (.str (zS "dir") 18), (.builtin "dir")⟩, ⟨PyData.keyHash P (zS "divmod"), (.str (zS "divmod") 19), (.builtin "divmod")⟩, ⟨PyData.keyHash P (zS "eval"), (.str (zS "eval") 20), (.builtin "eval")⟩, ⟨PyData.keyHash P (zS "exec"), (.str (zS "exec") 21), (.builtin "exec")⟩, ⟨PyData.keyHash P (zS "format"), (.str (zS "format") 22), (.builtin "format")⟩, ⟨PyData.keyHash P (zS "getattr"), (.str (zS "getattr") 23), (.builtin "getattr")⟩, ⟨PyData.keyHash P (zS "globals"), (.str (zS "globals") 24), (.builtin "globals")⟩, ⟨PyData.keyHash P (zS "hasattr"), (.str (zS "hasattr") 25), (.builtin "hasattr")⟩, ⟨PyData.keyHash P (zS "hash"), (.str (zS "hash") 26), (.builtin "hash")⟩, ⟨PyData.keyHash P (zS "hex"), (.str (zS "hex") 27), (.builtin "hex")⟩, ⟨PyData.keyHash P (zS "id"), (.str (zS "id") 28), (.builtin "id")⟩, ⟨PyData.keyHash P (zS "input"), (.str (zS "input") 29), (.builtin "input")⟩, ⟨PyData.keyHash P (zS "isinstance"), (.str (zS "isinstance") 30), (.builtin "isinstance")⟩, ⟨PyData.keyHash P (zS "issubclass"), (.str (zS "issubclass") 31), (.builtin "issubclass")⟩, ⟨PyData.keyHash P (zS "iter"), (.str (zS "iter") 32), (.builtin "iter")⟩, ⟨PyData.keyHash P (zS "aiter"), (.str (zS "aiter") 33), (.builtin "aiter")⟩, ⟨PyData.keyHash P (zS "len"), (.str (zS "len") 34), (.builtin "len")⟩, ⟨PyData.keyHash P (zS "locals"), (.str (zS "locals") 35), (.builtin "locals")⟩, ⟨PyData.keyHash P (zS "max"), (.str (zS "max") 36), (.builtin "max")⟩, ⟨PyData.keyHash P (zS "min"), (.str (zS "min") 37), (.builtin "min")⟩, ⟨PyData.keyHash P (zS "next"), (.str (zS "next") 38), (.builtin "next")⟩, ⟨PyData.keyHash P (zS "anext"), (.str (zS "anext") 39), (.builtin "anext")⟩, ⟨PyData.keyHash P (zS "oct"), (.str (zS "oct") 40), (.builtin "oct")⟩, ⟨PyData.keyHash P (zS "ord"), (.str (zS "ord") 41), (.builtin "ord")⟩, ⟨PyData.keyHash P (zS "pow"), (.str (zS "pow") 42), (.builtin "pow")⟩, ⟨PyData.keyHash P (zS "print"), (.str (zS "print") 43), (.builtin "print")⟩, ⟨PyData.keyHash P (zS "repr"), (.str (zS "repr") 44), (.builtin "repr")⟩, ⟨PyData.keyHash P (zS "round"), (.str (zS "round") 45), (.builtin "round")⟩, ⟨PyData.keyHash P (zS "setattr"), (.str (zS "setattr") 46), (.builtin "setattr")⟩, ⟨PyData.keyHash P (zS "sorted"), (.str (zS "sorted") 47), (.builtin "sorted")⟩, ⟨PyData.keyHash P (zS "sum"), (.str (zS "sum") 48), (.builtin "sum")⟩, ⟨PyData.keyHash P (zS "vars"), (.str (zS "vars") 49), (.builtin "vars")⟩, ⟨PyData.keyHash P (zS "None"), (.str (zS "None") 50), .none⟩, ⟨PyData.keyHash P (zS "Ellipsis"), (.str (zS "Ellipsis") 51), .ellipsis⟩, ⟨PyData.keyHash P (zS "NotImplemented"), (.str (zS "NotImplemented") 52), .notImplemented⟩, ⟨PyData.keyHash P (zS "False"), (.str (zS "False") 53), (.bool false)⟩, ⟨PyData.keyHash P (zS "True"), (.str (zS "True") 54), (.bool true)⟩, ⟨PyData.keyHash P (zS "bool"), (.str (zS "bool") 55), (.type "bool")⟩, ⟨PyData.keyHash P (zS "memoryview"), (.str (zS "memoryview") 56), (.type "memoryview")⟩, ⟨PyData.keyHash P (zS "bytearray"), (.str (zS "bytearray") 57), (.type "bytearray")⟩, ⟨PyData.keyHash P (zS "bytes"), (.str (zS "bytes") 58), (.type "bytes")⟩, ⟨PyData.keyHash P (zS "classmethod"), (.str (zS "classmethod") 59), (.type "classmethod")⟩, ⟨PyData.keyHash P (zS "complex"), (.str (zS "complex") 60), (.type "complex")⟩, ⟨PyData.keyHash P (zS "dict"), (.str (zS "dict") 61), (.type "dict")⟩, ⟨PyData.keyHash P (zS "enumerate"), (.str (zS "enumerate") 62), (.type "enumerate")⟩, ⟨PyData.keyHash P (zS "filter"), (.str (zS "filter") 63), (.type "filter")⟩, ⟨PyData.keyHash P (zS "float"), (.str (zS "float") 64), (.type "float")⟩, ⟨PyData.keyHash P (zS "frozenset"), (.str (zS "frozenset") 65), (.type "frozenset")⟩, ⟨PyData.keyHash P (zS "property"), (.str (zS "property") 66), (.type "property")⟩, ⟨PyData.keyHash P (zS "int"), (.str (zS "int") 67), (.type "int")⟩, ⟨PyData.keyHash P (zS "list"), (.str (zS "list") 68), (.type "list")⟩, ⟨PyData.keyHash P (zS "map"), (.str (zS "map") 69), (.type "map")⟩, ⟨PyData.keyHash P (zS "object"), (.str (zS "object") 70), (.type "object")⟩, ⟨PyData.keyHash P (zS "range"), (.str (zS "range") 71), (.type "range")⟩, ⟨PyData.keyHash P (zS "reversed"), (.str (zS "reversed") 72), (.type "reversed")⟩, ⟨PyData.keyHash P (zS "set"), (.str (zS "set") 73), (.type "set")⟩, ⟨PyData.keyHash P (zS "slice"), (.str (zS "slice") 74), (.type "slice")⟩, ⟨PyData.keyHash P (zS "staticmethod"), (.str (zS "staticmethod") 75), (.type "staticmethod")⟩, ⟨PyData.keyHash P (zS "str"), (.str (zS "str") 76), (.type "str")⟩, ⟨PyData.keyHash P (zS "super"), (.str (zS "super") 77), (.type "super")⟩, ⟨PyData.keyHash P (zS "tuple"), (.str (zS "tuple") 78), (.type "tuple")⟩, ⟨PyData.keyHash P (zS "type"), (.str (zS "type") 79), (.type "type")⟩, ⟨PyData.keyHash P (zS "zip"), (.str (zS "zip") 80), (.type "zip")⟩, ⟨PyData.keyHash P (zS "__debug__"), (.str (zS "__debug__") 81), (.bool true)⟩, ⟨PyData.keyHash P (zS "BaseException"), (.str (zS "BaseException") 82), (.type "BaseException")⟩, ⟨PyData.keyHash P (zS "BaseExceptionGroup"), (.str (zS "BaseExceptionGroup") 83), (.type "BaseExceptionGroup")⟩, ⟨PyData.keyHash P (zS "Exception"), (.str (zS "Exception") 84), (.type "Exception")⟩, ⟨PyData.keyHash P (zS "GeneratorExit"), (.str (zS "GeneratorExit") 85), (.type "GeneratorExit")⟩, ⟨PyData.keyHash P (zS "KeyboardInterrupt"), (.str (zS "KeyboardInterrupt") 86), (.type "KeyboardInterrupt")⟩, ⟨PyData.keyHash P (zS "SystemExit"), (.str (zS "SystemExit") 87), (.type "SystemExit")⟩, ⟨PyData.keyHash P (zS "ArithmeticError"), (.str (zS "ArithmeticError") 88), (.type "ArithmeticError")⟩, ⟨PyData.keyHash P (zS "AssertionError"), (.str (zS "AssertionError") 89), (.type "AssertionError")⟩, ⟨PyData.keyHash P (zS "AttributeError"), (.str (zS "AttributeError") 90), (.type "AttributeError")⟩, ⟨PyData.keyHash P (zS "BufferError"), (.str (zS "BufferError") 91), (.type "BufferError")⟩, ⟨PyData.keyHash P (zS "EOFError"), (.str (zS "EOFError") 92), (.type "EOFError")⟩, ⟨PyData.keyHash P (zS "ImportError"), (.str (zS "ImportError") 93), (.type "ImportError")⟩, ⟨PyData.keyHash P (zS "LookupError"), (.str (zS "LookupError") 94), (.type "LookupError")⟩, ⟨PyData.keyHash P (zS "MemoryError"), (.str (zS "MemoryError") 95), (.type "MemoryError")⟩, ⟨PyData.keyHash P (zS "NameError"), (.str (zS "NameError") 96), (.type "NameError")⟩, ⟨PyData.keyHash P (zS "OSError"), (.str (zS "OSError") 97), (.type "OSError")⟩, ⟨PyData.keyHash P (zS "ReferenceError"), (.str (zS "ReferenceError") 98), (.type "ReferenceError")⟩, ⟨PyData.keyHash P (zS "RuntimeError"), (.str (zS "RuntimeError") 99), (.type "RuntimeError")⟩, ⟨PyData.keyHash P (zS "StopAsyncIteration"), (.str (zS "StopAsyncIteration") 100), (.type "StopAsyncIteration")⟩, ⟨PyData.keyHash P (zS "StopIteration"), (.str (zS "StopIteration") 101), (.type "StopIteration")⟩, ⟨PyData.keyHash P (zS "SyntaxError"), (.str (zS "SyntaxError") 102), (.type "SyntaxError")⟩, ⟨PyData.keyHash P (zS "SystemError"), (.str (zS "SystemError") 103), (.type "SystemError")⟩, ⟨PyData.keyHash P (zS "TypeError"), (.str (zS "TypeError") 104), (.type "TypeError")⟩, ⟨PyData.keyHash P (zS "ValueError"), (.str (zS "ValueError") 105), (.type "ValueError")⟩, ⟨PyData.keyHash P (zS "Warning"), (.str (zS "Warning") 106), (.type "Warning")⟩, ⟨PyData.keyHash P (zS "FloatingPointError"), (.str (zS "FloatingPointError") 107), (.type "FloatingPointError")⟩, ⟨PyData.keyHash P (zS "OverflowError"), (.str (zS "OverflowError") 108), (.type "OverflowError")⟩, ⟨PyData.keyHash P (zS "ZeroDivisionError"), (.str (zS "ZeroDivisionError") 109), (.type "ZeroDivisionError")⟩, ⟨PyData.keyHash P (zS "BytesWarning"), (.str (zS "BytesWarning") 110), (.type "BytesWarning")⟩, ⟨PyData.keyHash P (zS "DeprecationWarning"), (.str (zS "DeprecationWarning") 111), (.type "DeprecationWarning")⟩, ⟨PyData.keyHash P (zS "EncodingWarning"), (.str (zS "EncodingWarning") 112), (.type "EncodingWarning")⟩, ⟨PyData.keyHash P (zS "FutureWarning"), (.str (zS "FutureWarning") 113), (.type "FutureWarning")⟩, ⟨PyData.keyHash P (zS "ImportWarning"), (.str (zS "ImportWarning") 114), (.type "ImportWarning")⟩, ⟨PyData.keyHash P (zS "PendingDeprecationWarning"), (.str (zS "PendingDeprecationWarning") 115), (.type "PendingDeprecationWarning")⟩, ⟨PyData.keyHash P (zS "ResourceWarning"), (.str (zS "ResourceWarning") 116), (.type "ResourceWarning")⟩, ⟨PyData.keyHash P (zS "RuntimeWarning"), (.str (zS "RuntimeWarning") 117), (.type "RuntimeWarning")⟩, ⟨PyData.keyHash P (zS "SyntaxWarning"), (.str (zS "SyntaxWarning") 118), (.type "SyntaxWarning")⟩, ⟨PyData.keyHash P (zS "UnicodeWarning"), (.str (zS "UnicodeWarning") 119), (.type "UnicodeWarning")⟩, ⟨PyData.keyHash P (zS "UserWarning"), (.str (zS "UserWarning") 120), (.type "UserWarning")⟩, ⟨PyData.keyHash P (zS "BlockingIOError"), (.str (zS "BlockingIOError") 121), (.type "BlockingIOError")⟩, ⟨PyData.keyHash P (zS "ChildProcessError"), (.str (zS "ChildProcessError") 122), (.type "ChildProcessError")⟩, ⟨PyData.keyHash P (zS "ConnectionError"), (.str (zS "ConnectionError") 123), (.type "ConnectionError")⟩, ⟨PyData.keyHash P (zS "FileExistsError"), (.str (zS "FileExistsError") 124), (.type "FileExistsError")⟩, ⟨PyData.keyHash P (zS "FileNotFoundError"), (.str (zS "FileNotFoundError") 125), (.type "FileNotFoundError")⟩, ⟨PyData.keyHash P (zS "InterruptedError"), (.str (zS "InterruptedError") 126), (.type "InterruptedError")⟩, ⟨PyData.keyHash P (zS "IsADirectoryError"), (.str (zS "IsADirectoryError") 127), (.type "IsADirectoryError")⟩, ⟨PyData.keyHash P (zS "NotADirectoryError"), (.str (zS "NotADirectoryError") 128), (.type "NotADirectoryError")⟩, ⟨PyData.keyHash P (zS "PermissionError"), (.str (zS "PermissionError") 129), (.type "PermissionError")⟩, ⟨PyData.keyHash P (zS "ProcessLookupError"), (.str (zS "ProcessLookupError") 130), (.type "ProcessLookupError")⟩, ⟨PyData.keyHash P (zS "TimeoutError"), (.str (zS "TimeoutError") 131), (.type "TimeoutError")⟩, ⟨PyData.keyHash P (zS "IndentationError"), (.str (zS "IndentationError") 132), (.type "IndentationError")⟩, ⟨PyData.keyHash P (zS "_IncompleteInputError"), (.str (zS "_IncompleteInputError") 133), (.type "_IncompleteInputError")⟩, ⟨PyData.keyHash P (zS "IndexError"), (.str (zS "IndexError") 134), (.type "IndexError")⟩, ⟨PyData.keyHash P (zS "KeyError"), (.str (zS "KeyError") 135), (.type "KeyError")⟩, ⟨PyData.keyHash P (zS "ModuleNotFoundError"), (.str (zS "ModuleNotFoundError") 136), (.type "ModuleNotFoundError")⟩, ⟨PyData.keyHash P (zS "NotImplementedError"), (.str (zS "NotImplementedError") 137), (.type "NotImplementedError")⟩, ⟨PyData.keyHash P (zS "PythonFinalizationError"), (.str (zS "PythonFinalizationError") 138), (.type "PythonFinalizationError")⟩, ⟨PyData.keyHash P (zS "RecursionError"), (.str (zS "RecursionError") 139), (.type "RecursionError")⟩, ⟨PyData.keyHash P (zS "UnboundLocalError"), (.str (zS "UnboundLocalError") 140), (.type "UnboundLocalError")⟩, ⟨PyData.keyHash P (zS "UnicodeError"), (.str (zS "UnicodeError") 141), (.type "UnicodeError")⟩, ⟨PyData.keyHash P (zS "BrokenPipeError"), (.str (zS "BrokenPipeError") 142), (.type "BrokenPipeError")⟩, ⟨PyData.keyHash P (zS "ConnectionAbortedError"), (.str (zS "ConnectionAbortedError") 143), (.type "ConnectionAbortedError")⟩, ⟨PyData.keyHash P (zS "ConnectionRefusedError"), (.str (zS "ConnectionRefusedError") 144), (.type "ConnectionRefusedError")⟩, ⟨PyData.keyHash P (zS "ConnectionResetError"), (.str (zS "ConnectionResetError") 145), (.type "ConnectionResetError")⟩, ⟨PyData.keyHash P (zS "TabError"), (.str (zS "TabError") 146), (.type "TabError")⟩, ⟨PyData.keyHash P (zS "UnicodeDecodeError"), (.str (zS "UnicodeDecodeError") 147), (.type "UnicodeDecodeError")⟩, ⟨PyData.keyHash P (zS "UnicodeEncodeError"), (.str (zS "UnicodeEncodeError") 148), (.type "UnicodeEncodeError")⟩, ⟨PyData.keyHash P (zS "UnicodeTranslateError"), (.str (zS "UnicodeTranslateError") 149), (.type "UnicodeTranslateError")⟩, ⟨PyData.keyHash P (zS "ExceptionGroup"), (.str (zS "ExceptionGroup") 150), (.type "ExceptionGroup")⟩, ⟨PyData.keyHash P (zS "EnvironmentError"), (.str (zS "EnvironmentError") 151), (.type "OSError")⟩, ⟨PyData.keyHash P (zS "IOError"), (.str (zS "IOError") 152), (.type "OSError")⟩, ⟨PyData.keyHash P (zS "open"), (.str (zS "open") 153), (.builtin "open")⟩, ⟨PyData.keyHash P (zS "quit"), (.str (zS "quit") 154), (.builtin "builtins.quit#opaque")⟩, ⟨PyData.keyHash P (zS "exit"), (.str (zS "exit") 155), (.builtin "builtins.exit#opaque")⟩, ⟨PyData.keyHash P (zS "copyright"), (.str (zS "copyright") 156), (.builtin "builtins.copyright#opaque")⟩, ⟨PyData.keyHash P (zS "credits"), (.str (zS "credits") 157), (.builtin "builtins.credits#opaque")⟩, ⟨PyData.keyHash P (zS "license"), (.str (zS "license") 158), (.builtin "builtins.license#opaque")⟩, ⟨PyData.keyHash P (zS "help"), (.str (zS "help") 159), (.builtin "builtins.help#opaque")⟩].toArray 159), #[]⟩
def o1_0 (P : Params) : Obj := ⟨(.type "dict"), none, (.dict [⟨PyData.keyHash P (zS "builtins"), (.str (zS "builtins") 162), (.ref 4)⟩, ⟨PyData.keyHash P (zS "__main__"), (.str (zS "__main__") 163), (.ref 5)⟩].toArray 2), #[]⟩
def o2_0 (P : Params) : Obj := ⟨.none, none, (.dict [].toArray 0), #[]⟩
def o3_0 (P : Params) : Obj := ⟨(.type "dict"), none, (.dict [⟨PyData.keyHash P (zS "__name__"), (.str (zS "__name__") 165), (.str (zS "__main__") 164)⟩, ⟨PyData.keyHash P (zS "__doc__"), (.str (zS "__doc__") 166), .none⟩, ⟨PyData.keyHash P (zS "__package__"), (.str (zS "__package__") 167), .none⟩, ⟨PyData.keyHash P (zS "__loader__"), (.str (zS "__loader__") 168), (.builtin "__main__.__loader__#opaque")⟩, ⟨PyData.keyHash P (zS "__spec__"), (.str (zS "__spec__") 169), .none⟩, ⟨PyData.keyHash P (zS "__annotations__"), (.str (zS "__annotations__") 170), (.ref 6)⟩, ⟨PyData.keyHash P (zS "__builtins__"), (.str (zS "__builtins__") 171), (.ref 4)⟩, ⟨PyData.keyHash P (zS "__file__"), (.str (zS "__file__") 173), (.str (zS "/claim/cut.py") 172)⟩, ⟨PyData.keyHash P (zS "__cached__"), (.str (zS "__cached__") 174), .none⟩].toArray 9), #[]⟩
def o4_0 (P : Params) : Obj := ⟨(.type "module"), (some 0), .plain, #[]⟩
def o5_0 (P : Params) : Obj := ⟨(.type "module"), (some 3), .plain, #[]⟩
def o6_0 (P : Params) : Obj := ⟨(.type "dict"), none, (.dict [].toArray 0), #[]⟩
def o7_0 (P : Params) : Obj := ⟨(.type "tuple"), none, (.seq #[] 0), #[]⟩
def o8_0 (P : Params) : Obj := ⟨.none, none, (.fields #[]), #[]⟩
def o9_0 (P : Params) : Obj := ⟨(.type "code"), none, (.fields #[(.str (zS "<module>") 176), (.str (zS "<module>") 177), (.str (zS "/claim/cut.py") 178), (.int 1 0), (.int 0 0), (.int 0 0), (.int 0 0), (.int 0 0), (.ref 7), (.bool false), (.int 175 0), (.ref 8), .none, .none, .none, .none, (.int 179 0), (.int 1 0), (.str (zS "/claim/cut.py") 180)]), #[]⟩
def o10_0 (P : Params) : Obj := ⟨(.type "frame"), none, .plain, #[(some (.ref 9)), (some (.ref 3)), (some (.ref 3)), none, (some (.str (zS "__main__") 164)), none, (some (.ref 0))]⟩
def o11_0 (P : Params) : Obj := ⟨(.type "tuple"), none, (.seq #[] 0), #[]⟩
def o12_0 (P : Params) : Obj := ⟨.none, none, (.fields #[]), #[]⟩
def o13_0 (P : Params) : Obj := ⟨(.type "code"), none, (.fields #[(.str (zS "<module>") 182), (.str (zS "<module>") 183), (.str (zS "/claim/cut.py") 184), (.int 1 0), (.int 0 0), (.int 0 0), (.int 0 0), (.int 0 0), (.ref 11), (.bool false), (.int 181 0), (.ref 12), .none, .none, .none, .none, (.int 185 0), (.int 1 0), (.str (zS "/claim/cut.py") 186)]), #[]⟩
def o14_0 (P : Params) : Obj := ⟨(.type "frame"), none, .plain, #[(some (.ref 13)), (some (.ref 3)), (some (.ref 3)), none, (some (.str (zS "__main__") 164)), none, (some (.ref 0))]⟩
def tr0 (P : Params) : PySem.W.BT := (.node (o0_0 P) (.node (o1_0 P) (.node (o3_0 P) (.node (o7_0 P) .nil .nil) (.node (o11_0 P) .nil .nil)) (.node (o5_0 P) (.node (o9_0 P) .nil .nil) (.node (o13_0 P) .nil .nil))) (.node (o2_0 P) (.node (o4_0 P) (.node (o8_0 P) .nil .nil) (.node (o12_0 P) .nil .nil)) (.node (o6_0 P) (.node (o10_0 P) .nil .nil) (.node (o14_0 P) .nil .nil))))
def st0 (w : World) (os : OsState) : PySem.W.SharedT := ⟨tr0 w.params, 15, ⟨[], [], [], 0, [], [], false, #[], [], 0, false, false, false, 0, [2000, 10, 10], false, 0, true, [], [], 0, false⟩, #[], ⟨0, 0, 0, 0⟩, 187, os⟩
def o3_1 (P : Params) : Obj := ⟨(.type "dict"), none, (.dict [⟨PyData.keyHash P (zS "__name__"), (.str (zS "__name__") 165), (.str (zS "law_tidecopy_k29_events_judged") 350)⟩, ⟨PyData.keyHash P (zS "__doc__"), (.str (zS "__doc__") 166), .none⟩, ⟨PyData.keyHash P (zS "__package__"), (.str (zS "__package__") 167), .none⟩, ⟨PyData.keyHash P (zS "__loader__"), (.str (zS "__loader__") 168), (.builtin "__main__.__loader__#opaque")⟩, ⟨PyData.keyHash P (zS "__spec__"), (.str (zS "__spec__") 169), .none⟩, ⟨PyData.keyHash P (zS "__annotations__"), (.str (zS "__annotations__") 170), (.ref 6)⟩, ⟨PyData.keyHash P (zS "__builtins__"), (.str (zS "__builtins__") 171), (.ref 4)⟩, ⟨PyData.keyHash P (zS "__file__"), (.str (zS "__file__") 173), (.str (zS "/claim/cut.py") 172)⟩, ⟨PyData.keyHash P (zS "__cached__"), (.str (zS "__cached__") 174), .none⟩, ⟨PyData.keyHash P (zS "TideError"), (.str (zS "TideError") 206), (.ref 24)⟩, ⟨PyData.keyHash P (zS "AskedError"), (.str (zS "AskedError") 222), (.ref 37)⟩, ⟨PyData.keyHash P (zS "NoPlace"), (.str (zS "NoPlace") 247), (.ref 56)⟩, ⟨PyData.keyHash P (zS "changes_of"), (.str (zS "changes_of") 256), (.ref 65)⟩, ⟨PyData.keyHash P (zS "put_change"), (.str (zS "put_change") 264), (.ref 72)⟩, ⟨PyData.keyHash P (zS "pairs_of"), (.str (zS "pairs_of") 270), (.ref 77)⟩, ⟨PyData.keyHash P (zS "need_place"), (.str (zS "need_place") 279), (.ref 84)⟩, ⟨PyData.keyHash P (zS "all_tables"), (.str (zS "all_tables") 291), (.ref 91)⟩, ⟨PyData.keyHash P (zS "changed"), (.str (zS "changed") 297), (.ref 96)⟩, ⟨PyData.keyHash P (zS "due_changes"), (.str (zS "due_changes") 313), (.ref 103)⟩, ⟨PyData.keyHash P (zS "is_copy"), (.str (zS "is_copy") 327), (.ref 110)⟩, ⟨PyData.keyHash P (zS "first_wrong"), (.str (zS "first_wrong") 349), (.ref 118)⟩, ⟨PyData.keyHash P (zS "_law_bag"), (.str (zS "_law_bag") 360), (.ref 125)⟩, ⟨PyData.keyHash P (zS "_law_take"), (.str (zS "_law_take") 369), (.ref 132)⟩, ⟨PyData.keyHash P (zS "_law_of"), (.str (zS "_law_of") 377), (.ref 139)⟩, ⟨PyData.keyHash P (zS "_law_keys"), (.str (zS "_law_keys") 383), (.ref 144)⟩, ⟨PyData.keyHash P (zS "_law_table"), (.str (zS "_law_table") 389), (.ref 149)⟩, ⟨PyData.keyHash P (zS "_law_changes"), (.str (zS "_law_changes") 401), (.ref 156)⟩, ⟨PyData.keyHash P (zS "_law_entry"), (.str (zS "_law_entry") 409), (.ref 163)⟩, ⟨PyData.keyHash P (zS "_law_log"), (.str (zS "_law_log") 415), (.ref 168)⟩, ⟨PyData.keyHash P (zS "_law_done"), (.str (zS "_law_done") 424), (.ref 175)⟩, ⟨PyData.keyHash P (zS "_law_pairs"), (.str (zS "_law_pairs") 430), (.ref 180)⟩, ⟨PyData.keyHash P (zS "_law_groups"), (.str (zS "_law_groups") 436), (.ref 185)⟩, ⟨PyData.keyHash P (zS "_law_at"), (.str (zS "_law_at") 447), (.ref 192)⟩, ⟨PyData.keyHash P (zS "_law_moved"), (.str (zS "_law_moved") 459), (.ref 199)⟩, ⟨PyData.keyHash P (zS "_law_wrong_at"), (.str (zS "_law_wrong_at") 465), (.ref 204)⟩, ⟨PyData.keyHash P (zS "_law_true_events"), (.str (zS "_law_true_events") 481), (.ref 211)⟩, ⟨PyData.keyHash P (zS "_law_other_events"), (.str (zS "_law_other_events") 496), (.ref 218)⟩, ⟨PyData.keyHash P (zS "law"), (.str (zS "law") 514), (.ref 225)⟩].toArray 38), #[]⟩
def o12_1 (P : Params) : Obj := ⟨.none, none, (.fields #[(.int 2 0), (.int 0 0), (.ref 20), (.int 4 0), (.int 0 0), (.ref 33), (.int 6 0), (.int 0 0), (.ref 45), (.int 12 0), (.int 0 0), (.ref 64), (.int 14 0), (.int 0 0), (.ref 71), (.int 19 0), (.int 0 0), (.ref 76), (.int 21 0), (.int 0 0), (.ref 83), (.int 24 0), (.int 0 0), (.ref 90), (.int 32 0), (.int 0 0), (.ref 95), (.int 37 0), (.int 0 0), (.ref 102), (.int 44 0), (.int 0 0), (.ref 109), (.int 49 0), (.int 0 0), (.ref 117), (.int 67 0), (.int 0 0), (.ref 124), (.int 74 0), (.int 0 0), (.ref 131), (.int 81 0), (.int 0 0), (.ref 138), (.int 83 0), (.int 0 0), (.ref 143), (.int 87 0), (.int 0 0), (.ref 148), (.int 89 0), (.int 0 0), (.ref 155), (.int 98 0), (.int 0 0), (.ref 162), (.int 102 0), (.int 0 0), (.ref 167), (.int 104 0), (.int 0 0), (.ref 174), (.int 110 0), (.int 0 0), (.ref 179), (.int 112 0), (.int 0 0), (.ref 184), (.int 114 0), (.int 0 0), (.ref 191), (.int 119 0), (.int 0 0), (.ref 198), (.int 125 0), (.int 0 0), (.ref 203), (.int 146 0), (.int 0 0), (.ref 210), (.int 159 0), (.int 0 0), (.ref 217), (.int 180 0), (.int 0 0), (.ref 224)]), #[]⟩
def o15_1 (P : Params) : Obj := ⟨(.type "tuple"), none, (.seq #[(.type "ValueError")] 0), #[]⟩
def o16_1 (P : Params) : Obj := ⟨(.type "builtin_function_or_method"), none, (.fields #[(.builtin "type.__prepare__"), (.type "type")]), #[]⟩
def o17_1 (P : Params) : Obj := ⟨(.type "dict"), none, (.dict [⟨PyData.keyHash P (zS "__module__"), (.str (zS "__module__") 196), (.str (zS "tidecopy.errors") 187)⟩, ⟨PyData.keyHash P (zS "__qualname__"), (.str (zS "__qualname__") 198), (.str (zS "TideError") 197)⟩, ⟨PyData.keyHash P (zS "__firstlineno__"), (.str (zS "__firstlineno__") 200), (.int 2 199)⟩, ⟨PyData.keyHash P (zS "__static_attributes__"), (.str (zS "__static_attributes__") 201), (.ref 22)⟩].toArray 4), #[]⟩
def o18_1 (P : Params) : Obj := ⟨(.type "tuple"), none, (.seq #[] 0), #[]⟩
def o19_1 (P : Params) : Obj := ⟨.none, none, (.fields #[]), #[]⟩
def o20_1 (P : Params) : Obj := ⟨(.type "code"), none, (.fields #[(.str (zS "TideError") 191), (.str (zS "TideError") 192), (.str (zS "/claim/cut.py") 193), (.int 2 0), (.int 0 0), (.int 0 0), (.int 0 0), (.int 0 0), (.ref 18), (.bool false), (.int 181 0), (.ref 19), .none, .none, .none, .none, (.int 194 0), (.int 2 0), (.str (zS "/claim/cut.py") 195)]), #[]⟩
def o21_1 (P : Params) : Obj := ⟨(.type "frame"), none, .plain, #[(some (.ref 20)), (some (.ref 3)), (some (.ref 17)), none, (some (.str (zS "tidecopy.errors") 187)), none, (some (.ref 0))]⟩
def o22_1 (P : Params) : Obj := ⟨(.type "tuple"), none, (.seq #[] 0), #[]⟩
def o23_1 (P : Params) : Obj := ⟨(.type "dict"), none, (.dict [⟨PyData.keyHash P (zS "__module__"), (.str (zS "__module__") 196), (.str (zS "tidecopy.errors") 187)⟩, ⟨PyData.keyHash P (zS "__firstlineno__"), (.str (zS "__firstlineno__") 200), (.int 2 199)⟩, ⟨PyData.keyHash P (zS "__static_attributes__"), (.str (zS "__static_attributes__") 201), (.ref 22)⟩, ⟨PyData.keyHash P (zS "__weakref__"), (.str (zS "__weakref__") 203), (.ref 25)⟩, ⟨PyData.keyHash P (zS "__doc__"), (.str (zS "__doc__") 204), .none⟩].toArray 3), #[]⟩
def o24_1 (P : Params) : Obj := ⟨(.type "type"), none, (.cls ⟨(zS "TideError"), [(.type "ValueError")], [(.ref 24), (.type "ValueError"), (.type "Exception"), (.type "BaseException"), (.type "object")], 23, (zS "TideError"), true, [], [(.ref 37)], false, none, false⟩), #[(some (.ref 15)), none, (some (.str (zS "TideError") 189)), (some (.str (zS "TideError") 197)), (some (.builtin "ValueError.__new__")), (some (.bool true))]⟩
def o25_1 (P : Params) : Obj := ⟨(.type "getset_descriptor"), none, (.fields #[(.str (zS "__weakref__") 202), (.ref 24), (.builtin "ExceptionGroup.__weakref__"), .none]), #[]⟩
def o26_1 (P : Params) : Obj := ⟨(.type "super"), none, (.fields #[(.ref 24), (.ref 24), (.ref 24)]), #[]⟩
def o27_1 (P : Params) : Obj := ⟨(.type "builtin_function_or_method"), none, (.fields #[(.builtin "object.__init_subclass__"), (.ref 24)]), #[]⟩
def o28_1 (P : Params) : Obj := ⟨(.type "tuple"), none, (.seq #[(.ref 24)] 0), #[]⟩
def o29_1 (P : Params) : Obj := ⟨(.type "builtin_function_or_method"), none, (.fields #[(.builtin "type.__prepare__"), (.type "type")]), #[]⟩
def o30_1 (P : Params) : Obj := ⟨(.type "dict"), none, (.dict [⟨PyData.keyHash P (zS "__module__"), (.str (zS "__module__") 214), (.str (zS "tidecopy.errors") 187)⟩, ⟨PyData.keyHash P (zS "__qualname__"), (.str (zS "__qualname__") 216), (.str (zS "AskedError") 215)⟩, ⟨PyData.keyHash P (zS "__firstlineno__"), (.str (zS "__firstlineno__") 218), (.int 4 217)⟩, ⟨PyData.keyHash P (zS "__static_attributes__"), (.str (zS "__static_attributes__") 219), (.ref 35)⟩].toArray 4), #[]⟩
def o31_1 (P : Params) : Obj := ⟨(.type "tuple"), none, (.seq #[] 0), #[]⟩
def o32_1 (P : Params) : Obj := ⟨.none, none, (.fields #[]), #[]⟩
def o33_1 (P : Params) : Obj := ⟨(.type "code"), none, (.fields #[(.str (zS "AskedError") 209), (.str (zS "AskedError") 210), (.str (zS "/claim/cut.py") 211), (.int 4 0), (.int 0 0), (.int 0 0), (.int 0 0), (.int 0 0), (.ref 31), (.bool false), (.int 181 0), (.ref 32), .none, .none, .none, .none, (.int 212 0), (.int 4 0), (.str (zS "/claim/cut.py") 213)]), #[]⟩
def o34_1 (P : Params) : Obj := ⟨(.type "frame"), none, .plain, #[(some (.ref 33)), (some (.ref 3)), (some (.ref 30)), none, (some (.str (zS "tidecopy.errors") 187)), none, (some (.ref 0))]⟩
def o35_1 (P : Params) : Obj := ⟨(.type "tuple"), none, (.seq #[] 0), #[]⟩
def o36_1 (P : Params) : Obj := ⟨(.type "dict"), none, (.dict [⟨PyData.keyHash P (zS "__module__"), (.str (zS "__module__") 214), (.str (zS "tidecopy.errors") 187)⟩, ⟨PyData.keyHash P (zS "__firstlineno__"), (.str (zS "__firstlineno__") 218), (.int 4 217)⟩, ⟨PyData.keyHash P (zS "__static_attributes__"), (.str (zS "__static_attributes__") 219), (.ref 35)⟩, ⟨PyData.keyHash P (zS "__doc__"), (.str (zS "__doc__") 220), .none⟩].toArray 2), #[]⟩
def o37_1 (P : Params) : Obj := ⟨(.type "type"), none, (.cls ⟨(zS "AskedError"), [(.ref 24)], [(.ref 37), (.ref 24), (.type "ValueError"), (.type "Exception"), (.type "BaseException"), (.type "object")], 36, (zS "AskedError"), true, [], [(.ref 56)], false, none, false⟩), #[(some (.ref 28)), none, (some (.str (zS "AskedError") 207)), (some (.str (zS "AskedError") 215)), (some (.builtin "ValueError.__new__")), (some (.bool true))]⟩
def o38_1 (P : Params) : Obj := ⟨(.type "super"), none, (.fields #[(.ref 37), (.ref 37), (.ref 37)]), #[]⟩
def o39_1 (P : Params) : Obj := ⟨(.type "builtin_function_or_method"), none, (.fields #[(.builtin "object.__init_subclass__"), (.ref 37)]), #[]⟩
def o40_1 (P : Params) : Obj := ⟨(.type "tuple"), none, (.seq #[(.ref 37)] 0), #[]⟩
def o41_1 (P : Params) : Obj := ⟨(.type "builtin_function_or_method"), none, (.fields #[(.builtin "type.__prepare__"), (.type "type")]), #[]⟩
def o42_1 (P : Params) : Obj := ⟨(.type "dict"), none, (.dict [⟨PyData.keyHash P (zS "__module__"), (.str (zS "__module__") 230), (.str (zS "tidecopy.errors") 187)⟩, ⟨PyData.keyHash P (zS "__qualname__"), (.str (zS "__qualname__") 232), (.str (zS "NoPlace") 231)⟩, ⟨PyData.keyHash P (zS "__firstlineno__"), (.str (zS "__firstlineno__") 234), (.int 6 233)⟩, ⟨PyData.keyHash P (zS "__init__"), (.str (zS "__init__") 242), (.ref 53)⟩, ⟨PyData.keyHash P (zS "__static_attributes__"), (.str (zS "__static_attributes__") 244), (.ref 54)⟩].toArray 5), #[]⟩
def o43_1 (P : Params) : Obj := ⟨(.type "tuple"), none, (.seq #[] 0), #[]⟩
def o44_1 (P : Params) : Obj := ⟨.none, none, (.fields #[(.int 8 0), (.int 4 0), (.ref 52)]), #[]⟩
def o45_1 (P : Params) : Obj := ⟨(.type "code"), none, (.fields #[(.str (zS "NoPlace") 225), (.str (zS "NoPlace") 226), (.str (zS "/claim/cut.py") 227), (.int 6 0), (.int 0 0), (.int 0 0), (.int 0 0), (.int 0 0), (.ref 43), (.bool false), (.int 181 0), (.ref 44), .none, .none, .none, .none, (.int 228 0), (.int 6 0), (.str (zS "/claim/cut.py") 229)]), #[]⟩
def o46_1 (P : Params) : Obj := ⟨(.type "frame"), none, .plain, #[(some (.ref 45)), (some (.ref 3)), (some (.ref 42)), none, (some (.str (zS "tidecopy.errors") 187)), none, (some (.ref 0))]⟩
def o47_1 (P : Params) : Obj := ⟨(.type "tuple"), none, (.seq #[] 0), #[]⟩
def o48_1 (P : Params) : Obj := ⟨.none, none, (.fields #[]), #[]⟩
def o49_1 (P : Params) : Obj := ⟨(.type "tuple"), none, (.seq #[(.str (zS "self") 238), (.str (zS "at") 239)] 0), #[]⟩
def o50_1 (P : Params) : Obj := ⟨(.type "tuple"), none, (.seq #[] 0), #[]⟩
def o51_1 (P : Params) : Obj := ⟨.none, none, (.func ⟨(zS "__init__"), (zS "NoPlace.__init__"), defArgs (inClass (topS 3) 0), .stmts (defBody (inClass (topS 3) 0)), defScope (inClass (topS 3) 0), 0, [], .none, .none, .none, .none, none, .none, .none, 0⟩), #[]⟩
def o52_1 (P : Params) : Obj := ⟨(.type "code"), none, (.fields #[(.str (zS "__init__") 235), (.str (zS "NoPlace.__init__") 236), (.str (zS "/claim/cut.py") 237), (.int 8 0), (.int 2 0), (.int 0 0), (.int 0 0), (.int 3 0), (.ref 47), (.bool true), (.int 181 0), (.ref 48), .none, (.ref 49), (.ref 50), (.ref 51), (.int 240 0), (.int 8 0), (.str (zS "/claim/cut.py") 241)]), #[]⟩
def o53_1 (P : Params) : Obj := ⟨(.type "function"), none, (.func ⟨(zS "__init__"), (zS "NoPlace.__init__"), defArgs (inClass (topS 3) 0), .stmts (defBody (inClass (topS 3) 0)), defScope (inClass (topS 3) 0), 3, [], .none, .none, .none, (.str (zS "tidecopy.errors") 187), none, (.ref 52), .none, 0⟩), #[]⟩
def o54_1 (P : Params) : Obj := ⟨(.type "tuple"), none, (.seq #[(.str (zS "at") 243)] 0), #[]⟩
def o55_1 (P : Params) : Obj := ⟨(.type "dict"), none, (.dict [⟨PyData.keyHash P (zS "__module__"), (.str (zS "__module__") 230), (.str (zS "tidecopy.errors") 187)⟩, ⟨PyData.keyHash P (zS "__firstlineno__"), (.str (zS "__firstlineno__") 234), (.int 6 233)⟩, ⟨PyData.keyHash P (zS "__init__"), (.str (zS "__init__") 242), (.ref 53)⟩, ⟨PyData.keyHash P (zS "__static_attributes__"), (.str (zS "__static_attributes__") 244), (.ref 54)⟩, ⟨PyData.keyHash P (zS "__doc__"), (.str (zS "__doc__") 245), .none⟩].toArray 2), #[]⟩
def o56_1 (P : Params) : Obj := ⟨(.type "type"), none, (.cls ⟨(zS "NoPlace"), [(.ref 37)], [(.ref 56), (.ref 37), (.ref 24), (.type "ValueError"), (.type "Exception"), (.type "BaseException"), (.type "object")], 55, (zS "NoPlace"), true, [], [], false, none, false⟩), #[(some (.ref 40)), none, (some (.str (zS "NoPlace") 223)), (some (.str (zS "NoPlace") 231)), (some (.builtin "ValueError.__new__")), (some (.bool true))]⟩
def o57_1 (P : Params) : Obj := ⟨(.type "super"), none, (.fields #[(.ref 56), (.ref 56), (.ref 56)]), #[]⟩
def o58_1 (P : Params) : Obj := ⟨(.type "builtin_function_or_method"), none, (.fields #[(.builtin "object.__init_subclass__"), (.ref 56)]), #[]⟩
def o59_1 (P : Params) : Obj := ⟨(.type "tuple"), none, (.seq #[] 0), #[]⟩
def o60_1 (P : Params) : Obj := ⟨.none, none, (.fields #[]), #[]⟩
def o61_1 (P : Params) : Obj := ⟨(.type "tuple"), none, (.seq #[(.str (zS "entry") 253)] 0), #[]⟩
def o62_1 (P : Params) : Obj := ⟨(.type "tuple"), none, (.seq #[] 0), #[]⟩
def o63_1 (P : Params) : Obj := ⟨.none, none, (.func ⟨(zS "changes_of"), (zS "changes_of"), defArgs (topS 5), .stmts (defBody (topS 5)), defScope (topS 5), 0, [], .none, .none, .none, .none, none, .none, .none, 0⟩), #[]⟩
def o64_1 (P : Params) : Obj := ⟨(.type "code"), none, (.fields #[(.str (zS "changes_of") 250), (.str (zS "changes_of") 251), (.str (zS "/claim/cut.py") 252), (.int 12 0), (.int 1 0), (.int 0 0), (.int 0 0), (.int 3 0), (.ref 59), (.bool true), (.int 181 0), (.ref 60), .none, (.ref 61), (.ref 62), (.ref 63), (.int 254 0), (.int 12 0), (.str (zS "/claim/cut.py") 255)]), #[]⟩
def o65_1 (P : Params) : Obj := ⟨(.type "function"), none, (.func ⟨(zS "changes_of"), (zS "changes_of"), defArgs (topS 5), .stmts (defBody (topS 5)), defScope (topS 5), 3, [], .none, .none, .none, (.str (zS "tidecopy.tables") 248), none, (.ref 64), .none, 0⟩), #[]⟩
def o66_1 (P : Params) : Obj := ⟨(.type "tuple"), none, (.seq #[] 0), #[]⟩
def o67_1 (P : Params) : Obj := ⟨.none, none, (.fields #[]), #[]⟩
def o68_1 (P : Params) : Obj := ⟨(.type "tuple"), none, (.seq #[(.str (zS "rows") 260), (.str (zS "change") 261)] 0), #[]⟩
def o69_1 (P : Params) : Obj := ⟨(.type "tuple"), none, (.seq #[] 0), #[]⟩
def o70_1 (P : Params) : Obj := ⟨.none, none, (.func ⟨(zS "put_change"), (zS "put_change"), defArgs (topS 6), .stmts (defBody (topS 6)), defScope (topS 6), 0, [], .none, .none, .none, .none, none, .none, .none, 0⟩), #[]⟩
def o71_1 (P : Params) : Obj := ⟨(.type "code"), none, (.fields #[(.str (zS "put_change") 257), (.str (zS "put_change") 258), (.str (zS "/claim/cut.py") 259), (.int 14 0), (.int 2 0), (.int 0 0), (.int 0 0), (.int 3 0), (.ref 66), (.bool true), (.int 181 0), (.ref 67), .none, (.ref 68), (.ref 69), (.ref 70), (.int 262 0), (.int 14 0), (.str (zS "/claim/cut.py") 263)]), #[]⟩
def o72_1 (P : Params) : Obj := ⟨(.type "function"), none, (.func ⟨(zS "put_change"), (zS "put_change"), defArgs (topS 6), .stmts (defBody (topS 6)), defScope (topS 6), 3, [], .none, .none, .none, (.str (zS "tidecopy.tables") 248), none, (.ref 71), .none, 0⟩), #[]⟩
def o73_1 (P : Params) : Obj := ⟨(.type "tuple"), none, (.seq #[] 0), #[]⟩
def o74_1 (P : Params) : Obj := ⟨.none, none, (.fields #[]), #[]⟩
def o75_1 (P : Params) : Obj := ⟨.none, none, (.func ⟨(zS "pairs_of"), (zS "pairs_of"), defArgs (topS 7), .stmts (defBody (topS 7)), defScope (topS 7), 0, [], .none, .none, .none, .none, none, .none, .none, 0⟩), #[]⟩
def o76_1 (P : Params) : Obj := ⟨(.type "code"), none, (.fields #[(.str (zS "pairs_of") 265), (.str (zS "pairs_of") 266), (.str (zS "/claim/cut.py") 267), (.int 19 0), (.int 1 0), (.int 0 0), (.int 0 0), (.int 3 0), (.ref 73), (.bool true), (.int 181 0), (.ref 74), .none, .none, .none, (.ref 75), (.int 268 0), (.int 19 0), (.str (zS "/claim/cut.py") 269)]), #[]⟩
def o77_1 (P : Params) : Obj := ⟨(.type "function"), none, (.func ⟨(zS "pairs_of"), (zS "pairs_of"), defArgs (topS 7), .stmts (defBody (topS 7)), defScope (topS 7), 3, [], .none, .none, .none, (.str (zS "tidecopy.tables") 248), none, (.ref 76), .none, 0⟩), #[]⟩
def o78_1 (P : Params) : Obj := ⟨(.type "tuple"), none, (.seq #[] 0), #[]⟩
def o79_1 (P : Params) : Obj := ⟨.none, none, (.fields #[]), #[]⟩
def o80_1 (P : Params) : Obj := ⟨(.type "tuple"), none, (.seq #[(.str (zS "place") 274), (.str (zS "least") 275), (.str (zS "most") 276)] 0), #[]⟩
def o81_1 (P : Params) : Obj := ⟨(.type "tuple"), none, (.seq #[] 0), #[]⟩
def o82_1 (P : Params) : Obj := ⟨.none, none, (.func ⟨(zS "need_place"), (zS "need_place"), defArgs (topS 8), .stmts (defBody (topS 8)), defScope (topS 8), 0, [], .none, .none, .none, .none, none, .none, .none, 0⟩), #[]⟩
def o83_1 (P : Params) : Obj := ⟨(.type "code"), none, (.fields #[(.str (zS "need_place") 271), (.str (zS "need_place") 272), (.str (zS "/claim/cut.py") 273), (.int 21 0), (.int 3 0), (.int 0 0), (.int 0 0), (.int 3 0), (.ref 78), (.bool true), (.int 181 0), (.ref 79), .none, (.ref 80), (.ref 81), (.ref 82), (.int 277 0), (.int 21 0), (.str (zS "/claim/cut.py") 278)]), #[]⟩
def o84_1 (P : Params) : Obj := ⟨(.type "function"), none, (.func ⟨(zS "need_place"), (zS "need_place"), defArgs (topS 8), .stmts (defBody (topS 8)), defScope (topS 8), 3, [], .none, .none, .none, (.str (zS "tidecopy.tables") 248), none, (.ref 83), .none, 0⟩), #[]⟩
def o85_1 (P : Params) : Obj := ⟨(.type "tuple"), none, (.seq #[] 0), #[]⟩
def o86_1 (P : Params) : Obj := ⟨.none, none, (.fields #[]), #[]⟩
def o87_1 (P : Params) : Obj := ⟨(.type "tuple"), none, (.seq #[(.str (zS "table") 283), (.str (zS "log") 284), (.str (zS "rows") 285), (.str (zS "found") 286), (.str (zS "entry") 287), (.str (zS "change") 288)] 0), #[]⟩
def o88_1 (P : Params) : Obj := ⟨(.type "tuple"), none, (.seq #[] 0), #[]⟩
def o89_1 (P : Params) : Obj := ⟨.none, none, (.func ⟨(zS "all_tables"), (zS "all_tables"), defArgs (topS 9), .stmts (defBody (topS 9)), defScope (topS 9), 0, [], .none, .none, .none, .none, none, .none, .none, 0⟩), #[]⟩
def o90_1 (P : Params) : Obj := ⟨(.type "code"), none, (.fields #[(.str (zS "all_tables") 280), (.str (zS "all_tables") 281), (.str (zS "/claim/cut.py") 282), (.int 24 0), (.int 2 0), (.int 0 0), (.int 0 0), (.int 3 0), (.ref 85), (.bool true), (.int 181 0), (.ref 86), .none, (.ref 87), (.ref 88), (.ref 89), (.int 289 0), (.int 24 0), (.str (zS "/claim/cut.py") 290)]), #[]⟩
def o91_1 (P : Params) : Obj := ⟨(.type "function"), none, (.func ⟨(zS "all_tables"), (zS "all_tables"), defArgs (topS 9), .stmts (defBody (topS 9)), defScope (topS 9), 3, [], .none, .none, .none, (.str (zS "tidecopy.tables") 248), none, (.ref 90), .none, 0⟩), #[]⟩
def o92_1 (P : Params) : Obj := ⟨(.type "tuple"), none, (.seq #[] 0), #[]⟩
def o93_1 (P : Params) : Obj := ⟨.none, none, (.fields #[]), #[]⟩
def o94_1 (P : Params) : Obj := ⟨.none, none, (.func ⟨(zS "changed"), (zS "changed"), defArgs (topS 10), .stmts (defBody (topS 10)), defScope (topS 10), 0, [], .none, .none, .none, .none, none, .none, .none, 0⟩), #[]⟩
def o95_1 (P : Params) : Obj := ⟨(.type "code"), none, (.fields #[(.str (zS "changed") 292), (.str (zS "changed") 293), (.str (zS "/claim/cut.py") 294), (.int 32 0), (.int 3 0), (.int 0 0), (.int 0 0), (.int 3 0), (.ref 92), (.bool true), (.int 181 0), (.ref 93), .none, .none, .none, (.ref 94), (.int 295 0), (.int 32 0), (.str (zS "/claim/cut.py") 296)]), #[]⟩
def o96_1 (P : Params) : Obj := ⟨(.type "function"), none, (.func ⟨(zS "changed"), (zS "changed"), defArgs (topS 10), .stmts (defBody (topS 10)), defScope (topS 10), 3, [], .none, .none, .none, (.str (zS "tidecopy.tables") 248), none, (.ref 95), .none, 0⟩), #[]⟩
def o97_1 (P : Params) : Obj := ⟨(.type "tuple"), none, (.seq #[] 0), #[]⟩
def o98_1 (P : Params) : Obj := ⟨.none, none, (.fields #[]), #[]⟩
def o99_1 (P : Params) : Obj := ⟨(.type "tuple"), none, (.seq #[(.str (zS "log") 303), (.str (zS "start") 304), (.str (zS "found") 305), (.str (zS "at") 306), (.str (zS "entry") 307), (.str (zS "word") 308), (.str (zS "key") 309), (.str (zS "worth") 310)] 0), #[]⟩
def o100_1 (P : Params) : Obj := ⟨(.type "tuple"), none, (.seq #[] 0), #[]⟩
def o101_1 (P : Params) : Obj := ⟨.none, none, (.func ⟨(zS "due_changes"), (zS "due_changes"), defArgs (topS 12), .stmts (defBody (topS 12)), defScope (topS 12), 0, [], .none, .none, .none, .none, none, .none, .none, 0⟩), #[]⟩
def o102_1 (P : Params) : Obj := ⟨(.type "code"), none, (.fields #[(.str (zS "due_changes") 300), (.str (zS "due_changes") 301), (.str (zS "/claim/cut.py") 302), (.int 37 0), (.int 2 0), (.int 0 0), (.int 0 0), (.int 3 0), (.ref 97), (.bool true), (.int 181 0), (.ref 98), .none, (.ref 99), (.ref 100), (.ref 101), (.int 311 0), (.int 37 0), (.str (zS "/claim/cut.py") 312)]), #[]⟩
def o103_1 (P : Params) : Obj := ⟨(.type "function"), none, (.func ⟨(zS "due_changes"), (zS "due_changes"), defArgs (topS 12), .stmts (defBody (topS 12)), defScope (topS 12), 3, [], .none, .none, .none, (.str (zS "tidecopy.events") 298), none, (.ref 102), .none, 0⟩), #[]⟩
def o104_1 (P : Params) : Obj := ⟨(.type "tuple"), none, (.seq #[] 0), #[]⟩
def o105_1 (P : Params) : Obj := ⟨.none, none, (.fields #[]), #[]⟩
def o106_1 (P : Params) : Obj := ⟨(.type "tuple"), none, (.seq #[(.str (zS "tables") 317), (.str (zS "log") 318), (.str (zS "start") 319), (.str (zS "event") 320), (.str (zS "place") 321), (.str (zS "word") 322), (.str (zS "key") 323), (.str (zS "worth") 324)] 0), #[]⟩
def o107_1 (P : Params) : Obj := ⟨(.type "tuple"), none, (.seq #[] 0), #[]⟩
def o108_1 (P : Params) : Obj := ⟨.none, none, (.func ⟨(zS "is_copy"), (zS "is_copy"), defArgs (topS 13), .stmts (defBody (topS 13)), defScope (topS 13), 0, [], .none, .none, .none, .none, none, .none, .none, 0⟩), #[]⟩
def o109_1 (P : Params) : Obj := ⟨(.type "code"), none, (.fields #[(.str (zS "is_copy") 314), (.str (zS "is_copy") 315), (.str (zS "/claim/cut.py") 316), (.int 44 0), (.int 4 0), (.int 0 0), (.int 0 0), (.int 3 0), (.ref 104), (.bool true), (.int 181 0), (.ref 105), .none, (.ref 106), (.ref 107), (.ref 108), (.int 325 0), (.int 44 0), (.str (zS "/claim/cut.py") 326)]), #[]⟩
def o110_1 (P : Params) : Obj := ⟨(.type "function"), none, (.func ⟨(zS "is_copy"), (zS "is_copy"), defArgs (topS 13), .stmts (defBody (topS 13)), defScope (topS 13), 3, [], .none, .none, .none, (.str (zS "tidecopy.events") 298), none, (.ref 109), .none, 0⟩), #[]⟩
def o111_1 (P : Params) : Obj := ⟨(.type "dict"), none, (.dict [⟨PyData.keyHash P (zS "start"), (.str (zS "start") 329), (.int 0 328)⟩].toArray 1), #[]⟩
def o112_1 (P : Params) : Obj := ⟨(.type "tuple"), none, (.seq #[] 0), #[]⟩
def o113_1 (P : Params) : Obj := ⟨.none, none, (.fields #[]), #[]⟩
def o114_1 (P : Params) : Obj := ⟨(.type "tuple"), none, (.seq #[(.str (zS "table") 333), (.str (zS "log") 334), (.str (zS "events") 335), (.str (zS "start") 336), (.str (zS "tables") 337), (.str (zS "left") 338), (.str (zS "copied") 339), (.str (zS "last") 340), (.str (zS "at") 341), (.str (zS "event") 342), (.str (zS "place") 343), (.str (zS "word") 344), (.str (zS "key") 345), (.str (zS "worth") 346)] 0), #[]⟩
def o115_1 (P : Params) : Obj := ⟨(.type "tuple"), none, (.seq #[] 0), #[]⟩
def o116_1 (P : Params) : Obj := ⟨.none, none, (.func ⟨(zS "first_wrong"), (zS "first_wrong"), defArgs (topS 14), .stmts (defBody (topS 14)), defScope (topS 14), 0, [], .none, .none, .none, .none, none, .none, .none, 0⟩), #[]⟩
def o117_1 (P : Params) : Obj := ⟨(.type "code"), none, (.fields #[(.str (zS "first_wrong") 330), (.str (zS "first_wrong") 331), (.str (zS "/claim/cut.py") 332), (.int 49 0), (.int 3 0), (.int 0 0), (.int 1 0), (.int 3 0), (.ref 112), (.bool true), (.int 181 0), (.ref 113), .none, (.ref 114), (.ref 115), (.ref 116), (.int 347 0), (.int 49 0), (.str (zS "/claim/cut.py") 348)]), #[]⟩
def o118_1 (P : Params) : Obj := ⟨(.type "function"), none, (.func ⟨(zS "first_wrong"), (zS "first_wrong"), defArgs (topS 14), .stmts (defBody (topS 14)), defScope (topS 14), 3, [], .none, (.ref 111), .none, (.str (zS "tidecopy.events") 298), none, (.ref 117), .none, 0⟩), #[]⟩
def o119_1 (P : Params) : Obj := ⟨(.type "tuple"), none, (.seq #[] 0), #[]⟩
def o120_1 (P : Params) : Obj := ⟨.none, none, (.fields #[]), #[]⟩
def o121_1 (P : Params) : Obj := ⟨(.type "tuple"), none, (.seq #[(.str (zS "script") 355), (.str (zS "k") 356), (.str (zS "cell") 357)] 0), #[]⟩
def o122_1 (P : Params) : Obj := ⟨(.type "tuple"), none, (.seq #[] 0), #[]⟩
def o123_1 (P : Params) : Obj := ⟨.none, none, (.func ⟨(zS "_law_bag"), (zS "_law_bag"), defArgs (topS 16), .stmts (defBody (topS 16)), defScope (topS 16), 0, [], .none, .none, .none, .none, none, .none, .none, 0⟩), #[]⟩
def o124_1 (P : Params) : Obj := ⟨(.type "code"), none, (.fields #[(.str (zS "_law_bag") 352), (.str (zS "_law_bag") 353), (.str (zS "/claim/cut.py") 354), (.int 67 0), (.int 2 0), (.int 0 0), (.int 0 0), (.int 3 0), (.ref 119), (.bool true), (.int 181 0), (.ref 120), .none, (.ref 121), (.ref 122), (.ref 123), (.int 358 0), (.int 67 0), (.str (zS "/claim/cut.py") 359)]), #[]⟩
def o125_1 (P : Params) : Obj := ⟨(.type "function"), none, (.func ⟨(zS "_law_bag"), (zS "_law_bag"), defArgs (topS 16), .stmts (defBody (topS 16)), defScope (topS 16), 3, [], .none, .none, .none, (.str (zS "law_tidecopy_k29_events_judged") 350), none, (.ref 124), .none, 0⟩), #[]⟩
def o126_1 (P : Params) : Obj := ⟨(.type "tuple"), none, (.seq #[] 0), #[]⟩
def o127_1 (P : Params) : Obj := ⟨.none, none, (.fields #[]), #[]⟩
def o128_1 (P : Params) : Obj := ⟨(.type "tuple"), none, (.seq #[(.str (zS "bag") 364), (.str (zS "many") 365), (.str (zS "found") 366)] 0), #[]⟩
def o129_1 (P : Params) : Obj := ⟨(.type "tuple"), none, (.seq #[] 0), #[]⟩
def o130_1 (P : Params) : Obj := ⟨.none, none, (.func ⟨(zS "_law_take"), (zS "_law_take"), defArgs (topS 17), .stmts (defBody (topS 17)), defScope (topS 17), 0, [], .none, .none, .none, .none, none, .none, .none, 0⟩), #[]⟩
def o131_1 (P : Params) : Obj := ⟨(.type "code"), none, (.fields #[(.str (zS "_law_take") 361), (.str (zS "_law_take") 362), (.str (zS "/claim/cut.py") 363), (.int 74 0), (.int 2 0), (.int 0 0), (.int 0 0), (.int 3 0), (.ref 126), (.bool true), (.int 181 0), (.ref 127), .none, (.ref 128), (.ref 129), (.ref 130), (.int 367 0), (.int 74 0), (.str (zS "/claim/cut.py") 368)]), #[]⟩
def o132_1 (P : Params) : Obj := ⟨(.type "function"), none, (.func ⟨(zS "_law_take"), (zS "_law_take"), defArgs (topS 17), .stmts (defBody (topS 17)), defScope (topS 17), 3, [], .none, .none, .none, (.str (zS "law_tidecopy_k29_events_judged") 350), none, (.ref 131), .none, 0⟩), #[]⟩
def o133_1 (P : Params) : Obj := ⟨(.type "tuple"), none, (.seq #[] 0), #[]⟩
def o134_1 (P : Params) : Obj := ⟨.none, none, (.fields #[]), #[]⟩
def o135_1 (P : Params) : Obj := ⟨(.type "tuple"), none, (.seq #[(.str (zS "bag") 373), (.str (zS "some") 374)] 0), #[]⟩
def o136_1 (P : Params) : Obj := ⟨(.type "tuple"), none, (.seq #[] 0), #[]⟩
def o137_1 (P : Params) : Obj := ⟨.none, none, (.func ⟨(zS "_law_of"), (zS "_law_of"), defArgs (topS 18), .stmts (defBody (topS 18)), defScope (topS 18), 0, [], .none, .none, .none, .none, none, .none, .none, 0⟩), #[]⟩
def o138_1 (P : Params) : Obj := ⟨(.type "code"), none, (.fields #[(.str (zS "_law_of") 370), (.str (zS "_law_of") 371), (.str (zS "/claim/cut.py") 372), (.int 81 0), (.int 2 0), (.int 0 0), (.int 0 0), (.int 3 0), (.ref 133), (.bool true), (.int 181 0), (.ref 134), .none, (.ref 135), (.ref 136), (.ref 137), (.int 375 0), (.int 81 0), (.str (zS "/claim/cut.py") 376)]), #[]⟩
def o139_1 (P : Params) : Obj := ⟨(.type "function"), none, (.func ⟨(zS "_law_of"), (zS "_law_of"), defArgs (topS 18), .stmts (defBody (topS 18)), defScope (topS 18), 3, [], .none, .none, .none, (.str (zS "law_tidecopy_k29_events_judged") 350), none, (.ref 138), .none, 0⟩), #[]⟩
def o140_1 (P : Params) : Obj := ⟨(.type "tuple"), none, (.seq #[] 0), #[]⟩
def o141_1 (P : Params) : Obj := ⟨.none, none, (.fields #[]), #[]⟩
def o142_1 (P : Params) : Obj := ⟨.none, none, (.func ⟨(zS "_law_keys"), (zS "_law_keys"), defArgs (topS 19), .stmts (defBody (topS 19)), defScope (topS 19), 0, [], .none, .none, .none, .none, none, .none, .none, 0⟩), #[]⟩
def o143_1 (P : Params) : Obj := ⟨(.type "code"), none, (.fields #[(.str (zS "_law_keys") 378), (.str (zS "_law_keys") 379), (.str (zS "/claim/cut.py") 380), (.int 83 0), (.int 1 0), (.int 0 0), (.int 0 0), (.int 3 0), (.ref 140), (.bool true), (.int 181 0), (.ref 141), .none, .none, .none, (.ref 142), (.int 381 0), (.int 83 0), (.str (zS "/claim/cut.py") 382)]), #[]⟩
def o144_1 (P : Params) : Obj := ⟨(.type "function"), none, (.func ⟨(zS "_law_keys"), (zS "_law_keys"), defArgs (topS 19), .stmts (defBody (topS 19)), defScope (topS 19), 3, [], .none, .none, .none, (.str (zS "law_tidecopy_k29_events_judged") 350), none, (.ref 143), .none, 0⟩), #[]⟩
def o145_1 (P : Params) : Obj := ⟨(.type "tuple"), none, (.seq #[] 0), #[]⟩
def o146_1 (P : Params) : Obj := ⟨.none, none, (.fields #[]), #[]⟩
def o147_1 (P : Params) : Obj := ⟨.none, none, (.func ⟨(zS "_law_table"), (zS "_law_table"), defArgs (topS 20), .stmts (defBody (topS 20)), defScope (topS 20), 0, [], .none, .none, .none, .none, none, .none, .none, 0⟩), #[]⟩
def o148_1 (P : Params) : Obj := ⟨(.type "code"), none, (.fields #[(.str (zS "_law_table") 384), (.str (zS "_law_table") 385), (.str (zS "/claim/cut.py") 386), (.int 87 0), (.int 2 0), (.int 0 0), (.int 0 0), (.int 3 0), (.ref 145), (.bool true), (.int 181 0), (.ref 146), .none, .none, .none, (.ref 147), (.int 387 0), (.int 87 0), (.str (zS "/claim/cut.py") 388)]), #[]⟩
def o149_1 (P : Params) : Obj := ⟨(.type "function"), none, (.func ⟨(zS "_law_table"), (zS "_law_table"), defArgs (topS 20), .stmts (defBody (topS 20)), defScope (topS 20), 3, [], .none, .none, .none, (.str (zS "law_tidecopy_k29_events_judged") 350), none, (.ref 148), .none, 0⟩), #[]⟩
def o150_1 (P : Params) : Obj := ⟨(.type "tuple"), none, (.seq #[] 0), #[]⟩
def o151_1 (P : Params) : Obj := ⟨.none, none, (.fields #[]), #[]⟩
def o152_1 (P : Params) : Obj := ⟨(.type "tuple"), none, (.seq #[(.str (zS "bag") 393), (.str (zS "keys") 394), (.str (zS "most") 395), (.str (zS "found") 396), (.str (zS "turn") 397), (.str (zS "key") 398)] 0), #[]⟩
def o153_1 (P : Params) : Obj := ⟨(.type "tuple"), none, (.seq #[] 0), #[]⟩
def o154_1 (P : Params) : Obj := ⟨.none, none, (.func ⟨(zS "_law_changes"), (zS "_law_changes"), defArgs (topS 21), .stmts (defBody (topS 21)), defScope (topS 21), 0, [], .none, .none, .none, .none, none, .none, .none, 0⟩), #[]⟩
def o155_1 (P : Params) : Obj := ⟨(.type "code"), none, (.fields #[(.str (zS "_law_changes") 390), (.str (zS "_law_changes") 391), (.str (zS "/claim/cut.py") 392), (.int 89 0), (.int 3 0), (.int 0 0), (.int 0 0), (.int 3 0), (.ref 150), (.bool true), (.int 181 0), (.ref 151), .none, (.ref 152), (.ref 153), (.ref 154), (.int 399 0), (.int 89 0), (.str (zS "/claim/cut.py") 400)]), #[]⟩
def o156_1 (P : Params) : Obj := ⟨(.type "function"), none, (.func ⟨(zS "_law_changes"), (zS "_law_changes"), defArgs (topS 21), .stmts (defBody (topS 21)), defScope (topS 21), 3, [], .none, .none, .none, (.str (zS "law_tidecopy_k29_events_judged") 350), none, (.ref 155), .none, 0⟩), #[]⟩
def o157_1 (P : Params) : Obj := ⟨(.type "tuple"), none, (.seq #[] 0), #[]⟩
def o158_1 (P : Params) : Obj := ⟨.none, none, (.fields #[]), #[]⟩
def o159_1 (P : Params) : Obj := ⟨(.type "tuple"), none, (.seq #[(.str (zS "bag") 405), (.str (zS "keys") 406)] 0), #[]⟩
def o160_1 (P : Params) : Obj := ⟨(.type "tuple"), none, (.seq #[] 0), #[]⟩
def o161_1 (P : Params) : Obj := ⟨.none, none, (.func ⟨(zS "_law_entry"), (zS "_law_entry"), defArgs (topS 22), .stmts (defBody (topS 22)), defScope (topS 22), 0, [], .none, .none, .none, .none, none, .none, .none, 0⟩), #[]⟩
def o162_1 (P : Params) : Obj := ⟨(.type "code"), none, (.fields #[(.str (zS "_law_entry") 402), (.str (zS "_law_entry") 403), (.str (zS "/claim/cut.py") 404), (.int 98 0), (.int 2 0), (.int 0 0), (.int 0 0), (.int 3 0), (.ref 157), (.bool true), (.int 181 0), (.ref 158), .none, (.ref 159), (.ref 160), (.ref 161), (.int 407 0), (.int 98 0), (.str (zS "/claim/cut.py") 408)]), #[]⟩
def o163_1 (P : Params) : Obj := ⟨(.type "function"), none, (.func ⟨(zS "_law_entry"), (zS "_law_entry"), defArgs (topS 22), .stmts (defBody (topS 22)), defScope (topS 22), 3, [], .none, .none, .none, (.str (zS "law_tidecopy_k29_events_judged") 350), none, (.ref 162), .none, 0⟩), #[]⟩
def o164_1 (P : Params) : Obj := ⟨(.type "tuple"), none, (.seq #[] 0), #[]⟩
def o165_1 (P : Params) : Obj := ⟨.none, none, (.fields #[]), #[]⟩
def o166_1 (P : Params) : Obj := ⟨.none, none, (.func ⟨(zS "_law_log"), (zS "_law_log"), defArgs (topS 23), .stmts (defBody (topS 23)), defScope (topS 23), 0, [], .none, .none, .none, .none, none, .none, .none, 0⟩), #[]⟩
def o167_1 (P : Params) : Obj := ⟨(.type "code"), none, (.fields #[(.str (zS "_law_log") 410), (.str (zS "_law_log") 411), (.str (zS "/claim/cut.py") 412), (.int 102 0), (.int 3 0), (.int 0 0), (.int 0 0), (.int 3 0), (.ref 164), (.bool true), (.int 181 0), (.ref 165), .none, .none, .none, (.ref 166), (.int 413 0), (.int 102 0), (.str (zS "/claim/cut.py") 414)]), #[]⟩
def o168_1 (P : Params) : Obj := ⟨(.type "function"), none, (.func ⟨(zS "_law_log"), (zS "_law_log"), defArgs (topS 23), .stmts (defBody (topS 23)), defScope (topS 23), 3, [], .none, .none, .none, (.str (zS "law_tidecopy_k29_events_judged") 350), none, (.ref 167), .none, 0⟩), #[]⟩
def o169_1 (P : Params) : Obj := ⟨(.type "tuple"), none, (.seq #[] 0), #[]⟩
def o170_1 (P : Params) : Obj := ⟨.none, none, (.fields #[]), #[]⟩
def o171_1 (P : Params) : Obj := ⟨(.type "tuple"), none, (.seq #[(.str (zS "rows") 419), (.str (zS "changes") 420), (.str (zS "change") 421)] 0), #[]⟩
def o172_1 (P : Params) : Obj := ⟨(.type "tuple"), none, (.seq #[] 0), #[]⟩
def o173_1 (P : Params) : Obj := ⟨.none, none, (.func ⟨(zS "_law_done"), (zS "_law_done"), defArgs (topS 24), .stmts (defBody (topS 24)), defScope (topS 24), 0, [], .none, .none, .none, .none, none, .none, .none, 0⟩), #[]⟩
def o174_1 (P : Params) : Obj := ⟨(.type "code"), none, (.fields #[(.str (zS "_law_done") 416), (.str (zS "_law_done") 417), (.str (zS "/claim/cut.py") 418), (.int 104 0), (.int 2 0), (.int 0 0), (.int 0 0), (.int 3 0), (.ref 169), (.bool true), (.int 181 0), (.ref 170), .none, (.ref 171), (.ref 172), (.ref 173), (.int 422 0), (.int 104 0), (.str (zS "/claim/cut.py") 423)]), #[]⟩
def o175_1 (P : Params) : Obj := ⟨(.type "function"), none, (.func ⟨(zS "_law_done"), (zS "_law_done"), defArgs (topS 24), .stmts (defBody (topS 24)), defScope (topS 24), 3, [], .none, .none, .none, (.str (zS "law_tidecopy_k29_events_judged") 350), none, (.ref 174), .none, 0⟩), #[]⟩
def o176_1 (P : Params) : Obj := ⟨(.type "tuple"), none, (.seq #[] 0), #[]⟩
def o177_1 (P : Params) : Obj := ⟨.none, none, (.fields #[]), #[]⟩
def o178_1 (P : Params) : Obj := ⟨.none, none, (.func ⟨(zS "_law_pairs"), (zS "_law_pairs"), defArgs (topS 25), .stmts (defBody (topS 25)), defScope (topS 25), 0, [], .none, .none, .none, .none, none, .none, .none, 0⟩), #[]⟩
def o179_1 (P : Params) : Obj := ⟨(.type "code"), none, (.fields #[(.str (zS "_law_pairs") 425), (.str (zS "_law_pairs") 426), (.str (zS "/claim/cut.py") 427), (.int 110 0), (.int 1 0), (.int 0 0), (.int 0 0), (.int 3 0), (.ref 176), (.bool true), (.int 181 0), (.ref 177), .none, .none, .none, (.ref 178), (.int 428 0), (.int 110 0), (.str (zS "/claim/cut.py") 429)]), #[]⟩
def o180_1 (P : Params) : Obj := ⟨(.type "function"), none, (.func ⟨(zS "_law_pairs"), (zS "_law_pairs"), defArgs (topS 25), .stmts (defBody (topS 25)), defScope (topS 25), 3, [], .none, .none, .none, (.str (zS "law_tidecopy_k29_events_judged") 350), none, (.ref 179), .none, 0⟩), #[]⟩
def o181_1 (P : Params) : Obj := ⟨(.type "tuple"), none, (.seq #[] 0), #[]⟩
def o182_1 (P : Params) : Obj := ⟨.none, none, (.fields #[]), #[]⟩
def o183_1 (P : Params) : Obj := ⟨.none, none, (.func ⟨(zS "_law_groups"), (zS "_law_groups"), defArgs (topS 26), .stmts (defBody (topS 26)), defScope (topS 26), 0, [], .none, .none, .none, .none, none, .none, .none, 0⟩), #[]⟩
def o184_1 (P : Params) : Obj := ⟨(.type "code"), none, (.fields #[(.str (zS "_law_groups") 431), (.str (zS "_law_groups") 432), (.str (zS "/claim/cut.py") 433), (.int 112 0), (.int 1 0), (.int 0 0), (.int 0 0), (.int 3 0), (.ref 181), (.bool true), (.int 181 0), (.ref 182), .none, .none, .none, (.ref 183), (.int 434 0), (.int 112 0), (.str (zS "/claim/cut.py") 435)]), #[]⟩
def o185_1 (P : Params) : Obj := ⟨(.type "function"), none, (.func ⟨(zS "_law_groups"), (zS "_law_groups"), defArgs (topS 26), .stmts (defBody (topS 26)), defScope (topS 26), 3, [], .none, .none, .none, (.str (zS "law_tidecopy_k29_events_judged") 350), none, (.ref 184), .none, 0⟩), #[]⟩
def o186_1 (P : Params) : Obj := ⟨(.type "tuple"), none, (.seq #[] 0), #[]⟩
def o187_1 (P : Params) : Obj := ⟨.none, none, (.fields #[]), #[]⟩
def o188_1 (P : Params) : Obj := ⟨(.type "tuple"), none, (.seq #[(.str (zS "table") 440), (.str (zS "log") 441), (.str (zS "place") 442), (.str (zS "rows") 443), (.str (zS "changes") 444)] 0), #[]⟩
def o189_1 (P : Params) : Obj := ⟨(.type "tuple"), none, (.seq #[] 0), #[]⟩
def o190_1 (P : Params) : Obj := ⟨.none, none, (.func ⟨(zS "_law_at"), (zS "_law_at"), defArgs (topS 27), .stmts (defBody (topS 27)), defScope (topS 27), 0, [], .none, .none, .none, .none, none, .none, .none, 0⟩), #[]⟩
def o191_1 (P : Params) : Obj := ⟨(.type "code"), none, (.fields #[(.str (zS "_law_at") 437), (.str (zS "_law_at") 438), (.str (zS "/claim/cut.py") 439), (.int 114 0), (.int 3 0), (.int 0 0), (.int 0 0), (.int 3 0), (.ref 186), (.bool true), (.int 181 0), (.ref 187), .none, (.ref 188), (.ref 189), (.ref 190), (.int 445 0), (.int 114 0), (.str (zS "/claim/cut.py") 446)]), #[]⟩
def o192_1 (P : Params) : Obj := ⟨(.type "function"), none, (.func ⟨(zS "_law_at"), (zS "_law_at"), defArgs (topS 27), .stmts (defBody (topS 27)), defScope (topS 27), 3, [], .none, .none, .none, (.str (zS "law_tidecopy_k29_events_judged") 350), none, (.ref 191), .none, 0⟩), #[]⟩
def o193_1 (P : Params) : Obj := ⟨(.type "tuple"), none, (.seq #[] 0), #[]⟩
def o194_1 (P : Params) : Obj := ⟨.none, none, (.fields #[]), #[]⟩
def o195_1 (P : Params) : Obj := ⟨(.type "tuple"), none, (.seq #[(.str (zS "log") 451), (.str (zS "low") 452), (.str (zS "high") 453), (.str (zS "found") 454), (.str (zS "changes") 455), (.str (zS "change") 456)] 0), #[]⟩
def o196_1 (P : Params) : Obj := ⟨(.type "tuple"), none, (.seq #[] 0), #[]⟩
def o197_1 (P : Params) : Obj := ⟨.none, none, (.func ⟨(zS "_law_moved"), (zS "_law_moved"), defArgs (topS 28), .stmts (defBody (topS 28)), defScope (topS 28), 0, [], .none, .none, .none, .none, none, .none, .none, 0⟩), #[]⟩
def o198_1 (P : Params) : Obj := ⟨(.type "code"), none, (.fields #[(.str (zS "_law_moved") 448), (.str (zS "_law_moved") 449), (.str (zS "/claim/cut.py") 450), (.int 119 0), (.int 3 0), (.int 0 0), (.int 0 0), (.int 3 0), (.ref 193), (.bool true), (.int 181 0), (.ref 194), .none, (.ref 195), (.ref 196), (.ref 197), (.int 457 0), (.int 119 0), (.str (zS "/claim/cut.py") 458)]), #[]⟩
def o199_1 (P : Params) : Obj := ⟨(.type "function"), none, (.func ⟨(zS "_law_moved"), (zS "_law_moved"), defArgs (topS 28), .stmts (defBody (topS 28)), defScope (topS 28), 3, [], .none, .none, .none, (.str (zS "law_tidecopy_k29_events_judged") 350), none, (.ref 198), .none, 0⟩), #[]⟩
def o200_1 (P : Params) : Obj := ⟨(.type "tuple"), none, (.seq #[] 0), #[]⟩
def o201_1 (P : Params) : Obj := ⟨.none, none, (.fields #[]), #[]⟩
def o202_1 (P : Params) : Obj := ⟨.none, none, (.func ⟨(zS "_law_wrong_at"), (zS "_law_wrong_at"), defArgs (topS 29), .stmts (defBody (topS 29)), defScope (topS 29), 0, [], .none, .none, .none, .none, none, .none, .none, 0⟩), #[]⟩
def o203_1 (P : Params) : Obj := ⟨(.type "code"), none, (.fields #[(.str (zS "_law_wrong_at") 460), (.str (zS "_law_wrong_at") 461), (.str (zS "/claim/cut.py") 462), (.int 125 0), (.int 4 0), (.int 0 0), (.int 0 0), (.int 3 0), (.ref 200), (.bool true), (.int 181 0), (.ref 201), .none, .none, .none, (.ref 202), (.int 463 0), (.int 125 0), (.str (zS "/claim/cut.py") 464)]), #[]⟩
def o204_1 (P : Params) : Obj := ⟨(.type "function"), none, (.func ⟨(zS "_law_wrong_at"), (zS "_law_wrong_at"), defArgs (topS 29), .stmts (defBody (topS 29)), defScope (topS 29), 3, [], .none, .none, .none, (.str (zS "law_tidecopy_k29_events_judged") 350), none, (.ref 203), .none, 0⟩), #[]⟩
def o205_1 (P : Params) : Obj := ⟨(.type "tuple"), none, (.seq #[] 0), #[]⟩
def o206_1 (P : Params) : Obj := ⟨.none, none, (.fields #[]), #[]⟩
def o207_1 (P : Params) : Obj := ⟨(.type "tuple"), none, (.seq #[(.str (zS "bag") 469), (.str (zS "table") 470), (.str (zS "log") 471), (.str (zS "sta1") 472), (.str (zS "found") 473), (.str (zS "copied") 474), (.str (zS "place") 475), (.str (zS "change") 476), (.str (zS "key") 477), (.str (zS "worth") 478)] 0), #[]⟩
def o208_1 (P : Params) : Obj := ⟨(.type "tuple"), none, (.seq #[] 0), #[]⟩
def o209_1 (P : Params) : Obj := ⟨.none, none, (.func ⟨(zS "_law_true_events"), (zS "_law_true_events"), defArgs (topS 30), .stmts (defBody (topS 30)), defScope (topS 30), 0, [], .none, .none, .none, .none, none, .none, .none, 0⟩), #[]⟩
def o210_1 (P : Params) : Obj := ⟨(.type "code"), none, (.fields #[(.str (zS "_law_true_events") 466), (.str (zS "_law_true_events") 467), (.str (zS "/claim/cut.py") 468), (.int 146 0), (.int 4 0), (.int 0 0), (.int 0 0), (.int 3 0), (.ref 205), (.bool true), (.int 181 0), (.ref 206), .none, (.ref 207), (.ref 208), (.ref 209), (.int 479 0), (.int 146 0), (.str (zS "/claim/cut.py") 480)]), #[]⟩
def o211_1 (P : Params) : Obj := ⟨(.type "function"), none, (.func ⟨(zS "_law_true_events"), (zS "_law_true_events"), defArgs (topS 30), .stmts (defBody (topS 30)), defScope (topS 30), 3, [], .none, .none, .none, (.str (zS "law_tidecopy_k29_events_judged") 350), none, (.ref 210), .none, 0⟩), #[]⟩
def o212_1 (P : Params) : Obj := ⟨(.type "tuple"), none, (.seq #[] 0), #[]⟩
def o213_1 (P : Params) : Obj := ⟨.none, none, (.fields #[]), #[]⟩
def o214_1 (P : Params) : Obj := ⟨(.type "tuple"), none, (.seq #[(.str (zS "bag") 485), (.str (zS "events") 486), (.str (zS "keys") 487), (.str (zS "rows") 488), (.str (zS "at") 489), (.str (zS "way") 490), (.str (zS "new") 491), (.str (zS "event") 492), (.str (zS "part") 493)] 0), #[]⟩
def o215_1 (P : Params) : Obj := ⟨(.type "tuple"), none, (.seq #[] 0), #[]⟩
def o216_1 (P : Params) : Obj := ⟨.none, none, (.func ⟨(zS "_law_other_events"), (zS "_law_other_events"), defArgs (topS 31), .stmts (defBody (topS 31)), defScope (topS 31), 0, [], .none, .none, .none, .none, none, .none, .none, 0⟩), #[]⟩
def o217_1 (P : Params) : Obj := ⟨(.type "code"), none, (.fields #[(.str (zS "_law_other_events") 482), (.str (zS "_law_other_events") 483), (.str (zS "/claim/cut.py") 484), (.int 159 0), (.int 3 0), (.int 0 0), (.int 0 0), (.int 3 0), (.ref 212), (.bool true), (.int 181 0), (.ref 213), .none, (.ref 214), (.ref 215), (.ref 216), (.int 494 0), (.int 159 0), (.str (zS "/claim/cut.py") 495)]), #[]⟩
def o218_1 (P : Params) : Obj := ⟨(.type "function"), none, (.func ⟨(zS "_law_other_events"), (zS "_law_other_events"), defArgs (topS 31), .stmts (defBody (topS 31)), defScope (topS 31), 3, [], .none, .none, .none, (.str (zS "law_tidecopy_k29_events_judged") 350), none, (.ref 217), .none, 0⟩), #[]⟩
def o219_1 (P : Params) : Obj := ⟨(.type "tuple"), none, (.seq #[] 0), #[]⟩
def o220_1 (P : Params) : Obj := ⟨.none, none, (.fields #[]), #[]⟩
def o221_1 (P : Params) : Obj := ⟨(.type "tuple"), none, (.seq #[(.str (zS "script") 500), (.str (zS "k") 501), (.str (zS "bag") 502), (.str (zS "keys") 503), (.str (zS "table") 504), (.str (zS "log") 505), (.str (zS "sta1") 506), (.str (zS "events") 507), (.str (zS "turn") 508), (.str (zS "handed") 509), (.str (zS "found") 510), (.str (zS "due") 511)] 0), #[]⟩
def o222_1 (P : Params) : Obj := ⟨(.type "tuple"), none, (.seq #[] 0), #[]⟩
def o223_1 (P : Params) : Obj := ⟨.none, none, (.func ⟨(zS "law"), (zS "law"), defArgs (topS 32), .stmts (defBody (topS 32)), defScope (topS 32), 0, [], .none, .none, .none, .none, none, .none, .none, 0⟩), #[]⟩
def o224_1 (P : Params) : Obj := ⟨(.type "code"), none, (.fields #[(.str (zS "law") 497), (.str (zS "law") 498), (.str (zS "/claim/cut.py") 499), (.int 180 0), (.int 1 0), (.int 0 0), (.int 0 0), (.int 3 0), (.ref 219), (.bool true), (.int 181 0), (.ref 220), .none, (.ref 221), (.ref 222), (.ref 223), (.int 512 0), (.int 180 0), (.str (zS "/claim/cut.py") 513)]), #[]⟩
def o225_1 (P : Params) : Obj := ⟨(.type "function"), none, (.func ⟨(zS "law"), (zS "law"), defArgs (topS 32), .stmts (defBody (topS 32)), defScope (topS 32), 3, [], .none, .none, .none, (.str (zS "law_tidecopy_k29_events_judged") 350), none, (.ref 224), .none, 0⟩), #[]⟩
def tr1 (P : Params) : PySem.W.BT := (.node (o0_0 P) (.node (o1_0 P) (.node (o3_1 P) (.node (o7_0 P) (.node (o15_1 P) (.node (o31_1 P) (.node (o63_1 P) (.node (o127_1 P) .nil .nil) (.node (o191_1 P) .nil .nil)) (.node (o95_1 P) (.node (o159_1 P) .nil .nil) (.node (o223_1 P) .nil .nil))) (.node (o47_1 P) (.node (o79_1 P) (.node (o143_1 P) .nil .nil) (.node (o207_1 P) .nil .nil)) (.node (o111_1 P) (.node (o175_1 P) .nil .nil) .nil))) (.node (o23_1 P) (.node (o39_1 P) (.node (o71_1 P) (.node (o135_1 P) .nil .nil) (.node (o199_1 P) .nil .nil)) (.node (o103_1 P) (.node (o167_1 P) .nil .nil) .nil)) (.node (o55_1 P) (.node (o87_1 P) (.node (o151_1 P) .nil .nil) (.node (o215_1 P) .nil .nil)) (.node (o119_1 P) (.node (o183_1 P) .nil .nil) .nil)))) (.node (o11_0 P) (.node (o19_1 P) (.node (o35_1 P) (.node (o67_1 P) (.node (o131_1 P) .nil .nil) (.node (o195_1 P) .nil .nil)) (.node (o99_1 P) (.node (o163_1 P) .nil .nil) .nil)) (.node (o51_1 P) (.node (o83_1 P) (.node (o147_1 P) .nil .nil) (.node (o211_1 P) .nil .nil)) (.node (o115_1 P) (.node (o179_1 P) .nil .nil) .nil))) (.node (o27_1 P) (.node (o43_1 P) (.node (o75_1 P) (.node (o139_1 P) .nil .nil) (.node (o203_1 P) .nil .nil)) (.node (o107_1 P) (.node (o171_1 P) .nil .nil) .nil)) (.node (o59_1 P) (.node (o91_1 P) (.node (o155_1 P) .nil .nil) (.node (o219_1 P) .nil .nil)) (.node (o123_1 P) (.node (o187_1 P) .nil .nil) .nil))))) (.node (o5_0 P) (.node (o9_0 P) (.node (o17_1 P) (.node (o33_1 P) (.node (o65_1 P) (.node (o129_1 P) .nil .nil) (.node (o193_1 P) .nil .nil)) (.node (o97_1 P) (.node (o161_1 P) .nil .nil) (.node (o225_1 P) .nil .nil))) (.node (o49_1 P) (.node (o81_1 P) (.node (o145_1 P) .nil .nil) (.node (o209_1 P) .nil .nil)) (.node (o113_1 P) (.node (o177_1 P) .nil .nil) .nil))) (.node (o25_1 P) (.node (o41_1 P) (.node (o73_1 P) (.node (o137_1 P) .nil .nil) (.node (o201_1 P) .nil .nil)) (.node (o105_1 P) (.node (o169_1 P) .nil .nil) .nil)) (.node (o57_1 P) (.node (o89_1 P) (.node (o153_1 P) .nil .nil) (.node (o217_1 P) .nil .nil)) (.node (o121_1 P) (.node (o185_1 P) .nil .nil) .nil)))) (.node (o13_0 P) (.node (o21_1 P) (.node (o37_1 P) (.node (o69_1 P) (.node (o133_1 P) .nil .nil) (.node (o197_1 P) .nil .nil)) (.node (o101_1 P) (.node (o165_1 P) .nil .nil) .nil)) (.node (o53_1 P) (.node (o85_1 P) (.node (o149_1 P) .nil .nil) (.node (o213_1 P) .nil .nil)) (.node (o117_1 P) (.node (o181_1 P) .nil .nil) .nil))) (.node (o29_1 P) (.node (o45_1 P) (.node (o77_1 P) (.node (o141_1 P) .nil .nil) (.node (o205_1 P) .nil .nil)) (.node (o109_1 P) (.node (o173_1 P) .nil .nil) .nil)) (.node (o61_1 P) (.node (o93_1 P) (.node (o157_1 P) .nil .nil) (.node (o221_1 P) .nil .nil)) (.node (o125_1 P) (.node (o189_1 P) .nil .nil) .nil)))))) (.node (o2_0 P) (.node (o4_0 P) (.node (o8_0 P) (.node (o16_1 P) (.node (o32_1 P) (.node (o64_1 P) (.node (o128_1 P) .nil .nil) (.node (o192_1 P) .nil .nil)) (.node (o96_1 P) (.node (o160_1 P) .nil .nil) (.node (o224_1 P) .nil .nil))) (.node (o48_1 P) (.node (o80_1 P) (.node (o144_1 P) .nil .nil) (.node (o208_1 P) .nil .nil)) (.node (o112_1 P) (.node (o176_1 P) .nil .nil) .nil))) (.node (o24_1 P) (.node (o40_1 P) (.node (o72_1 P) (.node (o136_1 P) .nil .nil) (.node (o200_1 P) .nil .nil)) (.node (o104_1 P) (.node (o168_1 P) .nil .nil) .nil)) (.node (o56_1 P) (.node (o88_1 P) (.node (o152_1 P) .nil .nil) (.node (o216_1 P) .nil .nil)) (.node (o120_1 P) (.node (o184_1 P) .nil .nil) .nil)))) (.node (o12_1 P) (.node (o20_1 P) (.node (o36_1 P) (.node (o68_1 P) (.node (o132_1 P) .nil .nil) (.node (o196_1 P) .nil .nil)) (.node (o100_1 P) (.node (o164_1 P) .nil .nil) .nil)) (.node (o52_1 P) (.node (o84_1 P) (.node (o148_1 P) .nil .nil) (.node (o212_1 P) .nil .nil)) (.node (o116_1 P) (.node (o180_1 P) .nil .nil) .nil))) (.node (o28_1 P) (.node (o44_1 P) (.node (o76_1 P) (.node (o140_1 P) .nil .nil) (.node (o204_1 P) .nil .nil)) (.node (o108_1 P) (.node (o172_1 P) .nil .nil) .nil)) (.node (o60_1 P) (.node (o92_1 P) (.node (o156_1 P) .nil .nil) (.node (o220_1 P) .nil .nil)) (.node (o124_1 P) (.node (o188_1 P) .nil .nil) .nil))))) (.node (o6_0 P) (.node (o10_0 P) (.node (o18_1 P) (.node (o34_1 P) (.node (o66_1 P) (.node (o130_1 P) .nil .nil) (.node (o194_1 P) .nil .nil)) (.node (o98_1 P) (.node (o162_1 P) .nil .nil) .nil)) (.node (o50_1 P) (.node (o82_1 P) (.node (o146_1 P) .nil .nil) (.node (o210_1 P) .nil .nil)) (.node (o114_1 P) (.node (o178_1 P) .nil .nil) .nil))) (.node (o26_1 P) (.node (o42_1 P) (.node (o74_1 P) (.node (o138_1 P) .nil .nil) (.node (o202_1 P) .nil .nil)) (.node (o106_1 P) (.node (o170_1 P) .nil .nil) .nil)) (.node (o58_1 P) (.node (o90_1 P) (.node (o154_1 P) .nil .nil) (.node (o218_1 P) .nil .nil)) (.node (o122_1 P) (.node (o186_1 P) .nil .nil) .nil)))) (.node (o14_0 P) (.node (o22_1 P) (.node (o38_1 P) (.node (o70_1 P) (.node (o134_1 P) .nil .nil) (.node (o198_1 P) .nil .nil)) (.node (o102_1 P) (.node (o166_1 P) .nil .nil) .nil)) (.node (o54_1 P) (.node (o86_1 P) (.node (o150_1 P) .nil .nil) (.node (o214_1 P) .nil .nil)) (.node (o118_1 P) (.node (o182_1 P) .nil .nil) .nil))) (.node (o30_1 P) (.node (o46_1 P) (.node (o78_1 P) (.node (o142_1 P) .nil .nil) (.node (o206_1 P) .nil .nil)) (.node (o110_1 P) (.node (o174_1 P) .nil .nil) .nil)) (.node (o62_1 P) (.node (o94_1 P) (.node (o158_1 P) .nil .nil) (.node (o222_1 P) .nil .nil)) (.node (o126_1 P) (.node (o190_1 P) .nil .nil) .nil)))))))
def st1 (w : World) (os : OsState) : PySem.W.SharedT := ⟨tr1 w.params, 226, ⟨[], [], [], 0, [], [], false, #[], [], 0, false, false, false, 0, [2000, 10, 10], false, 0, true, [], [], 0, false⟩, #[], ⟨0, 0, 0, 0⟩, 515, os⟩
def envT : Env := ⟨PR.main.scope, mainNs, mainNs, [], .ofString "", none, (.ref 13), some 14, 0⟩
noncomputable def thP : Thread := ⟨HandSHeadRun.denQ HandSHeadRun.tabQ (.body (PySem.W.behindTheImports PR) envT), .body (PySem.W.behindTheImports PR) envT, ⟨0, 0, 0, 0⟩, [PySem.W.topFrame ⟨0, 0, 0, 0⟩]⟩
def th0 : Thread := PySem.W.restOf (PySem.W.behindTheImports PR) envT (.body (PySem.W.behindTheImports PR) envT) ⟨0, 0, 0, 0⟩ [PySem.W.topFrame ⟨0, 0, 0, 0⟩]
set_option maxHeartbeats 0 in
theorem pcB (w : World) : HandSHeadRun.putAll (PySem.W.boot_heap w.params).objs.toList .nil 0 = some (trB w.params, 11) := by kernel_rfl
set_option maxHeartbeats 0 in
theorem pcP (w : World) (os : OsState) : goK (HandSHeadRun.stepQ (HandSHeadRun.denQ HandSHeadRun.tabQ) PR w) 11 (HandSHeadRun.bootAnn w) 12 (HandSHeadRun.bootT w os (trB w.params, 11)) (PySem.W.topStub PR) = some (st0 w os, thP) := by kernel_rfl
set_option maxHeartbeats 0 in
theorem thPR : thP = th0 := by
  unfold thP th0
  rw [← HandSHeadRun.denQ_eq, ← HandSHeadRun.tabQ_eq, PySem.W.body_wrap]
  kernel_rfl
set_option maxHeartbeats 0 in
theorem pcE (w : World) (os : OsState) : HandSHeadRun.goF (HandSHeadRun.stepQ (HandSHeadRun.denQ HandSHeadRun.tabQ) PR w) 11 (HandSHeadRun.bootAnn w) 29988 (st0 w os) th0 = some (st1 w os) := by kernel_rfl
theorem gePR (w : World) (os : OsState) : HandSHeadRun.goF (HandSHeadRun.stepQ (HandSHeadRun.denQ HandSHeadRun.tabQ) PR w) 11 (HandSHeadRun.bootAnn w) 29988 (st0 w os) thP = some (st1 w os) := by
  rw [thPR]
  exact pcE w os
theorem ends (w : World) (os : OsState) : HandSHeadRun.endF (HandSHeadRun.stepQ (HandSHeadRun.denQ HandSHeadRun.tabQ) PR w) (12 + 29988) PR w os = some (st1 w os) := endF_cut (pcB w) (pcP w os) (gePR w os)
theorem totM : 12 + 29988 = 30000 := by decide +kernel
theorem endsM (w : World) (os : OsState) : HandSHeadRun.endF (HandSHeadRun.stepQ (HandSHeadRun.denQ HandSHeadRun.tabQ) PR w) 30000 PR w os = some (st1 w os) := totM ▸ ends w os
set_option maxHeartbeats 0 in
theorem seesL (w : World) (os : OsState) : HandSHeadRun.looksF Rr.prog (PySem.W.boot_heap w.params) (st1 w os).abs = true := by kernel_rfl
set_option maxHeartbeats 0 in
theorem seesS (w : World) (os : OsState) : HandSHeadRun.seenQ (PySem.W.view Rr.prog [32]) looseL (PySem.importedModules Rr.prog.main.body) (fun s => PySem.W.xlAt (PySem.W.view Rr.prog [32]) [] s && PySem.W.recOk Rr.toRowW.records s) (st1 w os).abs = PySem.W.openGood (PySem.W.view Rr.prog [32]) looseL := by kernel_rfl
def KS (w : World) (os : OsState) : PySem.W.Frag := He.frG (HandSHeadRun.getT (st1 w os)) asL
set_option maxHeartbeats 0 in
theorem seesF0 (w : World) (os : OsState) : (faL0.all fun f => f.ok (KS w os)) = true := by kernel_rfl
set_option maxHeartbeats 0 in
theorem seesF1 (w : World) (os : OsState) : (faL1.all fun f => f.ok (KS w os)) = true := by kernel_rfl
set_option maxHeartbeats 0 in
theorem seesD0 (w : World) (os : OsState) : (fnL0.all fun d => d.ok (KS w os)) = true := by kernel_rfl
set_option maxHeartbeats 0 in
theorem seesV0 (w : World) (os : OsState) : fnL0.map (fun d => He.fnW (KS w os) d.at_) = fnL0.map He.DefD.val := by kernel_rfl
set_option maxHeartbeats 0 in
theorem seesD1 (w : World) (os : OsState) : (fnL1.all fun d => d.ok (KS w os)) = true := by kernel_rfl
set_option maxHeartbeats 0 in
theorem seesV1 (w : World) (os : OsState) : fnL1.map (fun d => He.fnW (KS w os) d.at_) = fnL1.map He.DefD.val := by kernel_rfl
set_option maxHeartbeats 0 in
theorem seesX0 (w : World) (os : OsState) : (exL0.all fun b => b (KS w os)) = true := by kernel_rfl
theorem seesH (w : World) (os : OsState) : ob (st1 w os) = hk.val w := obsM_of (K := KS w os) (all_two (seesF0 w os) (seesF1 w os)) (all_two (seesD0 w os) (seesD1 w os)) (map_two (seesV0 w os) (seesV1 w os)) (seesX0 w os)
theorem seesO (w : World) (os : OsState) : ((HandSHeadRun.looksF Rr.prog (PySem.W.boot_heap w.params) (st1 w os).abs, HandSHeadRun.seenQ (PySem.W.view Rr.prog [32]) looseL (PySem.importedModules Rr.prog.main.body) (fun s => PySem.W.xlAt (PySem.W.view Rr.prog [32]) [] s && PySem.W.recOk Rr.toRowW.records s) (st1 w os).abs, ob (st1 w os)) : _) = (true, PySem.W.openGood (PySem.W.view Rr.prog [32]) looseL, hk.val w) := Prod.ext (seesL w os) (Prod.ext (seesS w os) (seesH w os))
theorem run (w : World) : HandSHeadRun.RunEq Rr (PySem.W.view Rr.prog [32]) hk ob 30000 looseL w := fun os => by
  show Option.map _ (HandSHeadRun.endF (HandSHeadRun.stepQ (HandSHeadRun.denQ HandSHeadRun.tabQ) Rr.prog w) 30000 Rr.prog w os) = _
  rw [show HandSHeadRun.endF (HandSHeadRun.stepQ (HandSHeadRun.denQ HandSHeadRun.tabQ) Rr.prog w) 30000 Rr.prog w os = some (st1 w os) from endsM w os]
  exact congrArg some (seesO w os)
end K29

/-! Rules whose readings reckon by themselves: values are looked at by match, so that what a step asks is found by unfolding. -/
namespace Tc
open PySem PySem.Spec PyProof.Rows L2
/-! ### weaker readings -/
theorem pe_of {X : Cx} {e : Expr} {t u : TE} (h : PE X e t) (k : ∀ σ H Q, u σ H Q → t σ H Q) : PE X e u := ⟨fun pins s σ H Q I q => h.run pins s σ H Q I (k σ H Q q)⟩
theorem pt_of {X : Cx} {e : Expr} {t u : TT} (h : PT X e t) (k : ∀ σ H Q, u σ H Q → t σ H Q) : PT X e u := ⟨fun pins s σ H Q I q => h.run pins s σ H Q I (k σ H Q q)⟩
theorem op_of {X : Cx} {f : Value → Value → Sem Value} {r u : R2} (h : OpR X f r) (k : ∀ x y H Q, u x y H Q → r x y H Q) : OpR X f u := fun pins s σ H x y v w Q I rx ry q => h pins s σ H x y v w Q I rx ry (k x y H Q q)
/-! ### names -/
def tV (i : Nat) : TE := fun σ H Q => match σ[i]? with
  | some (some v) => Q v H
  | _ => False
theorem pn {X : Cx} (i : Nat) {x : Str} {pos : Pos} (hN : X.N[i]? = some x := by rfl) (hv : Vis X.env.scope x := by first | exact Or.inl rfl | exact Or.inr (Or.inl rfl) | exact Or.inr (Or.inr rfl)) (hd : (x == ("__debug__" : Str)) = false := by decide)
    (hcd : (x == ("__classdict__" : Str)) = false := by decide) : PE X (.Name x pos) (tV i) := pe_of (pe_var hN hv hd hcd) fun σ H Q q => by
  unfold tV at q
  split at q
  · rename_i v e
    exact ⟨v, e, q⟩
  · exact q.elim
/-! ### operators -/
/-- a + b: ints, texts, lists, tuples -/
def rAddG (K : PySem.W.Frag) : R2 := fun x y H Q => match x, y with
  | .int i, .int j => Q (.int (i + j)) H
  | .bl i, .int j => Q (.int ((if i = true then (1 : Int) else 0) + j)) H
  | .str i, .str j => i.length + j.length ≤ sizeLine ∧ Q (.str (i ++ j)) H
  | x, y => rCat x y H Q ∨ rCatT K x y H Q
theorem op_addG {X : Cx} : OpR X (binaryOp .Add) (rAddG X.K) := fun pins s σ H x y v u Q I rx ry q => by
  unfold rAddG at q
  split at q
  · exact op_add pins s σ H _ _ v u Q I rx ry ⟨_, _, rfl, rfl, q⟩
  · cases rx
    obtain ⟨t, rfl⟩ := ry
    exact IntBool.add_bool_int ⟨.int _, H, I.tok _, ⟨_, rfl⟩, q⟩
  · exact op_add_str pins s σ H _ _ v u Q I rx ry ⟨_, _, rfl, rfl, q⟩
  · rcases q with q | q
    · exact op_cat pins s σ H _ _ v u Q I rx ry q
    · exact op_catT pins s σ H _ _ v u Q I rx ry q
/-- two ints -/
def rII (C : Int → Int → Prop) (g : Int → Int → V) : R2 := fun x y H Q => match x, y with
  | .int i, .int j => C i j ∧ Q (g i j) H
  | _, _ => False
def rII0 (g : Int → Int → V) : R2 := fun x y H Q => match x, y with
  | .int i, .int j => Q (g i j) H
  | _, _ => False
theorem op_II {X : Cx} {f : Value → Value → Sem Value} {C : Int → Int → Prop} {g : Int → Int → V} (h : OpR X f (rI C g)) : OpR X f (rII C g) := op_of h fun x y H Q q => by
  unfold rII at q
  split at q
  · exact ⟨_, _, rfl, rfl, q⟩
  · exact q.elim
theorem op_II0 {X : Cx} {f : Value → Value → Sem Value} {g : Int → Int → V} (h : OpR X f (rI0 g)) : OpR X f (rII0 g) := op_of h fun x y H Q q => by
  unfold rII0 at q
  split at q
  · exact ⟨_, _, rfl, rfl, q⟩
  · exact q.elim
def rSubG : R2 := fun x y H Q => match x, y with
  | .int i, .int j => Q (.int (i - j)) H
  | .bl i, .int j => Q (.int ((if i = true then (1 : Int) else 0) - j)) H
  | _, _ => False
theorem op_subG {X : Cx} : OpR X (binaryOp .Sub) rSubG := fun pins s σ H x y v u Q I rx ry q => by
  unfold rSubG at q
  split at q
  · exact op_sub pins s σ H _ _ v u Q I rx ry ⟨_, _, rfl, rfl, q⟩
  · cases rx
    obtain ⟨t, rfl⟩ := ry
    exact IntBool.sub_bool_int ⟨.int _, H, I.tok _, ⟨_, rfl⟩, q⟩
  · exact q.elim
/-- a * b: two ints together below a million bits -/
theorem op_mulG {X : Cx} : OpR X (binaryOp .Mult) (rII CMulW fun i j => .int (i * j)) := op_II op_mulW
theorem op_fdivG {X : Cx} : OpR X (binaryOp .FloorDiv) (rII CDivW fun i j => .int (i / j)) := op_II op_fdivW
theorem op_modG {X : Cx} : OpR X (binaryOp .Mod) (rII (fun _ j => 0 < j) fun i j => .int (i % j)) := op_II op_mod
theorem op_powG {X : Cx} : OpR X (binaryOp .Pow) (rII CPow fun i j => .int (i ^ j.toNat)) := op_II op_pow
/-! ### comparisons -/
/-- a < b and its like: ints -/
theorem op_ltG {X : Cx} : OpR X (compareOp .Lt) (rII0 fun i j => .bl (decide (i < j))) := op_II0 op_lt
theorem op_leG {X : Cx} : OpR X (compareOp .LtE) (rII0 fun i j => .bl (decide (i ≤ j))) := op_II0 op_le
theorem op_gtG {X : Cx} : OpR X (compareOp .Gt) (rII0 fun i j => .bl (decide (j < i))) := op_II0 op_gt
theorem op_geG {X : Cx} : OpR X (compareOp .GtE) (rII0 fun i j => .bl (decide (j ≤ i))) := op_II0 op_ge
mutual
theorem dp_plain {K : PySem.W.Frag} {H : Hp} : ∀ {v : V} {d : PyData}, Dp K H v d → d.plain = true
  | _, _, .non => rfl
  | _, _, .bl b => rfl
  | _, _, .int i => rfl
  | _, _, .str x => rfl
  | _, _, .lst h t => by simp only [PyData.plain]; exact dps_plain t
  | _, _, .tup h t => by simp only [PyData.plain]; exact dps_plain t
theorem dps_plain {K : PySem.W.Frag} {H : Hp} : ∀ {v : List V} {d : List PyData}, DpAll K H v d → PyData.plainAll d = true
  | _, _, .nil => rfl
  | _, _, .cons h t => by simp only [PyData.plainAll, dp_plain h, dps_plain t, Bool.and_self]
end
/-- ==, != of data -/
def rEqP (K : PySem.W.Frag) : R2 := fun x y H Q => ∃ d e, Dp K H x d ∧ Dp K H y e ∧ (d.depth ≤ 60 ∨ e.depth ≤ 60) ∧ Q (.bl (PyData.eqv d e)) H
def rNeP (K : PySem.W.Frag) : R2 := fun x y H Q => ∃ d e, Dp K H x d ∧ Dp K H y e ∧ (d.depth ≤ 60 ∨ e.depth ≤ 60) ∧ Q (.bl (!PyData.eqv d e)) H
theorem op_eqP {X : Cx} (hu : X.A.units + 64 < cLine) : OpR X (compareOp .Eq) (rEqP X.K) := fun pins s σ H x y v u Q I rx ry q => by
  obtain ⟨d, e, hd, he, hm, q⟩ := q
  obtain ⟨as, r1⟩ := Dp.reads I d x v hd rx
  obtain ⟨bs, r2⟩ := Dp.reads I e y u he ry
  exact SeqAt.eq_plain r1 r2 (dp_plain hd) (dp_plain he) (by omega) ⟨.bl _, H, I, rfl, q⟩
theorem op_neP {X : Cx} (hu : X.A.units + 64 < cLine) : OpR X (compareOp .NotEq) (rNeP X.K) := fun pins s σ H x y v u Q I rx ry q => by
  obtain ⟨d, e, hd, he, hm, q⟩ := q
  obtain ⟨as, r1⟩ := Dp.reads I d x v hd rx
  obtain ⟨bs, r2⟩ := Dp.reads I e y u he ry
  exact SeqAt.ne_plain r1 r2 (dp_plain hd) (dp_plain he) (by omega) ⟨.bl _, H, I, rfl, q⟩
/-- ==, != -/
def rEqG (K : PySem.W.Frag) : R2 := fun x y H Q => match x, y with
  | .int i, .int j => Q (.bl (decide (i = j))) H
  | .str i, .str j => Q (.bl (decide (i = j))) H
  | .bl i, .bl j => Q (.bl (decide (i = j))) H
  | x, y => rEqP K x y H Q
def rNeG (K : PySem.W.Frag) : R2 := fun x y H Q => match x, y with
  | .int i, .int j => Q (.bl (!decide (i = j))) H
  | .str i, .str j => Q (.bl (!decide (i = j))) H
  | .bl i, .bl j => Q (.bl (!decide (i = j))) H
  | x, y => rNeP K x y H Q
theorem dI {i j : Int} : decide (V.int i = V.int j) = decide (i = j) := by simp
theorem dS {i j : Str} : decide (V.str i = V.str j) = decide (i = j) := by simp
theorem dB {i j : Bool} : decide (V.bl i = V.bl j) = decide (i = j) := by simp
theorem op_eqG {X : Cx} (hu : X.A.units + 64 < cLine) : OpR X (compareOp .Eq) (rEqG X.K) := fun pins s σ H x y v u Q I rx ry q => by
  unfold rEqG at q
  split at q
  · exact op_eq pins s σ H _ _ v u Q I rx ry ⟨rfl, by rw [dI]; exact q⟩
  · exact op_eq pins s σ H _ _ v u Q I rx ry ⟨rfl, by rw [dS]; exact q⟩
  · exact op_eq pins s σ H _ _ v u Q I rx ry ⟨rfl, by rw [dB]; exact q⟩
  · exact op_eqP hu pins s σ H _ _ v u Q I rx ry q
theorem op_neG {X : Cx} (hu : X.A.units + 64 < cLine) : OpR X (compareOp .NotEq) (rNeG X.K) := fun pins s σ H x y v u Q I rx ry q => by
  unfold rNeG at q
  split at q
  · exact op_ne pins s σ H _ _ v u Q I rx ry ⟨rfl, by rw [dI]; exact q⟩
  · exact op_ne pins s σ H _ _ v u Q I rx ry ⟨rfl, by rw [dS]; exact q⟩
  · exact op_ne pins s σ H _ _ v u Q I rx ry ⟨rfl, by rw [dB]; exact q⟩
  · exact op_neP hu pins s σ H _ _ v u Q I rx ry q
/-! ### tests -/
def kTest (Q : Bool → Hp → Prop) : VK := fun x H' => match x with
  | .bl k => Q k H'
  | _ => False
def tTestG (t : TE) : TT := fun σ H Q => t σ H (kTest Q)
theorem pt_cmpG {X : Cx} {op : CmpOp} {a b : Expr} {ta tb : TE} {pos : Pos} {r : R2} (ho : OpR X (compareOp op) r) (ha : PE X a ta) (hb : PE X b tb) (hm : behindInMarks op b = false) : PT X (.Compare a [op] [b] pos) (tTestG (tOp r ta tb)) := by
  refine ⟨fun pins s σ H Q I hw => ?_⟩
  refine wpAny_isTrue_Compare1 (thn (ha.run pins s σ H _ I hw) fun v s1 ⟨x, H1, I1, r1, q1⟩ => thn (hb.run pins s1 σ H1 _ I1 q1) fun u s2 ⟨y, H2, I2, r2, q2⟩ => thn (ho pins s2 σ H2 x y v u _ I2 r1 r2 q2) fun c s3 ⟨z, H3, I3, r3, q3⟩ => ?_) hm
  cases z with
  | bl k =>
    cases r3
    exact wpAny_truthy_bool ⟨H3, I3, q3⟩
  | _ => exact (show False from q3).elim
/-- a < b < c -/
def kChain (r' : R2) (tc : TE) (σ : L2.St) (y : V) (Q : VK) : VK := fun z H3 => match z with
  | .bl k => if k = true then tc σ H3 fun w' H4 => r' y w' H4 Q else Q (.bl false) H3
  | _ => False
def tChainG (r r' : R2) (ta tb tc : TE) : TE := fun σ H Q => ta σ H fun x H1 => tb σ H1 fun y H2 => r x y H2 (kChain r' tc σ y Q)
end Tc

/-! Further rules; data as values of Lean. -/
namespace Tc
open PySem PySem.Spec PyProof.Rows L2
section
variable {X : Cx} {a b c e : Expr} {ta tb tc te : TE} {pos : Pos}
variable {rest : List Expr}
/-! ### subscripts -/
/-- a list or a tuple -/
def Sq (K : PySem.W.Frag) (H : Hp) (p : Addr) (xs : List V) : Prop := SqL K H p xs ∨ SqT K H p xs
def rIxG (K : PySem.W.Frag) : R2 := fun x y H Q => match x, y with
  | .str z, .int i => z.length ≤ sizeLine ∧ ∃ c, atI z.cps.toList i = some c ∧ Q (.str ⟨#[c]⟩) H
  | .ref p, .int i => ∃ xs v, Sq K H p xs ∧ atI xs i = some v ∧ Q v H
  | _, _ => False
theorem ix_G : IxR X (rIxG X.K) := by
  intro value slice pins s σ H x y v u Q I rx ry h hs
  unfold rIxG at h
  split at h
  · obtain ⟨h1, c, h2, q⟩ := h
    exact ix_seq value slice pins s σ H _ _ v u Q I rx ry (.inr (.inr ⟨_, _, c, rfl, rfl, h1, h2, q⟩)) hs
  · obtain ⟨xs, w, h1 | h1, h2, q⟩ := h
    · exact ix_seq value slice pins s σ H _ _ v u Q I rx ry (.inl ⟨_, xs, _, w, rfl, rfl, h1, h2, q⟩) hs
    · exact ix_seq value slice pins s σ H _ _ v u Q I rx ry (.inr (.inl ⟨_, xs, _, w, rfl, rfl, h1, h2, q⟩)) hs
  · exact h.elim
def rLenG (K : PySem.W.Frag) : List V → Hp → VK → Prop := fun xs H Q => match xs with
  | [.str z] => z.length ≤ sizeLine ∧ Q (.int (z.length : Nat)) H
  | [.ref p] => ∃ xs, Sq K H p xs ∧ Q (.int (xs.length : Nat)) H
  | _ => False
theorem call_of {f : Value} {r u : List V → Hp → VK → Prop} (h : CallR X f r) (k : ∀ xs H Q, u xs H Q → r xs H Q) : CallR X f u := fun pins s σ H xs us Q I rs q => h pins s σ H xs us Q I rs (k xs H Q q)
theorem call_lenG : CallR X (.builtin "len") (rLenG X.K) := call_of call_len fun xs H Q q => by
  unfold rLenG at q
  split at q
  · exact ⟨_, _, rfl, ⟨q.1, rfl⟩, q.2⟩
  · obtain ⟨xs, h | h, q⟩ := q
    · exact ⟨_, _, rfl, .inl ⟨xs, h, rfl⟩, q⟩
    · exact ⟨_, _, rfl, .inr ⟨xs, h, rfl⟩, q⟩
  · exact q.elim
end
/-! ### data -/
mutual
/-- v is the datum d: lists stand tracked -/
inductive DV (K : PySem.W.Frag) (H : Hp) : V → PyData → Prop
  | non : DV K H .non .none
  | bl (b : Bool) : DV K H (.bl b) (.bool b)
  | int (i : Int) : DV K H (.int i) (.int i)
  | str (x : Str) : DV K H (.str x) (.str x)
  | lst {a : Addr} {xs : List V} {ds : List PyData} : H a = some (.lst xs) → DVs K H xs ds → DV K H (.ref a) (.list ds)
  | tup {a : Addr} {xs : List V} {ds : List PyData} : SqT K H a xs → DVs K H xs ds → DV K H (.ref a) (.tuple ds)
inductive DVs (K : PySem.W.Frag) (H : Hp) : List V → List PyData → Prop
  | nil : DVs K H [] []
  | cons {v : V} {vs : List V} {d : PyData} {ds : List PyData} : DV K H v d → DVs K H vs ds → DVs K H (v :: vs) (d :: ds)
end
theorem same_tup {K : PySem.W.Frag} {H H' : Hp} {a : Addr} {xs : List V} (e : Same H H') (h : SqT K H a xs) : SqT K H' a xs := by
  rcases h with (h | ⟨o, h⟩) | h
  · exact .inl (.inl (e _ _ h))
  · exact .inl (.inr ⟨o, e _ _ h⟩)
  · exact .inr h
theorem same_upd {H : Hp} {p : Addr} {o : HO} (h : H p = none) : Same H (upd H p o) := fun b x e => by
  rw [upd_ne (ne_of_none e h)]
  exact e
mutual
theorem DV.dp {K : PySem.W.Frag} {H : Hp} : ∀ {v : V} {d : PyData}, DV K H v d → Dp K H v d
  | _, _, .non => .non
  | _, _, .bl b => .bl b
  | _, _, .int i => .int i
  | _, _, .str x => .str x
  | _, _, .lst h t => .lst (SqL.of h) (DVs.dp t)
  | _, _, .tup h t => .tup h (DVs.dp t)
theorem DVs.dp {K : PySem.W.Frag} {H : Hp} : ∀ {v : List V} {d : List PyData}, DVs K H v d → DpAll K H v d
  | _, _, .nil => .nil
  | _, _, .cons h t => .cons (DV.dp h) (DVs.dp t)
end
mutual
theorem DV.same {K : PySem.W.Frag} {H H' : Hp} (e : Same H H') : ∀ {v : V} {d : PyData}, DV K H v d → DV K H' v d
  | _, _, .non => .non
  | _, _, .bl b => .bl b
  | _, _, .int i => .int i
  | _, _, .str x => .str x
  | _, _, .lst h t => .lst (e _ _ h) (DVs.same e t)
  | _, _, .tup h t => .tup (same_tup e h) (DVs.same e t)
theorem DVs.same {K : PySem.W.Frag} {H H' : Hp} (e : Same H H') : ∀ {v : List V} {d : List PyData}, DVs K H v d → DVs K H' v d
  | _, _, .nil => .nil
  | _, _, .cons h t => .cons (DV.same e h) (DVs.same e t)
end
theorem DVs.length {K : PySem.W.Frag} {H : Hp} : ∀ {v : List V} {d : List PyData}, DVs K H v d → v.length = d.length
  | _, _, .nil => rfl
  | _, _, .cons _ t => congrArg (· + 1) (DVs.length t)
theorem DVs.get {K : PySem.W.Frag} {H : Hp} : ∀ {v : List V} {d : List PyData} {i : Nat} {x : V}, DVs K H v d → v[i]? = some x → ∃ y, d[i]? = some y ∧ DV K H x y
  | _, _, _, _, .nil, e => by simp at e
  | _, _, 0, x, .cons (d := d) h t, e => ⟨d, rfl, by cases e; exact h⟩
  | _, _, i + 1, x, .cons h t, e => DVs.get (i := i) t (by simpa using e)
theorem DVs.get' {K : PySem.W.Frag} {H : Hp} : ∀ {v : List V} {d : List PyData} {i : Nat} {y : PyData}, DVs K H v d → d[i]? = some y → ∃ x, v[i]? = some x ∧ DV K H x y
  | _, _, _, _, .nil, e => by simp at e
  | v :: _, _, 0, x, .cons h t, e => ⟨v, rfl, by cases e; exact h⟩
  | _, _, i + 1, x, .cons h t, e => DVs.get' (i := i) t (by simpa using e)
theorem DVs.append {K : PySem.W.Frag} {H : Hp} : ∀ {v w : List V} {d e : List PyData}, DVs K H v d → DVs K H w e → DVs K H (v ++ w) (d ++ e)
  | _, _, _, _, .nil, h => h
  | _, _, _, _, .cons h t, h2 => .cons h (DVs.append t h2)
theorem DVs.take {K : PySem.W.Frag} {H : Hp} : ∀ {v : List V} {d : List PyData} (n : Nat), DVs K H v d → DVs K H (v.take n) (d.take n)
  | _, _, 0, _ => .nil
  | _, _, _ + 1, .nil => .nil
  | _, _, n + 1, .cons h t => .cons h (DVs.take n t)
theorem DVs.drop {K : PySem.W.Frag} {H : Hp} : ∀ {v : List V} {d : List PyData} (n : Nat), DVs K H v d → DVs K H (v.drop n) (d.drop n)
  | _, _, 0, h => h
  | _, _, _ + 1, .nil => .nil
  | _, _, n + 1, .cons h t => DVs.drop n t
theorem DVs.set {K : PySem.W.Frag} {H : Hp} : ∀ {v : List V} {d : List PyData} (n : Nat) {x : V} {y : PyData}, DVs K H v d → DV K H x y → DVs K H (v.set n x) (d.set n y)
  | _, _, _, _, _, .nil, _ => .nil
  | _, _, 0, _, _, .cons h t, q => .cons q t
  | _, _, n + 1, _, _, .cons h t, q => .cons h (DVs.set n t q)
/-- the kinds that are asked -/
inductive Ty where
  | int | bool | str | tuple | list
def Ty.name : Ty → String
  | .int => "int"
  | .bool => "bool"
  | .str => "str"
  | .tuple => "tuple"
  | .list => "list"
theorem DVs.two {K : PySem.W.Frag} {H : Hp} {v : List V} {d : List PyData} (h : DVs K H v d) (n : v.length = 2) : ∃ x y a b, v = [x, y] ∧ d = [a, b] ∧ DV K H x a ∧ DV K H y b := by
  match v, d, h, n with
  | [x, y], [a, b], .cons h1 (.cons h2 .nil), _ => exact ⟨x, y, a, b, rfl, rfl, h1, h2⟩
end Tc

/-! set(list of ints), sorted(set), at any size below 4,000. -/
namespace Tc
open PySem PySem.Spec PyProof.Rows L2
section
variable {P : Program} {w : World} {A : Around} {E : Value → Shared → Prop} {s : Shared}
/-- the object of a fresh set -/
abbrev set0 (w : World) : Obj := { cls := .type "set", dict := none, data := .set #[] 0 (.fresh 0 0 (!w.params.followText "set-order")) }
/-- what set.__init__ leaves of the new set at z -/
def Filled (w : World) (z : Addr) (ms : List Int) (g g' : Heap) : Prop := ∃ c, c ≤ ms.length ∧ SetR w g' z (fun j => decide (j ∈ ms)) c ∧ ∀ b o, b ≠ z → g.get? b = some o → g'.get? b = some o
set_option maxHeartbeats 3200000 in
theorem set_fill {q z : Addr} {vals : Array Value} {ms : List Int} {R : Result → Shared → Prop} (nh : A.handled = none) (hz : s.heap.get? z = some (set0 w)) (hq : s.heap.IsList q vals) (iv : IntsAre vals.toList ms) (few : ms.length + 1 < scanBound)
    (done : ∀ (g' : Heap) (tk : Nat), Filled w z ms s.heap g' → R (.ok (.ret .none)) { s with heap := g', toks := tk }) :
    codeAny (model P w) A (.call (.builtin "set.__init__") ⟨[.ref z, .ref q], []⟩) R s := by
  have ty : s.TypeIs (.ref z) "set" := ⟨_, hz, rfl⟩
  refine codeAny_mono (codeAny_call_builtin (R := fun r t => r = .ok (.ret .none) ∧ ∃ g' tk, t = { s with heap := g', toks := tk } ∧ Filled w z ms s.heap g') (PySem.F.called_set.init.plain) PySem.F.entry_set_init (check_set_init_1 ty ?_)) fun r t ⟨e1, g', tk, e2, f⟩ => by
    subst e1; subst e2; exact done g' tk f
  have len : vals.size = ms.length := by simpa using IntsAre.length iv
  obtain ⟨⟨k1, k2, k3, k4⟩, hk, c1, m, c2⟩ := hq
  dsimp only at c1 c2
  subst c1; subst c2
  have il : s.heap.IsList q vals := ⟨_, hk, rfl, m, rfl⟩
  have n1 := PySem.F.sub_list_set
  have n2 := PySem.F.sub_list_frozenset
  have n3 : (Value.type "list" == Value.type "dict") = false := by decide
  unfold Builtin.«set.__init__» noKeywords Builtin.Frozenset.updateFrom
  generalize hit : pyIter = it
  wp_walk
  subst hit
  refine wpAny_pyIter_list il ?_
  refine wpAny_bind (wpAny_runValue ?_)
  have qlt : q < s.heap.objs.size := Heap.lt_size hk
  have zlt : z < s.heap.objs.size := Heap.lt_size hz
  have zq : z ≠ q := fun e => by
    rw [e, hk] at hz
    exact absurd (congrArg Obj.cls (Option.some.inj hz)) (show ¬ (Value.type "list" = Value.type "set") by decide)
  have nh3 : A.in1.in1.handled = none := by simp [nh]
  have vs : ∀ (i : Nat) (v : Value), vals[i]? = some v → ∃ k t, ms[i]? = some k ∧ v = .int k t := fun i v e => by
    have lt : i < ms.length := by rw [← len]; exact (Array.getElem?_eq_some_iff.mp e).1
    obtain ⟨t, e2⟩ := PyProof.Rows.IntsAre.int_at iv i v (by rw [Array.getElem?_toList]; exact e)
    exact ⟨ms[i], t, List.getElem?_eq_getElem lt, by rw [e2, List.getD_eq_getElem?_getD, List.getElem?_eq_getElem lt]; rfl⟩
  refine set_update_ints ((Walks.list nh3 _ q (Nat.ne_of_lt qlt) vals).toS) z (by simp only [List.mem_cons, List.not_mem_nil, or_false, not_or]; exact ⟨Nat.ne_of_lt zlt, zq⟩) ms len few vs _ 0 _ rfl (Nat.zero_le _)
    ⟨⟨_, Heap.get?_push_size _ rfl, rfl, rfl⟩, il.push _⟩ ⟨0, Nat.le_refl 0, setR_new_at (Heap.get?_push_of_some _ hz)⟩ ?_
  rintro ⟨g', ge, dr, tk, os⟩ c mv cle R'
  have e1 : ge = s.gens := mv.gens
  have e2 : dr = s.drawn := mv.drawn
  have e3 : os = s.os := mv.os
  subst e1; subst e2; subst e3
  show wpAny _ _ _ _ _ _
  refine wpAny_pure ?_
  show wpAny _ _ (ret Value.none) _ _ _
  refine wpAny_pure ⟨rfl, g', tk, rfl, c, by omega, R', fun b o nb e => mv.heap b o ?_ (Heap.get?_push_of_some _ e)⟩
  simp only [List.mem_cons, List.not_mem_nil, or_false, not_or]
  exact ⟨nb, Nat.ne_of_lt (Heap.lt_size e)⟩
set_option maxHeartbeats 3200000 in
theorem call_set_lst {q : Addr} {vals : Array Value} {ms : List Int} {Q : Value → Shared → Prop} (nh : A.handled = none) (hq : s.heap.IsList q vals) (iv : IntsAre vals.toList ms) (few : ms.length + 1 < scanBound)
    (done : ∀ (g' : Heap) (tk c : Nat), c ≤ ms.length → SetR w g' s.heap.objs.size (fun j => decide (j ∈ ms)) c → (∀ b o, s.heap.get? b = some o → g'.get? b = some o) → Q (.ref s.heap.objs.size) { s with heap := g', toks := tk }) :
    wpAny (model P w) A (call (.type "set") [.ref q]) Q E s := by
  obtain ⟨c, tl, m1⟩ := PySem.F.called_set.mro
  have m2 := PySem.F.called_set.made
  have m3 := PySem.F.called_set.sub
  have m4 := PySem.F.called_set.notType
  have m5 := PySem.F.called_set.canCreate
  have m6 := PySem.F.typeCall_set_1 (.ref q)
  refine wpAny_call (codeAny_of_tree ?_)
  show wpAny _ _ (callAny (.type "set") _) _ _ _
  refine wpAny_pure ⟨Code.quiet_builtin _ (by decide +kernel), codeAny_builtin PySem.F.entry_type_call ?_⟩
  rw [Around.under_plain (weight_type_call_type "set" [.ref q] []) rfl]
  repeat (any_goals (first | assumption | wp_step))
  refine codeAny_mono (code_set_led1 (.ref q) (E := E) (Q₁ := fun obj t => obj = .ref s.heap.objs.size ∧ t = { s with heap := s.heap.push (set0 w) }) ⟨rfl, rfl⟩) fun r t hr => ?_
  match r, hr with
  | .ok (.ret obj), hr =>
    obtain ⟨rfl, rfl⟩ := hr
    have hz : (s.heap.push (set0 w)).get? s.heap.objs.size = some (set0 w) := Heap.get?_push_size _ rfl
    have ty : Shared.TypeIs { s with heap := s.heap.push (set0 w) } (.ref s.heap.objs.size) "set" := ⟨_, hz, rfl⟩
    have b1 := PySem.F.called_set.init.lookup
    have b2 := PySem.F.called_set.init.bind (.ref s.heap.objs.size)
    repeat (any_goals (first | assumption | wp_step))
    refine codeAny_mono (set_fill (s := { s with heap := s.heap.push (set0 w) }) (R := wants (fun r t => r = .none ∧ ∃ g' tk, t = { s with heap := g', toks := tk } ∧ Filled w s.heap.objs.size ms (s.heap.push (set0 w)) g') E)
      (by simp [nh]) hz (hq.push _) iv few fun g' tk f => ⟨rfl, g', tk, rfl, f⟩) fun r t hr => ?_
    match r, hr with
    | .ok (.ret v), hr =>
      obtain ⟨rfl, g', tk, rfl, c', cle, R', k⟩ := hr
      repeat (any_goals (first | assumption | wp_step))
      exact done g' tk c' cle R' fun b o e => k b o (Nat.ne_of_lt (Heap.lt_size e)) (Heap.get?_push_of_some _ e)
    | .error e, hr => exact hr
    | .ok .next, hr => exact hr.elim
    | .ok .brk, hr => exact hr.elim
    | .ok .cont, hr => exact hr.elim
  | .error e, hr => exact hr
  | .ok .next, hr => exact hr.elim
  | .ok .brk, hr => exact hr.elim
  | .ok .cont, hr => exact hr.elim
/-- sorted(a set), of any size -/
theorem sorted_setW {a : Addr} {S : Int → Bool} {n : Nat} {Q : Value → Shared → Prop} (R : SetR w s.heap a S n) (nh : A.handled = none)
    (done : ∀ t p (out : Array Value) (c : Nat) (ks : List Int), (∀ b o, s.heap.get? b = some o → t.heap.get? b = some o) → t.gens = s.gens → t.os = s.os → s.heap.objs.size ≤ p →
      t.heap.get? p = some (seqObj "list" out c) → IntsAre out.toList ks → ks.Pairwise (· < ·) → (∀ k, k ∈ ks ↔ S k = true) → ks.length = n ∧ ks.length ≤ scanBound → Q (.ref p) t) :
    wpAny (model P w) A (call (.builtin "sorted") [.ref a]) Q E s := by
  obtain ⟨o, es, ep, t, ho, hx, hd, g, nd, hm, hb, hf, hn, hr, hl⟩ := R
  refine Calls.call_function_entry kind_sorted plain_sorted entry_sorted (args_sorted1 _) ?_
  unfold Builtin.«sorted»
  refine wpAny_bind (m := checkCount "sorted" 1 1 _) (wpAny_pure ?_)
  refine wpAny_bind (collect_set (A := A.in1) nh ⟨o, ho, hx.1, hd⟩ hf hb hr hl fun s1 vs k1 hz g1 o1 pm => ?_)
  have size : es.size < scanBound := hb
  have vlen : vs.length = es.size := by rw [pm.length_eq, List.length_map, Array.length_toList]
  have line : vs.length ≤ sizeLine := by rw [vlen, sizeLine_eq]; unfold scanBound at size; omega
  have iv : IntsAre vs (vs.map Builtin.Re.reRawOf) := ints_of vs fun v hv => by
    obtain ⟨e, he, q⟩ := List.mem_map.mp (pm.mem_iff.mp hv)
    obtain ⟨k, tk, h1, _⟩ := g e he
    exact ⟨k, tk, q.symm.trans h1⟩
  have pk : (vs.map Builtin.Re.reRawOf).Perm (es.toList.map keyOf) := by
    have q := pm.map Builtin.Re.reRawOf
    rw [List.map_map] at q
    exact q
  refine wpAny_bind (wpAny_newList ?_ line)
  have ho1 : (s1.heap.push (seqObj "list" vs.toArray 0)).get? s1.heap.objs.size = some (seqObj "list" vs.toArray 0) := Heap.get?_push_size _ rfl
  refine wpAny_bind (wpAny_holding (wpAny_call_entry slot_list_sort ⟨_, ho1, rfl⟩ entry_list_sort (SrtO.list_sort_ord SrtO.swo_int ho1 line (fun h2 => SrtO.ints_sortable iv h2) fun out h1 h2 => ⟨_, rfl, ?_⟩) (args_list_sort _)))
  obtain ⟨a1, a2, a3⟩ := SrtO.ints_out iv h1 h2
  obtain ⟨c, hc⟩ := sortedHeap_at (vs := vs) (out := out.toArray) ho1
  have pn := a2.trans pk
  refine wpAny_pure ⟨_, rfl, done _ s1.heap.objs.size out.toArray c (out.map SrtO.iv) (fun b u e => ?_) g1 o1 hz hc a1 (lt_of_le_nodup _ a3 (pn.nodup_iff.mpr nd)) (fun k => by rw [pn.mem_iff, ← hm k]) ?_⟩
  · have q := k1 b u e
    have lt := Heap.lt_size q
    show (sortedHeap (s1.heap.push (seqObj "list" vs.toArray 0)) s1.heap.objs.size vs out.toArray).get? b = some u
    rw [sortedHeap_old (Nat.ne_of_lt lt) (by rw [size_push']; exact Nat.lt_succ_of_lt lt)]
    exact Heap.get?_push_of_some _ q
  · rw [pn.length_eq, List.length_map, Array.length_toList]
    exact ⟨hn, Nat.le_of_lt size⟩
end
section
variable {X : Cx}
/-- set(a list of ints) -/
def rSetG (K : PySem.W.Frag) (w : World) : List V → Hp → VK → Prop := fun xs H Q => ∃ (l : Addr) (ms : List Int), xs = [.ref l] ∧ SqL K H l (ms.map V.int) ∧ ms.length ≤ 4000 ∧ ∀ p c, c ≤ ms.length → H p = none → Q (.ref p) (upd H p (SetO w p (fun j => decide (j ∈ ms)) c))
theorem call_setG (hc : X.calm = true) : CallR X (.type "set") (rSetG X.K X.w) := by
  intro pins s σ H xs us Q I r h
  obtain ⟨l, ms, rfl, hl, few, q⟩ := h
  rw [Vals.ref1 r]
  obtain ⟨its, rv, pl, hz⟩ := I.list hl
  have n := I.hok.fresh (Nat.le_refl _)
  exact call_set_lst (I.ok.hd hc) pl.isList rv.ints (by unfold scanBound; omega) fun g' tk c cle R k =>
    ⟨.ref s.heap.objs.size, upd H s.heap.objs.size (SetO X.w s.heap.objs.size (fun j => decide (j ∈ ms)) c), I.laid (t' := tk) k (Nat.le_refl _) (setO_new R), rfl, q _ c cle n⟩
/-- sorted(a set of ints) -/
def rSortSet (w : World) : List V → Hp → VK → Prop := fun vs H Q => ∃ (a : Addr) (S : Int → Bool) (n : Nat), vs = [V.ref a] ∧ H a = some (SetO w a S n) ∧
  ∀ (ks : List Int) (p : Addr), ks.Pairwise (· < ·) → (∀ k : Int, k ∈ ks ↔ S k = true) → ks.length = n → H p = none → Q (.ref p) (upd H p (.lst (ks.map V.int)))
theorem call_sortSet (hc : X.calm = true) : CallR X (.builtin "sorted") (rSortSet X.w) := by
  intro pins s σ H vs us Q I r h
  obtain ⟨a, S, n, rfl, ha, q⟩ := h
  have R := setO_get I ha
  rw [Vals.ref1 r]
  refine sorted_setW R (I.ok.hd hc) fun s' p out c ks k g o hp hg hi hs hm hl => ?_
  have line : (ks.map V.int).length ≤ sizeLine := by rw [List.length_map, sizeLine_eq]; have hl := hl.2; unfold scanBound at hl; omega
  have n := I.hok.fresh hp
  have J : Inv X pins σ (upd H p (.lst (ks.map V.int))) { s with heap := s'.heap, gens := s'.gens, drawn := s'.drawn, toks := s'.toks } :=
    I.call (ch := []) (Un.laid k hp n) (I.hok.laid k hp ⟨line, out.toList, c, vals_of_ints hi, hg⟩) (by rw [g]; exact I.bare) (fun _ z => nomatch z)
  have e : s' = { s with heap := s'.heap, gens := s'.gens, drawn := s'.drawn, toks := s'.toks } := by
    cases s'; cases s; cases o; rfl
  rw [e]
  exact ⟨.ref p, _, J, rfl, q ks p hs hm hl.1 n⟩
/-- sorted: of a list of ints, of a set of ints -/
theorem call_or {f : Value} {r u : List V → Hp → VK → Prop} (h : CallR X f r) (h' : CallR X f u) : CallR X f (fun xs H Q => r xs H Q ∨ u xs H Q) := fun pins s σ H xs us Q I rs q =>
  q.elim (h pins s σ H xs us Q I rs) (h' pins s σ H xs us Q I rs)
end
end Tc

namespace Tc
open PySem PySem.Spec PyProof.Rows L2
/-! ### the built-ins' names -/
theorem boot_len : bootBuiltins "len" = some (.builtin "len") := by decide +kernel
theorem boot_abs : bootBuiltins "abs" = some (.builtin "abs") := by decide +kernel
theorem boot_min : bootBuiltins "min" = some (.builtin "min") := by decide +kernel
theorem boot_sorted : bootBuiltins "sorted" = some (.builtin "sorted") := by decide +kernel
theorem boot_tuple : bootBuiltins "tuple" = some (.type "tuple") := by decide +kernel
theorem boot_list : bootBuiltins "list" = some (.type "list") := by decide +kernel
theorem boot_dict : bootBuiltins "dict" = some (.type "dict") := by decide +kernel
theorem boot_set : bootBuiltins "set" = some (.type "set") := by decide +kernel
section
variable {X : Cx}
/-! ### slices -/
/-- x[lo:hi] of a text, a list, a tuple (the whole of a tuple is the tuple itself) -/
def rSlG (K : PySem.W.Frag) : V → Option Int → Option Int → Hp → VK → Prop := fun x lo hi H Q => match x with
  | .str z => z.length ≤ sizeLine ∧ Q (.str (cutS z lo hi)) H
  | .ref p => (∃ xs, SqL K H p xs ∧ ∀ q, H q = none → Q (.ref q) (upd H q (.lst (cutV xs lo hi)))) ∨
      ∃ xs, SqT K H p xs ∧ (cutV xs lo hi = xs → Q (.ref p) H) ∧ ∀ q, H q = none → Q (.ref q) (upd H q (.tup (cutV xs lo hi)))
  | _ => False
theorem cut_whole {xs : List V} {lo hi : Option Int} (h : HT.sIx xs.length 0 lo = 0 ∧ HT.sIx xs.length xs.length hi = xs.length) : cutV xs lo hi = xs := by
  unfold cutV
  rw [h.1, h.2]
  simp
theorem sl_G : SlR X (rSlG X.K) := by
  intro pins s σ H x v vl vu lo hi sl Q I rx hs pl pu q
  unfold rSlG at q
  split at q
  · exact sl_str pins s σ H _ v vl vu lo hi sl Q I rx hs pl pu ⟨_, rfl, q⟩
  · rcases q with ⟨xs, h, q⟩ | ⟨xs, h, q1, q2⟩
    · exact sl_list pins s σ H _ v vl vu lo hi sl Q I rx hs pl pu ⟨_, xs, rfl, h, q⟩
    · exact sl_tupA pins s σ H _ v vl vu lo hi sl Q I rx hs pl pu ⟨_, xs, rfl, h, fun w => q1 (cut_whole w), fun _ => q2⟩
  · exact q.elim
/-! ### calls -/
def rAbsG : List V → Hp → VK → Prop := fun xs H Q => match xs with
  | [.int i] => Q (.int (if i < 0 then -i else i)) H
  | _ => False
theorem call_absG : CallR X (.builtin "abs") rAbsG := call_of call_abs fun xs H Q q => by
  unfold rAbsG at q
  split at q
  · exact ⟨_, rfl, q⟩
  · exact q.elim
def rMinG : List V → Hp → VK → Prop := fun xs H Q => match xs with
  | [.int i, .int j] => Q (.int (if j < i then j else i)) H
  | _ => False
theorem call_min2G (hc : X.calm = true) : CallR X (.builtin "min") rMinG := call_of (call_min2 hc) fun xs H Q q => by
  unfold rMinG at q
  split at q
  · exact ⟨_, _, rfl, q⟩
  · exact q.elim
def rListG (K : PySem.W.Frag) : List V → Hp → VK → Prop := fun xs H Q => match xs with
  | [.ref p] => ∃ ys, Sq K H p ys ∧ ∀ l, H l = none → Q (.ref l) (upd H l (.lst ys))
  | _ => False
theorem call_listG : CallR X (.type "list") (rListG X.K) := call_of call_list_of fun xs H Q q => by
  unfold rListG at q
  split at q
  · obtain ⟨ys, h, q⟩ := q
    exact ⟨_, ys, rfl, h, q⟩
  · exact q.elim
/-! ### what is walked -/
end
end Tc

namespace Tc
open PySem PySem.Spec PyProof.Rows L2
section
variable {X : Cx} {tg l : Expr} {tl : TE}
/-- G speaks of the object at a alone -/
def At (H1 : Hp) (a : Addr) (G : Hp → Prop) : Prop := ∀ H, (∀ o, H1 a = some o → H a = some o) → G H
end
section
end
section
/-! ### the same rules, the written part named (for what stands within a comprehension) -/
variable {X : Cx} {K : PySem.W.Frag}
theorem addK (h : X.K = K := by rfl) : OpR X (binaryOp .Add) (rAddG K) := h ▸ op_addG
def kPart (Q : Option Int → Hp → Prop) : VK := fun x H1 => match x with
  | .int i => Q (some i) H1
  | _ => False
theorem po_G {e : Expr} {te : TE} (h : PE X e te) : PO X (some e) (fun σ H Q => te σ H (kPart Q)) := by
  refine ⟨fun pins s σ H Q I hw => ?_⟩
  rw [evalPart_some]
  refine thn (h.run pins s σ H _ I hw) fun u s1 ⟨x, H1, I1, r1, q1⟩ => ?_
  cases x with
  | int i =>
    obtain ⟨t, rfl⟩ := r1
    exact ⟨some i, H1, I1, .int i t, q1⟩
  | _ => exact (show False from q1).elim
end
end Tc

/-! What the laws' and the program's small defs promise: data told, draws. -/
namespace Tc
open PySem PySem.Spec PyProof.Rows L2
/-! ### the draws' state -/
def Bag (H : Hp) (b : Addr) : Prop := ∃ x y : Int, H b = some (.lst [.int x, .int y]) ∧ 0 ≤ y ∧ y < 4294967296
/-- all but b stays, new things may have come; b is a draws' state -/
def Gr (b : Addr) (H H' : Hp) : Prop := Bag H' b ∧ ∀ a o, a ≠ b → H a = some o → H' a = some o
theorem Gr.refl {b : Addr} {H : Hp} (h : Bag H b) : Gr b H H := ⟨h, fun _ _ _ e => e⟩
theorem Gr.trans {b : Addr} {H H1 H2 : Hp} (x : Gr b H H1) (y : Gr b H1 H2) : Gr b H H2 := ⟨y.1, fun a o n e => y.2 a o n (x.2 a o n e)⟩
/-- the heap without b -/
def off (b : Addr) (H : Hp) : Hp := fun a => if a = b then none else H a
theorem off_ne {b a : Addr} {H : Hp} (h : a ≠ b) : off b H a = H a := if_neg h
theorem off_same {b : Addr} {H : Hp} : Same (off b H) H := fun a o e => by
  unfold off at e
  split at e
  · cases e
  · exact e
theorem off_some {b a : Addr} {H : Hp} {o : HO} (e : off b H a = some o) : a ≠ b ∧ H a = some o := by
  unfold off at e
  split at e
  · cases e
  · exact ⟨by assumption, e⟩
theorem off_mk {b a : Addr} {H : Hp} {o : HO} (n : a ≠ b) (e : H a = some o) : off b H a = some o := (off_ne n).trans e
theorem Gr.same {b : Addr} {H H' : Hp} (g : Gr b H H') : Same (off b H) (off b H') := fun a o e => by
  obtain ⟨n, e⟩ := off_some e
  exact off_mk n (g.2 a o n e)
theorem Bag.new {b p : Addr} {H : Hp} {o : HO} (h : Bag H b) (hp : H p = none) : Bag (upd H p o) b := by
  obtain ⟨x, y, e, r⟩ := h
  exact ⟨x, y, by rw [upd_ne (ne_of_none e hp)]; exact e, r⟩
theorem Bag.ne {b p : Addr} {H : Hp} (h : Bag H b) (hp : H p = none) : p ≠ b := by
  obtain ⟨x, y, e, r⟩ := h
  exact (ne_of_none e hp).symm
theorem Gr.new {b p : Addr} {H : Hp} {o : HO} (h : Bag H b) (hp : H p = none) : Gr b H (upd H p o) := ⟨h.new hp, fun a u n e => by rw [upd_ne (ne_of_none e hp)]; exact e⟩
theorem Gr.free {b p : Addr} {H H' : Hp} (g : Gr b H H') (h : Bag H b) (hp : H' p = none) : H p = none := by
  cases e : H p with
  | none => rfl
  | some o =>
    have n : p ≠ b := fun z => by
      subst z
      obtain ⟨x, y, e2, _⟩ := g.1
      rw [hp] at e2; cases e2
    rw [g.2 p o n e] at hp; cases hp
/-- a change of an object that was not there in H0 -/
theorem Gr.put {b p : Addr} {H0 H : Hp} {o : HO} (g : Gr b H0 H) (n : p ≠ b) (hp : H0 p = none) : Gr b H0 (upd H p o) := by
  refine ⟨?_, fun a u na e => ?_⟩
  · obtain ⟨x, y, e, r⟩ := g.1
    exact ⟨x, y, by rw [upd_ne n.symm]; exact e, r⟩
  · have np : a ≠ p := fun z => by rw [z, hp] at e; cases e
    rw [upd_ne np]
    exact g.2 a u na e
/-- a datum that stands apart from b -/
abbrev Dat (K : PySem.W.Frag) (b : Addr) (H : Hp) (v : V) (d : PyData) : Prop := DV K (off b H) v d
abbrev Dats (K : PySem.W.Frag) (b : Addr) (H : Hp) (v : List V) (d : List PyData) : Prop := DVs K (off b H) v d
theorem Dat.dv {K : PySem.W.Frag} {b : Addr} {H : Hp} {v : V} {d : PyData} (h : Dat K b H v d) : DV K H v d := DV.same off_same h
theorem Dats.dv {K : PySem.W.Frag} {b : Addr} {H : Hp} {v : List V} {d : List PyData} (h : Dats K b H v d) : DVs K H v d := DVs.same off_same h
theorem Dat.gr {K : PySem.W.Frag} {b : Addr} {H H' : Hp} {v : V} {d : PyData} (h : Dat K b H v d) (g : Gr b H H') : Dat K b H' v d := DV.same g.same h
theorem Dats.gr {K : PySem.W.Frag} {b : Addr} {H H' : Hp} {v : List V} {d : List PyData} (h : Dats K b H v d) (g : Gr b H H') : Dats K b H' v d := DVs.same g.same h
/-! ### the kinds of data -/
theorem DV.ints2 {K : PySem.W.Frag} {H : Hp} {v : V} {k w : Int} (h : DV K H v (.tuple [.int k, .int w])) : ∃ p, v = .ref p ∧ SqT K H p [.int k, .int w] := by
  cases h with
  | tup hs ha =>
    cases ha with
    | cons h1 h2 =>
      cases h1
      cases h2 with
      | cons h1 h2 =>
        cases h1
        cases h2
        exact ⟨_, rfl, hs⟩
theorem line_lt {n : Nat} (h : n ≤ 100000) : n < sizeLine := by rw [sizeLine_eq]; omega
theorem line_le {n : Nat} (h : n ≤ 100000) : n ≤ sizeLine := by rw [sizeLine_eq]; omega
theorem rising_one : ∀ {a b : List Int}, a.Pairwise (· < ·) → b.Pairwise (· < ·) → (∀ k, k ∈ a ↔ k ∈ b) → a = b
  | [], [], _, _, _ => rfl
  | [], y :: b, _, _, h => absurd ((h y).mpr List.mem_cons_self) (by simp)
  | x :: a, [], _, _, h => absurd ((h x).mp List.mem_cons_self) (by simp)
  | x :: a, y :: b, pa, pb, h => by
    obtain ⟨a1, a2⟩ := List.pairwise_cons.mp pa
    obtain ⟨b1, b2⟩ := List.pairwise_cons.mp pb
    have e : x = y := by
      rcases List.mem_cons.mp ((h x).mp List.mem_cons_self) with e | e
      · exact e
      · rcases List.mem_cons.mp ((h y).mpr List.mem_cons_self) with e2 | e2
        · exact e2.symm
        · have := b1 x e
          have := a1 y e2
          omega
    subst e
    have t := rising_one a2 b2 fun k => by
      constructor
      · intro hk
        rcases List.mem_cons.mp ((h k).mp (List.mem_cons_of_mem _ hk)) with e | e
        · have := a1 k hk
          omega
        · exact e
      · intro hk
        rcases List.mem_cons.mp ((h k).mpr (List.mem_cons_of_mem _ hk)) with e | e
        · have := b1 k hk
          omega
        · exact e
    rw [t]
/-- a list of ints at p, apart from b -/
def IntsAt (b : Addr) (H : Hp) (p : Addr) (ks : List Int) : Prop := off b H p = some (.lst (ks.map V.int))
theorem IntsAt.gr {b p : Addr} {H H' : Hp} {ks : List Int} (h : IntsAt b H p ks) (g : Gr b H H') : IntsAt b H' p ks := g.same _ _ h
theorem IntsAt.at {b p : Addr} {H : Hp} {ks : List Int} (h : IntsAt b H p ks) : H p = some (.lst (ks.map V.int)) := (off_some h).2
/-- keys that rise -/
def Keys (ks : List Int) : Prop := ks.Pairwise (· < ·) ∧ (∀ k ∈ ks, 0 ≤ k ∧ k ≤ 999) ∧ ks.length ≤ 12 ∧ 0 < ks.length
/-! ### data without lists: they stay whatever is done to lists -/
mutual
def noL : PyData → Bool
  | .list _ => false
  | .tuple xs => noLs xs
  | _ => true
def noLs : List PyData → Bool
  | [] => true
  | x :: xs => noL x && noLs xs
end
def TSame (H H' : Hp) : Prop := ∀ a xs, Rd H a (.tup xs) → Rd H' a (.tup xs)
theorem TSame.refl (H : Hp) : TSame H H := fun _ _ h => h
theorem TSame.trans {H H1 H2 : Hp} (x : TSame H H1) (y : TSame H1 H2) : TSame H H2 := fun a xs h => y a xs (x a xs h)
theorem TSame.of {H H' : Hp} (s : Same H H') : TSame H H' := fun a xs h => h.elim (fun h => .inl (s _ _ h)) fun ⟨o, h⟩ => .inr ⟨o, s _ _ h⟩
theorem TSame.but {H H' : Hp} {b : Addr} {o : HO} (hb : H b = some o) (n1 : ∀ xs, o ≠ .tup xs) (n2 : ∀ ob xs, o ≠ .frz ob (.tup xs)) (k : ∀ a u, a ≠ b → H a = some u → H' a = some u) : TSame H H' := fun a xs h => by
  rcases h with h | ⟨ob, h⟩
  · exact .inl (k a _ (ne_of h hb (fun z => n1 xs z.symm)) h)
  · exact .inr ⟨ob, k a _ (ne_of h hb (fun z => n2 ob xs z.symm)) h⟩
theorem TSame.lst {H : Hp} {p : Addr} {xs : List V} {o : HO} (h : H p = some (.lst xs)) : TSame H (upd H p o) := TSame.but h (fun _ z => by cases z) (fun _ _ z => by cases z) fun a u n e => by rw [upd_ne n]; exact e
theorem Gr.ts {b : Addr} {H H' : Hp} (g : Gr b H H') (h : Bag H b) : TSame H H' := by
  obtain ⟨x, y, e, _⟩ := h
  exact TSame.but e (fun _ z => by cases z) (fun _ _ z => by cases z) g.2
theorem Bag.off {b : Addr} {H : Hp} (h : Bag H b) : TSame H (off b H) := by
  obtain ⟨x, y, e, _⟩ := h
  exact TSame.but e (fun _ z => by cases z) (fun _ _ z => by cases z) fun a u n e => off_mk n e
theorem sqT_ts {K : PySem.W.Frag} {H H' : Hp} {a : Addr} {xs : List V} (t : TSame H H') (h : SqT K H a xs) : SqT K H' a xs := h.elim (fun h => .inl (t _ _ h)) .inr
mutual
theorem DV.ts {K : PySem.W.Frag} {H H' : Hp} (t : TSame H H') : ∀ {v : V} {d : PyData}, DV K H v d → noL d = true → DV K H' v d
  | _, _, .non, _ => .non
  | _, _, .bl b, _ => .bl b
  | _, _, .int i, _ => .int i
  | _, _, .str x, _ => .str x
  | _, _, .lst h q, e => by cases e
  | _, _, .tup h q, e => .tup (sqT_ts t h) (DVs.ts t q e)
theorem DVs.ts {K : PySem.W.Frag} {H H' : Hp} (t : TSame H H') : ∀ {v : List V} {d : List PyData}, DVs K H v d → noLs d = true → DVs K H' v d
  | _, _, .nil, _ => .nil
  | _, _, .cons (d := d) (ds := ds) h q, e => by
    have e : (noL d && noLs ds) = true := e
    rw [Bool.and_eq_true] at e
    exact .cons (DV.ts t h e.1) (DVs.ts t q e.2)
end
theorem noLs_all : ∀ ds : List PyData, noLs ds = ds.all noL
  | [] => rfl
  | d :: ds => by rw [List.all_cons, ← noLs_all ds]; rfl
theorem noLs_map {α : Type} (f : α → PyData) (h : ∀ x, noL (f x) = true) (l : List α) : noLs (l.map f) = true := by
  rw [noLs_all, List.all_map]
  exact List.all_eq_true.mpr fun x _ => h x
/-- a table's rows as a datum -/
def rowD (r : Int × Int) : PyData := .tuple [.int r.1, .int r.2]
def tabD (rows : List (Int × Int)) : PyData := .tuple (rows.map rowD)
/-- rows of a table, their keys among ks -/
def RowsIn (ks : List Int) (rows : List (Int × Int)) : Prop := (rows.map (·.1)).Sublist ks ∧ ∀ r ∈ rows, 0 ≤ r.2 ∧ r.2 ≤ 999
theorem DVs.snoc {K : PySem.W.Frag} {H : Hp} {vs : List V} {ds : List PyData} {v : V} {d : PyData} (h : DVs K H vs ds) (h2 : DV K H v d) : DVs K H (vs ++ [v]) (ds ++ [d]) := DVs.append h (.cons h2 .nil)
end Tc

/-! Things of any kind, spoilt: bounds. -/
namespace Tc
open PySem PySem.Spec PyProof.Rows L2
def leafB (n : Nat) : PyData → Prop
  | .none => True
  | .bool _ => True
  | .int i => i.natAbs ≤ 10 ^ 40 + 2000 * n
  | .str s => s.length ≤ 2000 * 3 ^ n
  | _ => False
/-- n times spoilt, at most k deep -/
def Bd (n : Nat) : Nat → PyData → Prop
  | k + 1, .list xs => xs.length ≤ 120 + n ∧ ∀ x ∈ xs, Bd n k x
  | k + 1, .tuple xs => xs.length ≤ 120 + n ∧ ∀ x ∈ xs, Bd n k x
  | _, d => leafB n d
theorem leafB.up {n : Nat} : ∀ {d : PyData}, leafB n d → leafB (n + 1) d
  | .none, _ => trivial
  | .bool _, _ => trivial
  | .int i, h => by
    have h : i.natAbs ≤ 10 ^ 40 + 2000 * n := h
    show i.natAbs ≤ 10 ^ 40 + 2000 * (n + 1)
    omega
  | .str s, h => by
    have h : s.length ≤ 2000 * 3 ^ n := h
    show s.length ≤ 2000 * 3 ^ (n + 1)
    rw [Nat.pow_succ]
    omega
  | .list _, h => h.elim
  | .tuple _, h => h.elim
  | .dict _, h => h.elim
theorem Bd.leaf {n k : Nat} {d : PyData} (h : leafB n d) : Bd n k d := by
  cases k with
  | zero => cases d <;> first | exact h | exact h.elim
  | succ k => cases d <;> first | exact h | exact h.elim
theorem Bd.list {n k : Nat} {xs : List PyData} (h1 : xs.length ≤ 120 + n) (h2 : ∀ x ∈ xs, Bd n k x) : Bd n (k + 1) (.list xs) := ⟨h1, h2⟩
theorem Bd.tuple {n k : Nat} {xs : List PyData} (h1 : xs.length ≤ 120 + n) (h2 : ∀ x ∈ xs, Bd n k x) : Bd n (k + 1) (.tuple xs) := ⟨h1, h2⟩
theorem Bd.deep : ∀ {k n : Nat} {d : PyData}, Bd n k d → Bd n (k + 1) d
  | 0, n, d, h => by
    cases d <;> first | exact h | exact h.elim
  | k + 1, n, d, h => by
    cases d with
    | list xs => exact ⟨h.1, fun x hx => Bd.deep (h.2 x hx)⟩
    | tuple xs => exact ⟨h.1, fun x hx => Bd.deep (h.2 x hx)⟩
    | _ => exact h
theorem Bd.deeper {n k : Nat} {d : PyData} (h : Bd n k d) : ∀ {j : Nat}, k ≤ j → Bd n j d := by
  intro j hj
  obtain ⟨m, rfl⟩ := Nat.le.dest hj
  clear hj
  induction m with
  | zero => exact h
  | succ m ih => exact ih.deep
theorem Bd.up : ∀ {k n : Nat} {d : PyData}, Bd n k d → Bd (n + 1) k d
  | 0, n, d, h => by
    cases d <;> first | exact leafB.up h | exact h.elim
  | k + 1, n, d, h => by
    cases d with
    | list xs => exact ⟨Nat.le_succ_of_le h.1, fun x hx => Bd.up (h.2 x hx)⟩
    | tuple xs => exact ⟨Nat.le_succ_of_le h.1, fun x hx => Bd.up (h.2 x hx)⟩
    | _ => exact leafB.up (show leafB n _ from h)
theorem Bd.int {n k : Nat} {i : Int} (h : i.natAbs ≤ 10 ^ 40 + 2000 * n) : Bd n k (.int i) := Bd.leaf h
theorem Bd.str {n k : Nat} {s : Str} (h : s.length ≤ 2000 * 3 ^ n) : Bd n k (.str s) := Bd.leaf h
/-- what is new in H' -/
def nw (H H' : Hp) : Hp := fun a => match H a with
  | some _ => none
  | none => H' a
theorem Bd.all {n k : Nat} {ds es : List PyData} (h : ∀ x ∈ ds, Bd n k x) (s : ∀ x ∈ es, x ∈ ds) : ∀ x ∈ es, Bd n k x := fun x hx => h x (s x hx)
theorem Gr.lst {b p : Addr} {H : Hp} {xs : List V} (h : Bag H b) (hp : H p = none) : Gr b H (upd H p (.lst xs)) := Gr.new h hp
/-- what is kept in a list of one's own -/
theorem Dats.put {K : PySem.W.Frag} {b p : Addr} {H0 H : Hp} {o : HO} {vs : List V} {ds : List PyData} (h : Dats K b H0 vs ds) (g : Gr b H0 H) (n : p ≠ b) (hp : H0 p = none) : Dats K b (upd H p o) vs ds := h.gr (g.put n hp)
theorem Dat.put {K : PySem.W.Frag} {b p : Addr} {H0 H : Hp} {o : HO} {v : V} {d : PyData} (h : Dat K b H0 v d) (g : Gr b H0 H) (n : p ≠ b) (hp : H0 p = none) : Dat K b (upd H p o) v d := h.gr (g.put n hp)
theorem Sq.same {K : PySem.W.Frag} {H H' : Hp} {a : Addr} {xs : List V} (e : Same H H') (h : Sq K H a xs) : Sq K H' a xs := h.elim (fun h => .inl (e.seq h)) fun h => .inr (same_tup e h)
theorem Bd.tab {rows : List (Int × Int)} {ks : List Int} (h : RowsIn ks rows) (hk : ∀ k ∈ ks, 0 ≤ k ∧ k ≤ 999) (hl : ks.length ≤ 120) : Bd 0 2 (tabD rows) := by
  refine Bd.tuple (by rw [List.length_map, ← List.length_map (f := (·.1)) (as := rows)]; exact Nat.le_trans h.1.length_le hl) fun x hx => ?_
  obtain ⟨r, hr, rfl⟩ := List.mem_map.mp hx
  have h1 := h.2 r hr
  have h2 := hk r.1 (h.1.subset (List.mem_map_of_mem hr))
  refine Bd.tuple (by show 2 ≤ _; omega) fun y hy => ?_
  simp only [List.mem_cons, List.not_mem_nil, or_false] at hy
  rcases hy with rfl | rfl <;> exact Bd.int (by omega)
/-- the law's own promise -/
def spLaw (K : PySem.W.Frag) : Sp := fun vs H Q _ => ∃ (a : Addr) (ns : List Int), vs = [.ref a] ∧ SqL K H a (ns.map V.int) ∧ ns.length ≤ 63 ∧ ∀ H', Q (.bl true) H'
theorem Bag.same {b : Addr} {H H' : Hp} (h : Bag H b) (s : Same H H') : Bag H' b := by
  obtain ⟨x, y, e, r⟩ := h
  exact ⟨x, y, s _ _ e, r⟩
/-- what was there ahead of b stays -/
theorem Gr.base {b : Addr} {H H0 H' : Hp} (g : Gr b H0 H') (s : Same H H0) (n : H b = none) : Same H H' := fun a u e => g.2 a u (fun z => by rw [z, n] at e; cases e) (s a u e)
end Tc

/-! Changes, entries, logs. -/
namespace Tc
open PySem PySem.Spec PyProof.Rows L2
/-! ### is True, is False, is None; in -/
def rNotB : R2 := fun x y H Q => match y with
  | .non => Q (.bl (!decide (x = .non))) H
  | .bl b => match x with
    | .bl a => Q (.bl (!decide (a = b))) H
    | _ => False
  | _ => False
theorem op_isnotB {X : Cx} : OpR X (compareOp .IsNot) rNotB := fun pins s σ H x y v u Q I rx ry q => by
  unfold rNotB at q
  split at q
  · exact op_notN pins s σ H _ _ v u Q I rx ry ⟨rfl, q⟩
  · split at q
    · exact op_notBl pins s σ H _ _ v u Q I rx ry ⟨_, _, rfl, rfl, q⟩
    · exact q.elim
  · exact q.elim
/-- x in a list or tuple of data -/
def rInP (K : PySem.W.Frag) (neg : Bool) : R2 := fun x y H Q => ∃ d ds, Dp K H x d ∧ (Dp K H y (.list ds) ∨ Dp K H y (.tuple ds)) ∧ d.depth ≤ 60 ∧ Q (.bl (if neg then !(ds.any fun z => PyData.eqv z d) else ds.any fun z => PyData.eqv z d)) H
theorem op_inP {X : Cx} (hu : X.A.units + 64 < cLine) : OpR X (compareOp .In) (rInP X.K false) := fun pins s σ H x y v u Q I rx ry q => by
  obtain ⟨d, ds, hd, hy, hm, q⟩ := q
  obtain ⟨as, r1⟩ := Dp.reads I d x v hd rx
  have pd := dp_plain hd
  rcases hy with hy | hy
  · obtain ⟨bs, r2⟩ := Dp.reads I _ y u hy ry
    have pl : PyData.plainAll ds = true := by have z := dp_plain hy; simpa only [PyData.plain] using z
    exact SeqAt.in_list_data r2 r1 pl pd (by omega) ⟨.bl _, H, I, rfl, q⟩
  · obtain ⟨bs, r2⟩ := Dp.reads I _ y u hy ry
    have pl : PyData.plainAll ds = true := by have z := dp_plain hy; simpa only [PyData.plain] using z
    exact SeqAt.in_tuple_data r2 r1 pl pd (by omega) ⟨.bl _, H, I, rfl, q⟩
theorem op_notinP {X : Cx} (hu : X.A.units + 64 < cLine) : OpR X (compareOp .NotIn) (rInP X.K true) := fun pins s σ H x y v u Q I rx ry q => by
  obtain ⟨d, ds, hd, hy, hm, q⟩ := q
  obtain ⟨as, r1⟩ := Dp.reads I d x v hd rx
  have pd := dp_plain hd
  rcases hy with hy | hy
  · obtain ⟨bs, r2⟩ := Dp.reads I _ y u hy ry
    have pl : PyData.plainAll ds = true := by have z := dp_plain hy; simpa only [PyData.plain] using z
    exact SeqAt.notIn_list_data r2 r1 pl pd (by omega) ⟨.bl _, H, I, rfl, q⟩
  · obtain ⟨bs, r2⟩ := Dp.reads I _ y u hy ry
    have pl : PyData.plainAll ds = true := by have z := dp_plain hy; simpa only [PyData.plain] using z
    exact SeqAt.notIn_tuple_data r2 r1 pl pd (by omega) ⟨.bl _, H, I, rfl, q⟩
theorem inK {X : Cx} {K : PySem.W.Frag} (hu : X.A.units + 64 < cLine) (h : X.K = K := by rfl) : OpR X (compareOp .In) (rInP K false) := h ▸ op_inP hu
/-! ### a < b < c as a test -/
theorem pt_chainG {X : Cx} {a b c : Expr} {ta tb tc : TE} {pos : Pos} {op op' : CmpOp} {r r' : R2} (ho : OpR X (compareOp op) r) (ho' : OpR X (compareOp op') r') (ha : PE X a ta) (hb : PE X b tb) (hc : PE X c tc)
    (hm : lastMarks [op, op'] [b, c] = false := by with_unfolding_all rfl) : PT X (.Compare a [op, op'] [b, c] pos) (tTestG (tChainG r r' ta tb tc)) := by
  refine ⟨fun pins s σ H Q I h => ?_⟩
  refine isTrue_chain (thn (ha.run pins s σ H _ I h) fun v s1 ⟨x, H1, I1, r1, q1⟩ => test_link (thn (hb.run pins s1 σ H1 _ I1 q1) fun u s2 ⟨y, H2, I2, r2, q2⟩ =>
    thn (ho pins s2 σ H2 x y v u _ I2 r1 r2 q2) fun d s3 ⟨z, H3, I3, r3, q3⟩ => ?_)) hm
  cases z with
  | bl k =>
    cases r3
    refine wpAny_truthy_bool ?_
    cases k with
    | false => exact ite_ff ⟨H3, I3, q3⟩
    | true =>
      refine ite_tt (test_last (thn (hc.run pins s3 σ H3 _ I3 q3) fun w' s4 ⟨z', H4, I4, r4, q4⟩ => thn (ho' pins s4 σ H4 y z' u w' _ I4 r2 r4 q4) fun d' s5 ⟨z2, H5, I5, r5, q5⟩ => ?_))
      cases z2 with
      | bl k2 =>
        cases r5
        exact wpAny_truthy_bool ⟨H5, I5, q5⟩
      | _ => exact (show False from q5).elim
  | _ => exact (show False from q3).elim
theorem at0 {x : V} {xs : List V} : atI (x :: xs) 0 = some x := atI_nat (j := 0) rfl
theorem at1 {x y : V} {xs : List V} : atI (x :: y :: xs) 1 = some y := atI_nat (j := 1) rfl
theorem at2 {x y z : V} {xs : List V} : atI (x :: y :: z :: xs) 2 = some z := atI_nat (j := 2) rfl
/-! ### what is what -/
theorem DVs.one {K : PySem.W.Frag} {H : Hp} {v : List V} {d : List PyData} (h : DVs K H v d) (n : v.length = 1) : ∃ x a, v = [x] ∧ d = [a] ∧ DV K H x a := by
  match v, d, h, n with
  | [x], [a], .cons h1 .nil, _ => exact ⟨x, a, rfl, rfl, h1⟩
theorem not_true {b : Bool} (h : ¬ b = true) : b = false := Bool.eq_false_iff.mpr h
end Tc

/-! Changes, entries and logs as they are drawn. -/
namespace Tc
open PySem PySem.Spec PyProof.Rows L2
inductive Ch where
  | drop (k : Int)
  | put (k w : Int)
def Ch.key : Ch → Int
  | .drop k => k
  | .put k _ => k
def chD : Ch → PyData
  | .drop k => .tuple [.str "drop", .int k]
  | .put k w => .tuple [.str "put", .int k, .int w]
def chsD (cs : List Ch) : PyData := .tuple (cs.map chD)
def Ch.In (ks : List Int) : Ch → Prop
  | .drop k => k ∈ ks
  | .put k w => k ∈ ks ∧ 0 ≤ w ∧ w ≤ 999
inductive Ent where
  | group (cs : List Ch)
  | mark (lo : Bool) (life num : Int)
def mkS : Bool → Str
  | true => "low"
  | false => "high"
def entD : Ent → PyData
  | .group cs => .tuple [.str "group", chsD cs]
  | .mark lo l n => .tuple [.str (mkS lo), .int l, .int n]
def Ent.In (ks : List Int) (m : Nat) : Ent → Prop
  | .group cs => 1 ≤ cs.length ∧ cs.length ≤ m ∧ ∀ c ∈ cs, c.In ks
  | .mark _ l n => 1 ≤ l ∧ l ≤ 4 ∧ 0 ≤ n ∧ n ≤ 8
theorem noL_ch (c : Ch) : noL (chD c) = true := by cases c <;> rfl
theorem noL_chs (cs : List Ch) : noL (chsD cs) = true := noLs_map chD noL_ch cs
theorem noL_ent (e : Ent) : noL (entD e) = true := by
  cases e with
  | group cs =>
    show (noL (.str "group") && (noL (chsD cs) && true)) = true
    rw [noL_chs]; rfl
  | mark lo l n => rfl
theorem Bd.ch {ks : List Int} {c : Ch} (h : c.In ks) (hk : ∀ k ∈ ks, 0 ≤ k ∧ k ≤ 999) : Bd 0 1 (chD c) := by
  cases c with
  | drop k =>
    have h0 := hk k h
    refine Bd.tuple (by show 2 ≤ _; omega) fun y hy => ?_
    simp only [List.mem_cons, List.not_mem_nil, or_false] at hy
    rcases hy with rfl | rfl
    · exact Bd.str (by show 4 ≤ _; decide)
    · exact Bd.int (by omega)
  | put k w =>
    have h0 := hk k h.1
    have h1 := h.2
    refine Bd.tuple (by show 3 ≤ _; omega) fun y hy => ?_
    simp only [List.mem_cons, List.not_mem_nil, or_false] at hy
    rcases hy with rfl | rfl | rfl
    · exact Bd.str (by show 3 ≤ _; decide)
    · exact Bd.int (by omega)
    · exact Bd.int (by omega)
theorem Bd.ent {ks : List Int} {m : Nat} {e : Ent} (h : e.In ks m) (hm : m ≤ 100) (hk : ∀ k ∈ ks, 0 ≤ k ∧ k ≤ 999) : Bd 0 3 (entD e) := by
  cases e with
  | group cs =>
    refine Bd.tuple (by show 2 ≤ _; omega) fun y hy => ?_
    simp only [List.mem_cons, List.not_mem_nil, or_false] at hy
    rcases hy with rfl | rfl
    · exact Bd.str (by show 5 ≤ _; decide)
    · refine Bd.tuple (by rw [List.length_map]; have := h.2.1; omega) fun x hx => ?_
      obtain ⟨c, hc, rfl⟩ := List.mem_map.mp hx
      exact Bd.ch (h.2.2 c hc) hk
  | mark lo l n =>
    obtain ⟨h1, h2, h3, h4⟩ := h
    refine Bd.tuple (by show 3 ≤ _; omega) fun y hy => ?_
    simp only [List.mem_cons, List.not_mem_nil, or_false] at hy
    rcases hy with rfl | rfl | rfl
    · exact Bd.str (by cases lo <;> (show _ ≤ 2000 * 3 ^ 0; decide))
    · exact Bd.int (by omega)
    · exact Bd.int (by omega)
theorem Bd.log {ks : List Int} {m : Nat} {es : List Ent} (h : ∀ e ∈ es, e.In ks m) (hl : es.length ≤ 120) (hm : m ≤ 100) (hk : ∀ k ∈ ks, 0 ≤ k ∧ k ≤ 999) : Bd 0 4 (.list (es.map entD)) := by
  refine Bd.list (by rw [List.length_map]; omega) fun x hx => ?_
  obtain ⟨e, he, rfl⟩ := List.mem_map.mp hx
  exact Bd.ent (h e he) hm hk
/-- a list or tuple apart from b -/
def SqAt (K : PySem.W.Frag) (b : Addr) (H : Hp) (p : Addr) (xs : List V) : Prop := Sq K (off b H) p xs
theorem SqAt.gr {K : PySem.W.Frag} {b p : Addr} {H H' : Hp} {xs : List V} (h : SqAt K b H p xs) (g : Gr b H H') : SqAt K b H' p xs := Sq.same g.same h
theorem noLs_ents (es : List Ent) : noLs (es.map entD) = true := noLs_map entD noL_ent es
theorem DVs.rep {K : PySem.W.Frag} {H : Hp} {v : V} {d : PyData} (h : DV K H v d) : ∀ n : Nat, DVs K H (List.replicate n [v]).flatten (List.replicate n d)
  | 0 => .nil
  | n + 1 => .cons h (DVs.rep h n)
end Tc

/-! Tables in dicts: dict(a tuple of pairs), sorted(a dict), a star in a target. -/
namespace Tc
open PySem PySem.Spec PyProof.Rows L2
/-- a made tuple of which all is known -/
def Frz (H : Hp) (a : Addr) (xs : List V) : Prop := ∃ o : Obj, H a = some (.frz o (.tup xs)) ∧ o.cls = .type "tuple" ∧ o.dict = none
theorem Frz.sqT {K : PySem.W.Frag} {H : Hp} {a : Addr} {xs : List V} (h : Frz H a xs) : SqT K H a xs := let ⟨o, e, _⟩ := h; .inl (.inr ⟨o, e⟩)
theorem Frz.same {H H' : Hp} {a : Addr} {xs : List V} (h : Frz H a xs) (s : Same H H') : Frz H' a xs := let ⟨o, e, r⟩ := h; ⟨o, s _ _ e, r⟩
theorem Frz.gr {b : Addr} {H H' : Hp} {a : Addr} {xs : List V} (h : Frz H a xs) (hb : Bag H b) (g : Gr b H H') : Frz H' a xs := by
  obtain ⟨o, e, r⟩ := h
  obtain ⟨x, y, eb, _⟩ := hb
  exact ⟨o, g.2 a _ (fun z => by rw [z, eb] at e; cases e) e, r⟩
section
variable {X : Cx}
/-- tuple(a list), told wholly -/
def rTupleF (K : PySem.W.Frag) : List V → Hp → VK → Prop := fun xs H Q => match xs with
  | [.ref p] => ∃ ys, SqL K H p ys ∧ ∀ l o, H l = none → o.cls = .type "tuple" → o.dict = none → Q (.ref l) (upd H l (.frz o (.tup ys)))
  | _ => False
theorem call_tupleF : CallR X (.type "tuple") (rTupleF X.K) := by
  intro pins s σ H xs us Q I r q
  unfold rTupleF at q
  split at q
  · obtain ⟨ys, hq, q⟩ := q
    obtain ⟨u, rfl, rx⟩ := vals1 r
    cases rx
    obtain ⟨its, r', pl, hz⟩ := I.list hq
    have hlen := r'.length
    refine call_tuple_list pl.isList (fun h' kp => ?_) (by simp only [List.size_toArray] <;> omega)
    have I1 : Inv X pins σ H { s with heap := h' } := I.kept (t' := s.toks) kp
    have I2 : Inv X pins σ (upd H h'.objs.size (.frz { cls := .type "tuple", data := .seq its.toArray } (.tup ys))) { s with heap := h'.push { cls := .type "tuple", data := .seq its.toArray } } :=
      I1.laid (t' := s.toks) (fun b o e => Heap.get?_push_of_some _ e) (Nat.le_refl _) (show ObjOk X.prog X.w _ _ _ (.frz { cls := .type "tuple", data := .seq its.toArray } (.tup ys)) from ⟨Heap.get?_push_size _ rfl, hz, its, r', IsTup.new _ _⟩)
    exact ⟨.ref h'.objs.size, _, I2, rfl, q _ _ (I1.hok.fresh (Nat.le_refl _)) rfl rfl⟩
  · exact q.elim
theorem pairs_of2 {pins : List (Addr × Obj)} {σ : L2.St} {H : Hp} {s : Shared} (I : Inv X pins σ H s) : ∀ {ps : List Addr} {kvs : List (Key × V)}, Paired (fun p kv => SqT X.K H p [kV kv.1, kv.2]) ps kvs →
    ∃ (prs : List (Key × Value)) (us : List Value), KV kvs prs ∧ prs.length = ps.length ∧ us.length = ps.length ∧ ∀ (j : Nat) (q : Key × Value) (u : Value), prs[j]? = some q → us[j]? = some u → ∃ (b : Addr), ps[j]? = some b ∧ IsTup s.heap b #[u, q.2] ∧ keyIs q.1 u = true
  | _, _, .nil => ⟨[], [], .nil, rfl, rfl, fun j q u e => by simp at e⟩
  | _, _, .cons (a := p) (b := kv) h t => by
    obtain ⟨prs, us, r, hl, hl2, hp⟩ := pairs_of2 I t
    obtain ⟨its, rv, ht, _⟩ := I.tuple h
    obtain ⟨u, y, ei, ru, ry⟩ := vals2 rv
    subst ei
    refine ⟨(kv.1, y) :: prs, u :: us, .cons ⟨rfl, ry⟩ r, by rw [List.length_cons, List.length_cons, hl], by rw [List.length_cons, List.length_cons, hl2], fun j q u' e e2 => ?_⟩
    cases j with
    | zero =>
      have e' : (kv.1, y) = q := Option.some.inj e
      have e2' : u = u' := Option.some.inj e2
      subst e' e2'
      exact ⟨p, rfl, ht, kV_is (P := X.prog) (w := X.w) ru⟩
    | succ j =>
      obtain ⟨b, e1, e3, e4⟩ := hp j q u' (by simpa using e) (by simpa using e2)
      exact ⟨b, by simpa using e1, e3, e4⟩
end
/-! ### *xs, y = a tuple -/
end Tc

/-! Tables in dicts: what is what. -/
namespace Tc
open PySem PySem.Spec PyProof.Rows L2
abbrev Rw := Int × Int
def putM (M : List Rw) (k w : Int) : List Rw := if (M.any fun r => decide (r.1 = k)) = true then M.map (fun r => if r.1 = k then (r.1, w) else r) else M ++ [(k, w)]
def dropM (M : List Rw) (k : Int) : List Rw := M.filter fun r => decide (r.1 ≠ k)
def getM (M : List Rw) (k : Int) : Option Int := (M.find? fun r => decide (r.1 = k)).map (·.2)
def normM (rows : List Rw) : List Rw := rows.foldl (fun M r => putM M r.1 r.2) []
/-- keys once each, among ks; worths are worths -/
def Mok (ks : List Int) (M : List Rw) : Prop := (M.map (·.1)).Nodup ∧ ∀ r ∈ M, r.1 ∈ ks ∧ 0 ≤ r.2 ∧ r.2 ≤ 999
theorem Mok.put {ks : List Int} {M : List Rw} {k w : Int} (h : Mok ks M) (hk : k ∈ ks) (h0 : 0 ≤ w) (h1 : w ≤ 999) : Mok ks (putM M k w) := by
  unfold putM
  split
  · refine ⟨?_, fun r hr => ?_⟩
    · have e : (M.map (fun r => if r.1 = k then (r.1, w) else r)).map (·.1) = M.map (·.1) := by
        rw [List.map_map]
        refine List.map_congr_left fun r _ => ?_
        show (if r.1 = k then (r.1, w) else r).1 = r.1
        split <;> rfl
      rw [e]; exact h.1
    · obtain ⟨z, hz, rfl⟩ := List.mem_map.mp hr
      have := h.2 z hz
      by_cases e : z.1 = k
      · rw [if_pos e]; exact ⟨this.1, h0, h1⟩
      · rw [if_neg e]; exact this
  · rename_i hn
    refine ⟨?_, fun r hr => ?_⟩
    · rw [List.map_append, List.nodup_append]
      refine ⟨h.1, by simp, fun a ha b hb => ?_⟩
      obtain ⟨z, hz, rfl⟩ := List.mem_map.mp ha
      have hb : b = k := by simpa using hb
      subst hb
      intro e
      exact hn (List.any_eq_true.mpr ⟨z, hz, decide_eq_true e⟩)
    · rcases List.mem_append.mp hr with hr | hr
      · exact h.2 r hr
      · cases List.mem_singleton.mp hr
        exact ⟨hk, h0, h1⟩
theorem Mok.drop {ks : List Int} {M : List Rw} {k : Int} (h : Mok ks M) : Mok ks (dropM M k) :=
  ⟨(List.filter_sublist.map _).nodup h.1, fun r hr => h.2 r (List.mem_filter.mp hr).1⟩
theorem Mok.norm {ks : List Int} {rows : List Rw} (h : ∀ r ∈ rows, r.1 ∈ ks ∧ 0 ≤ r.2 ∧ r.2 ≤ 999) : Mok ks (normM rows) := by
  have key : ∀ (rows M : List Rw), (∀ r ∈ rows, r.1 ∈ ks ∧ 0 ≤ r.2 ∧ r.2 ≤ 999) → Mok ks M → Mok ks (rows.foldl (fun M r => putM M r.1 r.2) M) := by
    intro rows
    induction rows with
    | nil => exact fun M _ h => h
    | cons r rows ih =>
      intro M hr hM
      have := hr r List.mem_cons_self
      exact ih _ (fun x hx => hr x (List.mem_cons_of_mem _ hx)) (hM.put this.1 this.2.1 this.2.2)
  exact key rows [] h ⟨List.nodup_nil, fun r hr => by cases hr⟩
theorem nodup_len : ∀ {a b : List Int}, a.Nodup → (∀ x ∈ a, x ∈ b) → a.length ≤ b.length
  | [], _, _, _ => Nat.zero_le _
  | x :: a, b, h, s => by
    obtain ⟨h1, h2⟩ := List.nodup_cons.mp h
    have hx := s x List.mem_cons_self
    have ih := nodup_len (a := a) (b := b.erase x) h2 fun y hy => (List.mem_erase_of_ne (fun (e : y = x) => h1 (by rw [← e]; exact hy))).mpr (s y (List.mem_cons_of_mem _ hy))
    rw [List.length_erase_of_mem hx] at ih
    have := List.length_pos_of_mem hx
    rw [List.length_cons]; omega
theorem Mok.len {ks : List Int} {M : List Rw} (h : Mok ks M) : M.length ≤ ks.length := by
  rw [← List.length_map (f := (·.1)) (as := M)]
  exact nodup_len h.1 fun x hx => by
    obtain ⟨r, hr, rfl⟩ := List.mem_map.mp hx
    exact (h.2 r hr).1
def sortI (l : List Int) : List Int := l.mergeSort fun a b => decide (a ≤ b)
def tabOf (M : List Rw) : List Rw := (sortI (M.map (·.1))).map fun k => (k, (getM M k).getD 0)
theorem strict_of {l : List Int} (n : l.Nodup) (p : l.Pairwise (· ≤ ·)) : l.Pairwise (· < ·) := by
  have z := n.and p
  exact z.imp fun h => by omega
theorem get_mem {M : List Rw} {k : Int} (h : k ∈ M.map (·.1)) : ∃ w, getM M k = some w ∧ (k, w) ∈ M := by
  obtain ⟨r, hr, rfl⟩ := List.mem_map.mp h
  unfold getM
  cases e : M.find? fun z => decide (z.1 = r.1) with
  | none => exact absurd (decide_eq_true rfl) (List.find?_eq_none.mp e r hr)
  | some z =>
    have h1 := List.find?_some e
    have h2 := List.mem_of_find?_eq_some e
    have h1 : z.1 = r.1 := of_decide_eq_true h1
    exact ⟨z.2, rfl, by rw [← h1]; exact h2⟩
theorem sortI_mem {l : List Int} {k : Int} : k ∈ sortI l ↔ k ∈ l := (List.mergeSort_perm _ _).mem_iff
def chM (M : List Rw) : Ch → List Rw
  | .put k w => putM M k w
  | .drop k => dropM M k
def chsOf : Ent → List Ch
  | .group cs => cs
  | .mark .. => []
def entM (M : List Rw) (e : Ent) : List Rw := (chsOf e).foldl chM M
def logM (M : List Rw) (es : List Ent) : List Rw := es.foldl entM M
/-- the table behind so many entries -/
def tabAt (rows : List Rw) (es : List Ent) (n : Nat) : List Rw := tabOf (logM (normM rows) (es.take n))
theorem Mok.ch {ks : List Int} {M : List Rw} {c : Ch} (h : Mok ks M) (hc : c.In ks) : Mok ks (chM M c) := by
  cases c with
  | put k w => exact h.put hc.1 hc.2.1 hc.2.2
  | drop k => exact h.drop
theorem Mok.chs {ks : List Int} : ∀ {cs : List Ch} {M : List Rw}, Mok ks M → (∀ c ∈ cs, Ch.In ks c) → Mok ks (cs.foldl chM M)
  | [], _, h, _ => h
  | c :: cs, _, h, hc => Mok.chs (cs := cs) (h.ch (hc c List.mem_cons_self)) fun x hx => hc x (List.mem_cons_of_mem _ hx)
theorem Ent.In.chs {ks : List Int} {m : Nat} {e : Ent} (h : e.In ks m) : ∀ c ∈ chsOf e, Ch.In ks c := by
  cases e with
  | group cs => exact h.2.2
  | mark => exact fun c hc => by cases hc
theorem Mok.log {ks : List Int} {m : Nat} : ∀ {es : List Ent} {M : List Rw}, Mok ks M → (∀ e ∈ es, Ent.In ks m e) → Mok ks (logM M es)
  | [], _, h, _ => h
  | e :: es, _, h, he => Mok.log (es := es) (h.chs (he e List.mem_cons_self).chs) fun x hx => he x (List.mem_cons_of_mem _ hx)
theorem tabOf_mem {ks : List Int} {M : List Rw} (h : Mok ks M) {r : Rw} (hr : r ∈ tabOf M) : r.1 ∈ ks ∧ 0 ≤ r.2 ∧ r.2 ≤ 999 := by
  obtain ⟨k, hk, rfl⟩ := List.mem_map.mp hr
  obtain ⟨w, e, hm⟩ := get_mem (sortI_mem.mp hk)
  show k ∈ ks ∧ 0 ≤ (getM M k).getD 0 ∧ (getM M k).getD 0 ≤ 999
  rw [e]
  exact h.2 _ hm
/-- a table as a tuple of which all is known -/
def TabAt (K : PySem.W.Frag) (H : Hp) (v : V) (rows : List Rw) : Prop := ∃ a ps, v = .ref a ∧ Frz H a (ps.map V.ref) ∧ Paired (fun p (r : Rw) => SqT K H p [.int r.1, .int r.2]) ps rows
theorem paired_dvs {K : PySem.W.Frag} {H : Hp} : ∀ {ps : List Addr} {rows : List Rw}, Paired (fun p (r : Rw) => SqT K H p [.int r.1, .int r.2]) ps rows → DVs K H (ps.map V.ref) (rows.map rowD)
  | _, _, .nil => .nil
  | _, _, .cons h t => .cons (.tup h (.cons (.int _) (.cons (.int _) .nil))) (paired_dvs t)
theorem dvs_paired {K : PySem.W.Frag} {H : Hp} : ∀ {vs : List V} {rows : List Rw}, DVs K H vs (rows.map rowD) → ∃ ps, vs = ps.map V.ref ∧ Paired (fun p (r : Rw) => SqT K H p [.int r.1, .int r.2]) ps rows
  | _, [], h => by
    rw [List.map_nil] at h
    cases h
    exact ⟨[], rfl, .nil⟩
  | _, r :: rows, h => by
    rw [List.map_cons] at h
    cases h with
    | cons h t =>
      obtain ⟨ps, e, hp⟩ := dvs_paired t
      obtain ⟨p, e2, hq⟩ := h.ints2
      subst e e2
      exact ⟨p :: ps, rfl, .cons hq hp⟩
theorem TabAt.dv {K : PySem.W.Frag} {H : Hp} {v : V} {rows : List Rw} (h : TabAt K H v rows) : DV K H v (tabD rows) := by
  obtain ⟨a, ps, rfl, hf, hp⟩ := h
  exact .tup hf.sqT (paired_dvs hp)
theorem TabAt.same {K : PySem.W.Frag} {H H' : Hp} {v : V} {rows : List Rw} (h : TabAt K H v rows) (s : Same H H') : TabAt K H' v rows := by
  obtain ⟨a, ps, rfl, hf, hp⟩ := h
  exact ⟨a, ps, rfl, hf.same s, Paired.mapP hp fun _ _ h => same_tup s h⟩
theorem TabAt.gr {K : PySem.W.Frag} {b : Addr} {H H' : Hp} {v : V} {rows : List Rw} (h : TabAt K H v rows) (hb : Bag H b) (g : Gr b H H') : TabAt K H' v rows := by
  obtain ⟨a, ps, rfl, hf, hp⟩ := h
  exact ⟨a, ps, rfl, hf.gr hb g, Paired.mapP hp fun _ _ h => sqT_ts (g.ts hb) h⟩
theorem TabAt.mk {K : PySem.W.Frag} {H : Hp} {l : Addr} {o : Obj} {vs : List V} {rows : List Rw} (hl : H l = none) (hc : o.cls = .type "tuple") (hd : o.dict = none) (h : DVs K H vs (rows.map rowD)) : TabAt K (upd H l (.frz o (.tup vs))) (.ref l) rows := by
  obtain ⟨ps, e, hp⟩ := dvs_paired h
  subst e
  exact ⟨l, ps, rfl, ⟨o, upd_same, hc, hd⟩, Paired.mapP hp fun _ _ h => same_tup (same_upd hl) h⟩
/-- what a log and a table must be -/
def LogIn (K : PySem.W.Frag) (H : Hp) (ks : List Int) (v : V) (rows : List Rw) (a : Addr) (xs : List V) (es : List Ent) : Prop :=
  TabAt K H v rows ∧ (∀ r ∈ rows, r.1 ∈ ks ∧ 0 ≤ r.2 ∧ r.2 ≤ 999) ∧ ks.length ≤ 60 ∧ H a = some (.lst xs) ∧ DVs K H xs (es.map entD) ∧ (∀ e ∈ es, Ent.In ks 100 e) ∧ es.length ≤ 10000
theorem LogIn.same {K : PySem.W.Frag} {H H' : Hp} {ks : List Int} {v : V} {rows : List Rw} {a : Addr} {xs : List V} {es : List Ent} (h : LogIn K H ks v rows a xs es) (s : Same H H') : LogIn K H' ks v rows a xs es :=
  ⟨h.1.same s, h.2.1, h.2.2.1, s _ _ h.2.2.2.1, DVs.same s h.2.2.2.2.1, h.2.2.2.2.2⟩
/-- tables -/
inductive Tabs (K : PySem.W.Frag) (H : Hp) : List V → List (List Rw) → Prop
  | nil : Tabs K H [] []
  | cons {v : V} {t : List Rw} {vs : List V} {ts : List (List Rw)} (h : TabAt K H v t) (r : Tabs K H vs ts) : Tabs K H (v :: vs) (t :: ts)
theorem Tabs.same {K : PySem.W.Frag} {H H' : Hp} (s : Same H H') : ∀ {vs : List V} {ts : List (List Rw)}, Tabs K H vs ts → Tabs K H' vs ts
  | _, _, .nil => .nil
  | _, _, .cons h r => .cons (h.same s) (Tabs.same s r)
theorem Tabs.gr {K : PySem.W.Frag} {b : Addr} {H H' : Hp} (hb : Bag H b) (g : Gr b H H') : ∀ {vs : List V} {ts : List (List Rw)}, Tabs K H vs ts → Tabs K H' vs ts
  | _, _, .nil => .nil
  | _, _, .cons h r => .cons (h.gr hb g) (Tabs.gr hb g r)
theorem Tabs.snoc {K : PySem.W.Frag} {H : Hp} {v : V} {t : List Rw} (h : TabAt K H v t) : ∀ {vs : List V} {ts : List (List Rw)}, Tabs K H vs ts → Tabs K H (vs ++ [v]) (ts ++ [t])
  | _, _, .nil => .cons h .nil
  | _, _, .cons x r => .cons x (Tabs.snoc h r)
theorem Tabs.length {K : PySem.W.Frag} {H : Hp} : ∀ {vs : List V} {ts : List (List Rw)}, Tabs K H vs ts → vs.length = ts.length
  | _, _, .nil => rfl
  | _, _, .cons _ r => congrArg (· + 1) (Tabs.length r)
theorem Tabs.get {K : PySem.W.Frag} {H : Hp} : ∀ {vs : List V} {ts : List (List Rw)} {i : Nat} {t : List Rw}, Tabs K H vs ts → ts[i]? = some t → ∃ v, vs[i]? = some v ∧ TabAt K H v t
  | _, _, 0, _, .cons (v := v) h _, e => by cases e; exact ⟨v, rfl, h⟩
  | _, _, i + 1, _, .cons _ r, e => by
    rw [List.getElem?_cons_succ] at e
    exact Tabs.get (i := i) r e
/-- what stands elsewhere is put -/
theorem TabAt.put {K : PySem.W.Frag} {H : Hp} {v : V} {t : List Rw} {d : Addr} {o u : HO} (h : TabAt K H v t) (e : H d = some o) (n1 : ∀ xs, o ≠ .tup xs) (n2 : ∀ ob xs, o ≠ .frz ob (.tup xs)) : TabAt K (upd H d u) v t := by
  obtain ⟨a, ps, rfl, ⟨ob, ea, r⟩, hp⟩ := h
  have ts : TSame H (upd H d u) := TSame.but e n1 n2 fun b x n e => by rw [upd_ne n]; exact e
  exact ⟨a, ps, rfl, ⟨ob, by rw [upd_ne (fun z => by rw [z, e] at ea; exact n2 ob _ (Option.some.inj ea))]; exact ea, r⟩, Paired.mapP hp fun _ _ h => sqT_ts ts h⟩
theorem Tabs.put {K : PySem.W.Frag} {H : Hp} {d : Addr} {o u : HO} (e : H d = some o) (n1 : ∀ xs, o ≠ .tup xs) (n2 : ∀ ob xs, o ≠ .frz ob (.tup xs)) : ∀ {vs : List V} {ts : List (List Rw)}, Tabs K H vs ts → Tabs K (upd H d u) vs ts
  | _, _, .nil => .nil
  | _, _, .cons h r => .cons (h.put e n1 n2) (Tabs.put e n1 n2 r)
def tabsAt (rows : List Rw) (es : List Ent) (n : Nat) : List (List Rw) := (List.range n).map (tabAt rows es)
theorem DV.group {K : PySem.W.Frag} {H : Hp} {v : V} {cs : List Ch} (h : DV K H v (entD (.group cs))) : ∃ p x, v = .ref p ∧ SqT K H p [.str "group", x] ∧ DV K H x (chsD cs) := by
  cases h with
  | tup hs ha =>
    cases ha with
    | cons h1 h2 =>
      cases h1
      cases h2 with
      | cons h3 h4 =>
        cases h4
        exact ⟨_, _, rfl, hs, h3⟩
theorem DV.mark {K : PySem.W.Frag} {H : Hp} {v : V} {lo : Bool} {l n : Int} (h : DV K H v (entD (.mark lo l n))) : ∃ p, v = .ref p ∧ SqT K H p [.str (mkS lo), .int l, .int n] := by
  cases h with
  | tup hs ha =>
    cases ha with
    | cons h1 h2 =>
      cases h1
      cases h2 with
      | cons h3 h4 =>
        cases h3
        cases h4 with
        | cons h5 h6 =>
          cases h5
          cases h6
          exact ⟨_, rfl, hs⟩
theorem DV.put {K : PySem.W.Frag} {H : Hp} {v : V} {k w : Int} (h : DV K H v (chD (.put k w))) : ∃ p, v = .ref p ∧ SqT K H p [.str "put", .int k, .int w] := by
  cases h with
  | tup hs ha =>
    cases ha with
    | cons h1 h2 =>
      cases h1
      cases h2 with
      | cons h3 h4 =>
        cases h3
        cases h4 with
        | cons h5 h6 =>
          cases h5
          cases h6
          exact ⟨_, rfl, hs⟩
theorem DV.drop {K : PySem.W.Frag} {H : Hp} {v : V} {k : Int} (h : DV K H v (chD (.drop k))) : ∃ p, v = .ref p ∧ SqT K H p [.str "drop", .int k] := by
  cases h with
  | tup hs ha =>
    cases ha with
    | cons h1 h2 =>
      cases h1
      cases h2 with
      | cons h3 h4 =>
        cases h3
        cases h4
        exact ⟨_, rfl, hs⟩
theorem DV.chs {K : PySem.W.Frag} {H : Hp} {v : V} {cs : List Ch} (h : DV K H v (chsD cs)) : ∃ p xs, v = .ref p ∧ SqT K H p xs ∧ DVs K H xs (cs.map chD) := by
  cases h with
  | tup hs ha => exact ⟨_, _, rfl, hs, ha⟩
theorem TabAt.dK {K : PySem.W.Frag} {H : Hp} {v : V} {t : List Rw} {d : Addr} {kvs : List (Key × V)} {u : HO} (h : TabAt K H v t) (e : H d = some (.dK kvs)) : TabAt K (upd H d u) v t := h.put e (fun _ z => by cases z) (fun _ _ z => by cases z)
theorem Tabs.dK {K : PySem.W.Frag} {H : Hp} {vs : List V} {ts : List (List Rw)} {d : Addr} {kvs : List (Key × V)} {u : HO} (h : Tabs K H vs ts) (e : H d = some (.dK kvs)) : Tabs K (upd H d u) vs ts := h.put e (fun _ z => by cases z) (fun _ _ z => by cases z)
theorem Tabs.lst {K : PySem.W.Frag} {H : Hp} {vs : List V} {ts : List (List Rw)} {d : Addr} {xs : List V} {u : HO} (h : Tabs K H vs ts) (e : H d = some (.lst xs)) : Tabs K (upd H d u) vs ts := h.put e (fun _ z => by cases z) (fun _ _ z => by cases z)
end Tc

/-! enumerate(a tuple). -/
namespace Tc
open PySem PySem.Spec PyProof.Rows L2
theorem new_enumT (t : Addr) (c : Array Value) (m : Nat) (dx : Option Addr) (sx : Array (Option Value)) : Meets (Builtin.«enumerate.__new__» ⟨[.type "enumerate", .ref t], []⟩) (fun _ R s =>
      s.heap.get? t = some { cls := .type "tuple", dict := dx, data := .seq c m, slots := sx } ∧
      R (.ok (.ret (.ref (s.heap.push { cls := .type "tuple_iterator", data := .fields #[.ref t, .int 0 0] }).objs.size))) { s with heap := (s.heap.push { cls := .type "tuple_iterator", data := .fields #[.ref t, .int 0 0] }).push { cls := .type "enumerate", data := .fields #[.none, .bool false, .ref s.heap.objs.size, rawInt 0, .none, .none] } }) := .of_wp fun prog w A R s ⟨ht, q⟩ => by
    obtain ⟨hp, g, d, tk, os⟩ := s
    have hs := sub_enumerate
    have hT : Heap.IsTuple (Shared.heap ⟨hp, g, d, tk, os⟩) t c := ⟨_, ht, rfl, m, rfl⟩
    wp_walk using AutoSeq1.wpAny_loadPart' ht
    refine wpAny_stack_any fun st => wpAny_pure ?_
    split
    · rename_i z _ _ _ _ _
      cases (z == Value.type "enumerate") <;> (wp_walk using AutoSeq1.wpAny_loadPart' ht, wpAny_pyIter_tuple hT; exact ⟨_, rfl, q⟩)
    · wp_walk using AutoSeq1.wpAny_loadPart' ht, wpAny_pyIter_tuple hT
      exact ⟨_, rfl, q⟩
theorem call_enumT {prog : Program} {w : World} {A : Around} {E : Value → Shared → Prop} {s : Shared} {t : Addr} {c : Array Value} {Q : Value → Shared → Prop} (ht : IsTup s.heap t c)
    (h : ∀ h', IsEnum h' (s.heap.objs.size + 1) s.heap.objs.size 0 .none → h'.IsTupleIter s.heap.objs.size t 0 → (∀ b o, s.heap.get? b = some o → h'.get? b = some o) → Q (.ref (s.heap.objs.size + 1)) { s with heap := h' }) :
    wpAny (model prog w) A (call (.type "enumerate") [.ref t]) Q E s := by
  obtain ⟨⟨cl, dx, dt, sx⟩, e, hc, m, hd⟩ := ht
  have hc : cl = .type "tuple" := hc
  have hd : dt = .seq c m := hd
  subst hc hd
  refine callType_new F.called_enumerate (by decide) (F.typeCall_enumerate_1 _) (F.newCall_enumerate_1 _) (fun obj => F.args_object_init_2 obj _) F.entry_enumerate_new (new_enumT t c m dx sx) ⟨e, ?_⟩
  have hz : (s.heap.push { cls := .type "tuple_iterator", data := .fields #[.ref t, .int 0 0] }).objs.size = s.heap.objs.size + 1 := Heap.size_push ..
  show _ ∧ _
  rw [hz]
  have he : IsEnum ((s.heap.push { cls := .type "tuple_iterator", data := .fields #[.ref t, .int 0 0] }).push { cls := .type "enumerate", data := .fields #[.none, .bool false, .ref s.heap.objs.size, rawInt 0, .none, .none] }) (s.heap.objs.size + 1) s.heap.objs.size 0 .none := by
    have z := Heap.get?_push_size (s.heap.push { cls := .type "tuple_iterator", data := .fields #[.ref t, .int 0 0] }) (o := { cls := .type "enumerate", data := .fields #[.none, .bool false, .ref s.heap.objs.size, rawInt 0, .none, .none] }) rfl
    rw [hz] at z; exact z
  exact ⟨⟨_, he, rfl⟩, h _ he ⟨_, Heap.get?_push_of_some _ (Heap.get?_push_size s.heap (o := { cls := .type "tuple_iterator", data := .fields #[.ref t, .int 0 0] }) rfl), rfl, rfl⟩ fun b o x => Heap.get?_push_of_some _ (Heap.get?_push_of_some _ x)⟩
def IteT (K : PySem.W.Frag) (a : Addr) : It :=
  ⟨fun i H => ∃ (xs : List V) (x : V), SqT K H a xs ∧ xs[i]? = some x, fun i H v H' => ∃ T x, v = .ref T ∧ H T = none ∧ H' = upd H T (.tup [.int (i : Nat), x]) ∧ ∀ xs, SqT K H a xs → xs[i]? = some x, fun i H => ∃ xs : List V, SqT K H a xs ∧ xs.length ≤ i⟩
theorem tup_inj {X : Cx} {pins : List (Addr × Obj)} {σ : L2.St} {H : Hp} {s : Shared} {a : Addr} {xs ys : List V} (I : Inv X pins σ H s) (h : SqT X.K H a xs) (h' : SqT X.K H a ys) : xs = ys := by
  obtain ⟨i1, r1, ⟨o1, e1, _, n1, d1⟩, _⟩ := I.tuple h
  obtain ⟨i2, r2, ⟨o2, e2, _, n2, d2⟩, _⟩ := I.tuple h'
  have e := Option.some.inj (e1.symm.trans e2)
  subst e
  rw [d1] at d2
  injection d2 with d3 _
  have e3 : i1 = i2 := by simpa using d3
  subst e3
  exact Vals.inj r1 r2
theorem turn_enumT {P : Program} {w : World} {K : PySem.W.Frag} {elts : List Expr} {kk : Nat} {tpos : Pos} (a e it : Addr) :
    Turn P w K (.Tuple elts kk tpos) (IteT K a) [e, it] e (fun i h => (∃ old, IsEnum h e it ((i : Nat) : Int) old) ∧ h.IsTupleIter it a i ∧ e ≠ it ∧ a ≠ it ∧ a ≠ e) where
  mem := by simp
  obj := fun i h st b hb => by
    obtain ⟨⟨old, he⟩, ⟨o, ho, hc, hd⟩, _⟩ := st
    have z : b = e ∨ b = it := by simpa using hb
    rcases z with rfl | rfl
    · exact ⟨_, he, fun v q => nomatch q⟩
    · exact ⟨o, ho, fun v q => by rw [hd] at q; cases q⟩
  keep := fun i h h' st k => let ⟨⟨old, he⟩, hi, hne⟩ := st; ⟨⟨old, k e (by simp) _ he⟩, hi.at fun o q => k it (by simp) o q, hne⟩
  item := by
    intro X hP hw hK hc i pins s σ H E I hf st hg
    subst hP hw hK
    obtain ⟨⟨old, he⟩, hit, hne, hai, hae⟩ := st
    obtain ⟨xs, x, hq, hx⟩ := hg
    obtain ⟨its, rv, p, hz⟩ := I.tuple hq
    obtain ⟨u, hu, ru⟩ := rv.get hx
    have hel : e < s.heap.objs.size := Heap.lt_size he
    have hil : it < s.heap.objs.size := by obtain ⟨_, q, _⟩ := hit; exact Heap.lt_size q
    have hlt : i < its.toArray.size := by
      rw [List.size_toArray, ← rv.length]
      exact (List.getElem?_eq_some_iff.mp hx).1
    refine wpAny_pyNext_enum_itemD (PySem.Draws.tuple (A := X.A.in1) (I.ok.hd hc) it a hai its.toArray) he ⟨hit, p⟩ hlt hne (by simp; exact ⟨hne, fun z => hae z.symm⟩) fun y h' tk hy ho st' hT hsz hk => ?_
    have ey : y = u := by
      have z1 : its.toArray[i]? = some y := hy
      have z2 : its.toArray[i]? = some u := by simpa using hu
      rw [z1] at z2
      exact Option.some.inj z2
    subst ey
    refine ⟨_, rfl, wpAny_letOwnedTupleGo_enum (s := { s with heap := h', toks := tk + 1 }) ho fun h'' he' sb => ?_⟩
    have hT2 : h''.get? s.heap.objs.size = some { cls := .type "tuple", data := .seq #[.int i tk, y] } := (sb.2 _ (Nat.ne_of_gt hel)).trans hT
    have new : ObjOk X.prog X.w (upd H s.heap.objs.size (.tup [.int (i : Nat), x])) h'' s.heap.objs.size (.tup [.int (i : Nat), x]) :=
      ⟨by show 2 ≤ sizeLine; decide, [.int i tk, y], .cons ⟨_, rfl⟩ (.cons ru .nil), ⟨_, hT2, rfl, _, rfl⟩⟩
    have I1 : Inv X pins σ (upd H s.heap.objs.size (.tup [.int (i : Nat), x])) { s with heap := h'', toks := tk + 1 } :=
      I.turnedNew (ch := [e, it]) (fun b ob hb q => (sb.2 b (fun z => hb (by simp [z]))).trans (hk b ob (fun z => hb (by simp [z])) (fun z => hb (by simp [z])) q)) hf (Nat.le_refl _) new
    refine ⟨.ref s.heap.objs.size, _, I1, rfl, ⟨_, x, rfl, I.hok.fresh (Nat.le_refl _), rfl, fun ys hy => by rw [tup_inj I hy hq]; exact hx⟩, ⟨⟨y, ?_⟩, st'.1.at fun o q => (sb.2 it (Ne.symm hne)).trans q, hne, hai, hae⟩, fun b hb => ?_⟩
    · have e1 : ((i + 1 : Nat) : Int) = (i : Int) + 1 := by omega
      rw [e1]; exact he'
    · have hb' : b < s.heap.objs.size := by
        have z : b = e ∨ b = it := by simpa using hb
        rcases z with rfl | rfl
        · exact hel
        · exact hil
      rw [upd_ne (Nat.ne_of_lt hb')]
      exact (hf b hb).1
  done := by
    intro X hP hw hK hc i pins s σ H E I hf st hg
    subst hP hw hK
    obtain ⟨⟨old, he⟩, hit, hne, hai, hae⟩ := st
    obtain ⟨xs, hq, hx⟩ := hg
    obtain ⟨its, rv, p, hz⟩ := I.tuple hq
    obtain ⟨f0, f1, f2, f3, f4, f5⟩ := hf it (by simp)
    have hl := rv.length
    have D : Draws X.prog X.w X.A.in1 it [it, a] i (fun _ _ => False) (fun j h => j = i ∧ h.IsTupleIter it a i ∧ h.IsTuple a its.toArray) := {
      live := fun _ _ st => let ⟨o, ho, _⟩ := st.2.1; ⟨o, ho⟩
      frame := fun _ _ _ st hk => ⟨st.1, st.2.1.at fun o e => hk it (by simp) o e, st.2.2.at fun o e => hk a (by simp) o e⟩
      item := fun j s Q E hj st hQ => absurd st.1 (Nat.ne_of_lt hj)
      done := fun s Q E st hE => wpAny_nextOf_tuple_end (show X.A.in1.handled = none from I.ok.hd hc) st.2.1 st.2.2 (by simp; omega) hE }
    exact wpAny_pyNext_enum_endD D he ⟨rfl, hit, p⟩ fun h' eb => ⟨rfl, I.turned (t' := s.toks) (fun b o hb q => eb b o hb q) f0 f1 f3 f4 f5⟩
  self := fun A i s Q E st h => let ⟨⟨_, he⟩, _⟩ := st; wpAny_pyIter_enum he h
theorem walk_enumT {K : PySem.W.Frag} {a : Addr} {xs : List V} : Walk (IteT K a) xs.length (fun H => SqT K H a xs) (YPair (fun i => some (.int (i : Nat))) (fun i => xs[i]?)) := by
  refine ⟨fun i _ hi q => ⟨xs, xs[i], q, by simp [hi]⟩, fun _ q => ⟨xs, q, Nat.le_refl _⟩, fun i H v H' _ q y => ?_⟩
  obtain ⟨T, x, h1, h2, h3, h4⟩ := y
  exact ⟨T, .int (i : Nat), x, h1, h2, h3, rfl, h4 xs q⟩
end Tc

/-! Readings. -/
namespace Tc
open PySem PySem.Spec PyProof.Rows L2
def hitR (f l : Int) (r : Rw) : Bool := decide (f ≤ r.1) && decide (r.1 < l)
def findM (t : List Rw) (f l : Int) : Option Rw := t.find? (hitR f l)
def stopM : List Nat → Option (List Rw)
  | [] => some []
  | _ :: _ => none
def readM (ts : List (List Rw)) (l : Int) : Int → List Nat → Option (List Rw)
  | _, [] => none
  | f, m :: ms => match findM (ts.getD m []) f l with
    | none => stopM ms
    | some r => (readM ts l (r.1 + 1) ms).map (r :: ·)
theorem readM_stop {ts : List (List Rw)} {l f : Int} {m : Nat} (h : findM (ts.getD m []) f l = none) : readM ts l f [m] = some [] := by
  unfold readM
  rw [h]
  rfl
theorem readM_some {ts : List (List Rw)} {l f : Int} {m : Nat} {ms : List Nat} {r : Rw} (h : findM (ts.getD m []) f l = some r) : readM ts l f (m :: ms) = (readM ts l (r.1 + 1) ms).map (r :: ·) := by
  conv => lhs; unfold readM
  rw [h]
def OptRow (K : PySem.W.Frag) (H : Hp) (u : V) : Option Rw → Prop
  | none => u = .non
  | some r => ∃ p, u = .ref p ∧ SqT K H p [.int r.1, .int r.2]
theorem paired_get {K : PySem.W.Frag} {H : Hp} : ∀ {ps : List Addr} {t : List Rw} {k : Nat} {x : V}, Paired (fun p (r : Rw) => SqT K H p [.int r.1, .int r.2]) ps t → (ps.map V.ref)[k]? = some x → ∃ p r, x = .ref p ∧ t[k]? = some r ∧ SqT K H p [.int r.1, .int r.2]
  | _, _, 0, x, .cons (a := p) (b := r) h _, e => by cases e; exact ⟨p, r, rfl, rfl, h⟩
  | _, _, k + 1, x, .cons _ t, e => by
    rw [List.map_cons, List.getElem?_cons_succ] at e
    exact paired_get (k := k) t e
theorem tabs_get {K : PySem.W.Frag} {H : Hp} {ys : List V} {ts : List (List Rw)} {m : Nat} (h : Tabs K H ys ts) (lt : m < ts.length) : ∃ v, ys[m]? = some v ∧ TabAt K H v (ts.getD m []) := by
  have e : ts[m]? = some (ts.getD m []) := by rw [List.getD_eq_getElem?_getD, List.getElem?_eq_getElem lt]; rfl
  exact h.get e
theorem dv_of_row {K : PySem.W.Frag} {H : Hp} {p : Addr} {r : Rw} (h : SqT K H p [.int r.1, .int r.2]) : DV K H (.ref p) (rowD r) := .tup h (.cons (.int _) (.cons (.int _) .nil))
theorem map_nil {α : Type} (o : Option (List α)) : o.map (([] : List α) ++ ·) = o := by cases o <;> rfl
theorem Ent.In.mono {ks : List Int} {m n : Nat} {e : Ent} (h : e.In ks m) (hm : m ≤ n) : e.In ks n := by
  cases e with
  | group cs => exact ⟨h.1, Nat.le_trans h.2.1 hm, h.2.2⟩
  | mark => exact h
theorem LogIn.gr {K : PySem.W.Frag} {b : Addr} {H H' : Hp} {ks : List Int} {v : V} {rows : List Rw} {a : Addr} {xs : List V} {es : List Ent} (h : LogIn K H ks v rows a xs es) (hb : Bag H b) (n : a ≠ b) (g : Gr b H H') : LogIn K H' ks v rows a xs es :=
  ⟨h.1.gr hb g, h.2.1, h.2.2.1, g.2 _ _ n h.2.2.2.1, h.2.2.2.2.1.ts (g.ts hb) (noLs_ents es), h.2.2.2.2.2⟩
/-- tuples of moments -/
def Tups (K : PySem.W.Frag) (n : Nat) (H : Hp) (acc : List V) : Prop := ∀ x ∈ acc, ∃ (q : Addr) (ms : List Nat), x = .ref q ∧ SqT K H q (ms.map fun (m : Nat) => V.int m) ∧ (∀ m ∈ ms, m ≤ n) ∧ ms.length ≤ 9000
theorem Tups.ts {K : PySem.W.Frag} {n : Nat} {H H' : Hp} {acc : List V} (h : Tups K n H acc) (t : TSame H H') : Tups K n H' acc := fun x hx =>
  let ⟨q, ms, e, hs, r⟩ := h x hx
  ⟨q, ms, e, sqT_ts t hs, r⟩
/-- a slice as a thing that does not unfold -/
structure SlI (r : V → Option Int → Option Int → Hp → VK → Prop) (te : TE) (tl th : TO) (σ : L2.St) (H : Hp) (Q : VK) : Prop where
  h : tSl r te tl th σ H Q
end Tc

/-! Base.__init__(self, ..) in an own __init__, Base a class of the program that has none of its own. -/
namespace Tc
open PySem PySem.Spec PyProof.Rows L2
end Tc

/-! The least moments, plain. -/
namespace Tc
def firstM (ts : List (List Rw)) (l : Int) (hi lo : Nat) (f : Int) (o : Option Rw) : Option Nat := (List.range' lo (hi + 1 - lo)).find? fun m => decide (findM (ts.getD m []) f l = o)
end Tc

/-! The least moments: what the defs promise. -/
namespace Tc
open PySem PySem.Spec PyProof.Rows L2
def optD : Option Rw → PyData
  | none => .none
  | some r => rowD r
theorem OptRow.dv {K : PySem.W.Frag} {H : Hp} {u : V} {o : Option Rw} (h : OptRow K H u o) : DV K H u (optD o) := by
  cases o with
  | none =>
    have h : u = .non := h
    subst h
    exact .non
  | some r =>
    obtain ⟨p, rfl, hp⟩ := h
    exact dv_of_row hp
theorem OptRow.same {K : PySem.W.Frag} {H H' : Hp} {u : V} {o : Option Rw} (s : Same H H') (h : OptRow K H u o) : OptRow K H' u o := by
  cases o with
  | none => exact h
  | some r =>
    obtain ⟨p, e, hp⟩ := h
    exact ⟨p, e, same_tup s hp⟩
/-- rows of places -/
abbrev PR (K : PySem.W.Frag) (H : Hp) (ps : List Addr) (rs : List (List Nat)) : Prop := Paired (fun p (ms : List Nat) => SqT K H p (ms.map fun (m : Nat) => V.int m)) ps rs
theorem PR.same {K : PySem.W.Frag} {H H' : Hp} {ps : List Addr} {rs : List (List Nat)} (h : PR K H ps rs) (s : Same H H') : PR K H' ps rs := Paired.mapP h fun _ _ h => same_tup s h
theorem PR.ts {K : PySem.W.Frag} {H H' : Hp} {ps : List Addr} {rs : List (List Nat)} (h : PR K H ps rs) (s : TSame H H') : PR K H' ps rs := Paired.mapP h fun _ _ h => sqT_ts s h
theorem PR.app {K : PySem.W.Frag} {H : Hp} : ∀ {ps qs : List Addr} {rs ss : List (List Nat)}, PR K H ps rs → PR K H qs ss → PR K H (ps ++ qs) (rs ++ ss)
  | _, _, _, _, .nil, h => h
  | _, _, _, _, .cons a t, h => .cons a (PR.app t h)
theorem PR.get {K : PySem.W.Frag} {H : Hp} : ∀ {ps : List Addr} {rs : List (List Nat)} {k : Nat} {x : V}, PR K H ps rs → (ps.map V.ref)[k]? = some x → ∃ p ms, x = .ref p ∧ rs[k]? = some ms ∧ SqT K H p (ms.map fun (m : Nat) => V.int m)
  | _, _, 0, x, .cons (a := p) (b := r) h _, e => by cases e; exact ⟨p, r, rfl, rfl, h⟩
  | _, _, k + 1, x, .cons _ t, e => by
    rw [List.map_cons, List.getElem?_cons_succ] at e
    exact PR.get (k := k) t e
theorem flat_len {α β : Type} (g : α → List β) (c : Nat) : ∀ l : List α, (∀ x ∈ l, (g x).length ≤ c) → (l.flatMap g).length ≤ l.length * c
  | [], _ => by simp
  | x :: l, h => by
    have ih := flat_len g c l fun y hy => h y (List.mem_cons_of_mem _ hy)
    have h0 := h x List.mem_cons_self
    rw [List.flatMap_cons, List.length_append, List.length_cons, Nat.succ_mul]
    omega
end Tc

/-! For the law of the least moments. -/
namespace Tc
open PySem PySem.Spec PyProof.Rows L2
/-- a tuple of rows -/
def TD (K : PySem.W.Frag) (H : Hp) (x : V) : Prop := ∃ (q : Addr) (xs : List V) (rs : List Rw), x = .ref q ∧ SqT K H q xs ∧ DVs K H xs (rs.map rowD) ∧ rs.length ≤ 4000
theorem TD.same {K : PySem.W.Frag} {H H' : Hp} {x : V} (h : TD K H x) (s : Same H H') : TD K H' x := let ⟨q, xs, rs, e, a, b, c⟩ := h; ⟨q, xs, rs, e, same_tup s a, b.same s, c⟩
theorem PR.zip {K : PySem.W.Frag} {H : Hp} : ∀ {ps : List Addr} {rs : List (List Nat)}, PR K H ps rs → ((ps.map V.ref).zip rs).map (·.1) = ps.map V.ref ∧ ((ps.map V.ref).zip rs).map (·.2) = rs ∧ ∀ z ∈ (ps.map V.ref).zip rs, ∃ p, z.1 = .ref p ∧ SqT K H p (z.2.map fun (m : Nat) => V.int m)
  | _, _, .nil => ⟨rfl, rfl, fun z h => by cases h⟩
  | _, _, .cons (a := p) h t => by
    obtain ⟨h1, h2, h3⟩ := PR.zip t
    refine ⟨congrArg (_ :: ·) h1, congrArg (_ :: ·) h2, fun z hz => ?_⟩
    rcases List.mem_cons.mp hz with rfl | hz
    · exact ⟨p, rfl, h⟩
    · exact h3 z hz
end Tc

/-! What was read can have been: plain. -/
namespace Tc
end Tc

/-! Worlds: values told by what they hold, and a store of the things that change. -/
namespace Pv
open PySem PySem.Spec PyProof.Rows L2 Tc
/-- a value: things that never change by what they hold; ref i: the i-th thing of the store -/
inductive PV where
  | non | bl (b : Bool) | int (i : Int) | str (s : Str) | tup (xs : List PV) | fl (xs : List PV) | ro (xs : List PV) | ref (i : Nat) | ty (n : String)
inductive Ob where
  | lst (xs : List PV) | dic (kvs : List (Key × PV)) | ins (c : Str) (fs : List (Str × PV)) | box (n : Str) (x : PV) | gone
abbrev Sto := List Ob
abbrev En := List (Option PV)
/-- what is fixed: the written part, the module's names, what stands within a box -/
structure Gb where
  K : PySem.W.Frag
  mg : Str → Option Value
  ds : Str → PV → List Ob → Prop
/-- a world: the things that never change, where the store's things stand, what is another's -/
structure Wo where
  D : Hp
  ad : List Addr
  F : Hp
structure Wo.ex (W W' : Wo) : Prop where
  d : Same W.D W'.D
  a : ∀ (i : Nat) (x : Addr), W.ad[i]? = some x → W'.ad[i]? = some x
structure Wo.le (W W' : Wo) : Prop where
  d : Same W.D W'.D
  a : ∀ (i : Nat) (x : Addr), W.ad[i]? = some x → W'.ad[i]? = some x
  f : W'.F = W.F
theorem Wo.le.x {W W' : Wo} (l : W.le W') : W.ex W' := ⟨l.d, l.a⟩
theorem Wo.ex.trans {A B C : Wo} (x : A.ex B) (y : B.ex C) : A.ex C := ⟨x.d.trans y.d, fun i z h => y.a i z (x.a i z h)⟩
theorem Wo.le.refl (W : Wo) : W.le W := ⟨Same.refl _, fun _ _ h => h, rfl⟩
theorem Wo.le.trans {A B C : Wo} (x : A.le B) (y : B.le C) : A.le C := ⟨x.d.trans y.d, fun i z h => y.a i z (x.a i z h), y.f.trans x.f⟩
def Wo.dt (W : Wo) (p : Addr) (o : HO) : Wo := ⟨upd W.D p o, W.ad, W.F⟩
def KTup (K : PySem.W.Frag) (a : Addr) (xs : List V) : Prop := ∃ (o : Obj) (its : Array Value) (n : Nat), K.lookup a = some o ∧ o.cls = .type "tuple" ∧ o.dict = none ∧ o.data = .seq its n ∧ its.size ≤ sizeLine ∧ Vals xs its.toList
def TupD (K : PySem.W.Frag) (H : Hp) (a : Addr) (xs : List V) : Prop := Frz H a xs ∨ KTup K a xs
theorem TupD.sqT {K : PySem.W.Frag} {H : Hp} {a : Addr} {xs : List V} (h : TupD K H a xs) : SqT K H a xs := h.elim Frz.sqT fun ⟨o, its, n, h1, h2, _, h3, h4, h5⟩ => .inr ⟨o, its, n, h1, h2, h3, h4, h5⟩
theorem TupD.same {K : PySem.W.Frag} {H H' : Hp} {a : Addr} {xs : List V} (s : Same H H') (h : TupD K H a xs) : TupD K H' a xs := h.elim (fun h => .inl (h.same s)) .inr
mutual
inductive RV (K : PySem.W.Frag) (W : Wo) : V → PV → Prop
  | non : RV K W .non .non
  | bl (b : Bool) : RV K W (.bl b) (.bl b)
  | int (i : Int) : RV K W (.int i) (.int i)
  | str (x : Str) : RV K W (.str x) (.str x)
  | tup {a : Addr} {vs : List V} {xs : List PV} : TupD K W.D a vs → RVs K W vs xs → RV K W (.ref a) (.tup xs)
  | fl {a : Addr} {vs : List V} {xs : List PV} : W.D a = some (.lst vs) → RVs K W vs xs → RV K W (.ref a) (.fl xs)
  | ro {a : Addr} {vs : List V} {xs : List PV} : SqL K W.D a vs → RVs K W vs xs → RV K W (.ref a) (.ro xs)
  | ref {a : Addr} {i : Nat} : W.ad[i]? = some a → RV K W (.ref a) (.ref i)
  | ty (n : String) : RV K W (.ty n) (.ty n)
inductive RVs (K : PySem.W.Frag) (W : Wo) : List V → List PV → Prop
  | nil : RVs K W [] []
  | cons {v : V} {vs : List V} {x : PV} {xs : List PV} : RV K W v x → RVs K W vs xs → RVs K W (v :: vs) (x :: xs)
end
section
variable {K : PySem.W.Frag} {W W' : Wo}
mutual
theorem RV.monoX (e : W.ex W') : ∀ {v : V} {x : PV}, RV K W v x → RV K W' v x
  | _, _, .non => .non
  | _, _, .bl b => .bl b
  | _, _, .int i => .int i
  | _, _, .str x => .str x
  | _, _, .tup h t => .tup (h.same e.d) (RVs.monoX e t)
  | _, _, .fl h t => .fl (e.d _ _ h) (RVs.monoX e t)
  | _, _, .ro h t => .ro (e.d.seq h) (RVs.monoX e t)
  | _, _, .ref h => .ref (e.a _ _ h)
  | _, _, .ty n => .ty n
theorem RVs.monoX (e : W.ex W') : ∀ {v : List V} {x : List PV}, RVs K W v x → RVs K W' v x
  | _, _, .nil => .nil
  | _, _, .cons h t => .cons (RV.monoX e h) (RVs.monoX e t)
end
theorem RV.mono (e : W.le W') {v : V} {x : PV} (h : RV K W v x) : RV K W' v x := h.monoX e.x
theorem RVs.mono (e : W.le W') {v : List V} {x : List PV} (h : RVs K W v x) : RVs K W' v x := h.monoX e.x
theorem RVs.length : ∀ {v : List V} {x : List PV}, RVs K W v x → v.length = x.length
  | _, _, .nil => rfl
  | _, _, .cons _ t => congrArg (· + 1) (RVs.length t)
theorem RVs.get : ∀ {v : List V} {x : List PV} {i : Nat} {y : V}, RVs K W v x → v[i]? = some y → ∃ z, x[i]? = some z ∧ RV K W y z
  | _, _, _, _, .nil, e => by simp at e
  | _, _, 0, _, .cons (x := z) h t, e => ⟨z, rfl, by cases e; exact h⟩
  | _, _, i + 1, _, .cons h t, e => RVs.get (i := i) t (by simpa using e)
theorem RVs.get' : ∀ {v : List V} {x : List PV} {i : Nat} {z : PV}, RVs K W v x → x[i]? = some z → ∃ y, v[i]? = some y ∧ RV K W y z
  | _, _, _, _, .nil, e => by simp at e
  | _, _, 0, _, .cons (v := y) h t, e => ⟨y, rfl, by cases e; exact h⟩
  | _, _, i + 1, _, .cons h t, e => RVs.get' (i := i) t (by simpa using e)
theorem RVs.append : ∀ {v w : List V} {x y : List PV}, RVs K W v x → RVs K W w y → RVs K W (v ++ w) (x ++ y)
  | _, _, _, _, .nil, h => h
  | _, _, _, _, .cons h t, h2 => .cons h (RVs.append t h2)
theorem RVs.take : ∀ {v : List V} {x : List PV} (n : Nat), RVs K W v x → RVs K W (v.take n) (x.take n)
  | _, _, 0, _ => .nil
  | _, _, _ + 1, .nil => .nil
  | _, _, n + 1, .cons h t => .cons h (RVs.take n t)
theorem RVs.drop : ∀ {v : List V} {x : List PV} (n : Nat), RVs K W v x → RVs K W (v.drop n) (x.drop n)
  | _, _, 0, h => h
  | _, _, _ + 1, .nil => .nil
  | _, _, n + 1, .cons h t => RVs.drop n t
theorem RVs.set : ∀ {v : List V} {x : List PV} (n : Nat) {y : V} {z : PV}, RVs K W v x → RV K W y z → RVs K W (v.set n y) (x.set n z)
  | _, _, _, _, _, .nil, _ => .nil
  | _, _, 0, _, _, .cons h t, q => .cons q t
  | _, _, n + 1, _, _, .cons h t, q => .cons h (RVs.set n t q)
theorem RVs.snoc {v : List V} {x : List PV} {y : V} {z : PV} (h : RVs K W v x) (q : RV K W y z) : RVs K W (v ++ [y]) (x ++ [z]) := h.append (.cons q .nil)
theorem RVs.one {v : List V} {z : PV} (h : RVs K W v [z]) : ∃ y, v = [y] ∧ RV K W y z := by
  cases h with
  | cons h t => cases t; exact ⟨_, rfl, h⟩
theorem RVs.two {v : List V} {z1 z2 : PV} (h : RVs K W v [z1, z2]) : ∃ y1 y2, v = [y1, y2] ∧ RV K W y1 z1 ∧ RV K W y2 z2 := by
  cases h with
  | cons h t =>
    obtain ⟨y, rfl, q⟩ := t.one
    exact ⟨_, _, rfl, h, q⟩
end
/-! ### the store's things -/
def emp : Hp := fun _ => none
def one (a : Addr) (o : HO) : Hp := fun b => if b = a then some o else none
def two (a : Addr) (o : HO) (b : Addr) (u : HO) : Hp := fun c => if c = a then some o else if c = b then some u else none
theorem one_same {a : Addr} {o : HO} : one a o a = some o := if_pos rfl
theorem one_in {a b : Addr} {o : HO} (h : one a o b ≠ none) : b = a := by
  unfold one at h
  split at h
  · assumption
  · exact absurd rfl h
theorem one_some {a b : Addr} {o u : HO} (h : one a o b = some u) : b = a ∧ u = o := by
  unfold one at h
  split at h
  · exact ⟨by assumption, (Option.some.inj h).symm⟩
  · cases h
theorem two_in {a b c : Addr} {o u : HO} (h : two a o b u c ≠ none) : c = a ∨ c = b := by
  unfold two at h
  split at h
  · exact .inl (by assumption)
  · split at h
    · exact .inr (by assumption)
    · exact absurd rfl h
theorem two_fst {a b : Addr} {o u : HO} : two a o b u a = some o := if_pos rfl
theorem two_snd {a b : Addr} {o u : HO} (n : b ≠ a) : two a o b u b = some u := by
  unfold two
  rw [if_neg n, if_pos rfl]
def KVr (K : PySem.W.Frag) (W : Wo) : List (Key × V) → List (Key × PV) → Prop := Paired fun p q => p.1 = q.1 ∧ RV K W p.2 q.2
def FVr (K : PySem.W.Frag) (W : Wo) : List (Str × V) → List (Str × PV) → Prop := Paired fun p q => p.1 = q.1 ∧ RV K W p.2 q.2
theorem KVr.monoX {K : PySem.W.Frag} {W W' : Wo} (e : W.ex W') {a : List (Key × V)} {b : List (Key × PV)} (h : KVr K W a b) : KVr K W' a b := Paired.mapP h fun _ _ r => ⟨r.1, r.2.monoX e⟩
theorem FVr.monoX {K : PySem.W.Frag} {W W' : Wo} (e : W.ex W') {a : List (Str × V)} {b : List (Str × PV)} (h : FVr K W a b) : FVr K W' a b := Paired.mapP h fun _ _ r => ⟨r.1, r.2.monoX e⟩
theorem KVr.mono {K : PySem.W.Frag} {W W' : Wo} (e : W.le W') {a : List (Key × V)} {b : List (Key × PV)} (h : KVr K W a b) : KVr K W' a b := h.monoX e.x
theorem FVr.mono {K : PySem.W.Frag} {W W' : Wo} (e : W.le W') {a : List (Str × V)} {b : List (Str × PV)} (h : FVr K W a b) : FVr K W' a b := h.monoX e.x
/-- parts of a heap, none in two of them -/
def Dj (hs : List Hp) : Prop := ∀ (i j : Nat) (h k : Hp) (x : Addr), hs[i]? = some h → hs[j]? = some k → i ≠ j → h x ≠ none → k x = none
def All (hs : List Hp) (u : Hp) : Prop := (∀ h ∈ hs, Same h u) ∧ ∀ x, u x ≠ none → ∃ h ∈ hs, h x ≠ none
/-- the thing o stands at a, in the part h of the heap -/
inductive ObR (G : Gb) : Wo → Addr → Ob → Hp → Prop
  | lst {W : Wo} {a : Addr} {vs : List V} {xs : List PV} : RVs G.K W vs xs → ObR G W a (.lst xs) (one a (.lst vs))
  | dic {W : Wo} {a : Addr} {vs : List (Key × V)} {xs : List (Key × PV)} : KVr G.K W vs xs → ObR G W a (.dic xs) (one a (.dK vs))
  | ins {W : Wo} {a dx c : Addr} {n : Str} {vs : List (Str × V)} {xs : List (Str × PV)} : G.mg n = some (.ref c) → FVr G.K W vs xs → dx ≠ a → ObR G W a (.ins n xs) (two a (.ins c dx vs) dx (.own a))
  | gone {W : Wo} {a : Addr} : ObR G W a .gone emp
  | box {W : Wo} {a : Addr} {n : Str} {x : PV} {es : List Ob} {as : List Addr} {hs : List Hp} {u : Hp} : G.ds n x es → as.length = es.length → hs.length = es.length → as[0]? = some a →
      (∀ (j : Nat) (o : Ob) (b : Addr) (h : Hp), es[j]? = some o → as[j]? = some b → hs[j]? = some h → ObR G ⟨W.D, as, W.F⟩ b o h) → Dj hs → All hs u → ObR G W a (.box n x) u
theorem ObR.monoX {G : Gb} {W : Wo} {a : Addr} {o : Ob} {h : Hp} (r : ObR G W a o h) : ∀ {W' : Wo}, W.ex W' → ObR G W' a o h := by
  induction r with
  | lst q => intro W' e; exact .lst (q.monoX e)
  | dic q => intro W' e; exact .dic (q.monoX e)
  | ins m q n => intro W' e; exact .ins m (q.monoX e) n
  | gone => intro W' e; exact .gone
  | box q l1 l2 h0 hr dj al ih => intro W' e; exact .box q l1 l2 h0 (fun j o b h e1 e2 e3 => ih j o b h e1 e2 e3 (W' := ⟨W'.D, _, W'.F⟩) ⟨e.d, fun _ _ h => h⟩) dj al
theorem ObR.mono {G : Gb} {W : Wo} {a : Addr} {o : Ob} {h : Hp} (r : ObR G W a o h) {W' : Wo} (e : W.le W') : ObR G W' a o h := r.monoX e.x
/-- the heap is as the world and the store tell -/
structure WdH (G : Gb) (W : Wo) (S : Sto) (H : Hp) (hs : List Hp) : Prop where
  len : W.ad.length = S.length
  hlen : hs.length = S.length
  dat : Same W.D H
  frm : Same W.F H
  offD : ∀ x, W.F x ≠ none → W.D x = none
  offF : ∀ (i : Nat) (h : Hp) (x : Addr), hs[i]? = some h → h x ≠ none → W.F x = none
  sub : ∀ (i : Nat) (h : Hp), hs[i]? = some h → Same h H
  off : ∀ (i : Nat) (h : Hp) (x : Addr), hs[i]? = some h → h x ≠ none → W.D x = none
  dj : Dj hs
  rep : ∀ (i : Nat) (o : Ob), S[i]? = some o → ∃ a h, W.ad[i]? = some a ∧ hs[i]? = some h ∧ ObR G W a o h
def Wd (G : Gb) (W : Wo) (S : Sto) (H : Hp) : Prop := ∃ hs, WdH G W S H hs
theorem Wd.dat {G : Gb} {W : Wo} {S : Sto} {H : Hp} (w : Wd G W S H) : Same W.D H := let ⟨_, w⟩ := w; w.dat
theorem Wd.len {G : Gb} {W : Wo} {S : Sto} {H : Hp} (w : Wd G W S H) : W.ad.length = S.length := let ⟨_, w⟩ := w; w.len
theorem Wd.frm {G : Gb} {W : Wo} {S : Sto} {H : Hp} (w : Wd G W S H) : Same W.F H := let ⟨_, w⟩ := w; w.frm
theorem none_of {H H' : Hp} {p : Addr} (s : Same H H') (h : H' p = none) : H p = none := by
  cases e : H p with
  | none => rfl
  | some u => rw [s _ _ e] at h; cases h
theorem some_ne {α : Type} {o : Option α} {x : α} (h : o = some x) : o ≠ none := by rw [h]; exact fun z => nomatch z
/-- more may stand in the heap -/
theorem Wd.more {G : Gb} {W : Wo} {S : Sto} {H H' : Hp} (w : Wd G W S H) (s : Same H H') : Wd G W S H' := by
  obtain ⟨hs, w⟩ := w
  exact ⟨hs, w.len, w.hlen, w.dat.trans s, w.frm.trans s, w.offD, w.offF, fun i h e => (w.sub i h e).trans s, w.off, w.dj, w.rep⟩
/-- a new thing that never changes -/
theorem Wd.data {G : Gb} {W : Wo} {S : Sto} {H : Hp} {p : Addr} {o : HO} (w : Wd G W S H) (hp : H p = none) : Wd G (W.dt p o) S (upd H p o) ∧ W.le (W.dt p o) := by
  obtain ⟨hs, w⟩ := w
  have dp : W.D p = none := none_of w.dat hp
  have fp : W.F p = none := none_of w.frm hp
  have le : W.le (W.dt p o) := ⟨same_upd dp, fun _ _ h => h, rfl⟩
  have hn : ∀ (i : Nat) (h : Hp), hs[i]? = some h → ∀ x, h x ≠ none → x ≠ p := fun i h e x hx z => by
    subst z
    cases e2 : h x with
    | none => exact hx e2
    | some u => rw [w.sub i h e _ _ e2] at hp; cases hp
  refine ⟨⟨hs, w.len, w.hlen, fun a u e => ?_, fun a u e => ?_, fun x hx => ?_, w.offF, fun i h e x u ex => ?_, fun i h x e hx => ?_, w.dj, fun i ob e => ?_⟩, le⟩
  · have e : (upd W.D p o) a = some u := e
    by_cases n : a = p
    · subst n; rw [upd_same] at e ⊢; exact e
    · rw [upd_ne n] at e ⊢; exact w.dat _ _ e
  · have e : W.F a = some u := e
    rw [upd_ne (fun z => by rw [z, fp] at e; cases e)]
    exact w.frm _ _ e
  · have hx : W.F x ≠ none := hx
    show (upd W.D p o) x = none
    rw [upd_ne (fun z => hx (by rw [z]; exact fp))]
    exact w.offD x hx
  · rw [upd_ne (hn i h e x (some_ne ex))]
    exact w.sub i h e x u ex
  · show (upd W.D p o) x = none
    rw [upd_ne (hn i h e x hx)]
    exact w.off i h x e hx
  · obtain ⟨a, h, e1, e2, r⟩ := w.rep i ob e
    exact ⟨a, h, e1, e2, r.mono le⟩
/-- the thing at i is told anew: its part of the heap is h', within what it was -/
theorem WdH.chg {G : Gb} {W : Wo} {S : Sto} {H H' : Hp} {hs : List Hp} {i : Nat} {a : Addr} {h h' : Hp} {o : Ob} (w : WdH G W S H hs) (e1 : W.ad[i]? = some a) (e2 : hs[i]? = some h) (r : ObR G W a o h')
    (dom : ∀ x, h' x ≠ none → h x ≠ none) (out : ∀ x, h x = none → ∀ u, H x = some u → H' x = some u) (ins : Same h' H') : WdH G W (S.set i o) H' (hs.set i h') := by
  have il : i < hs.length := (List.getElem?_eq_some_iff.mp e2).1
  have gs : ∀ (j : Nat) (k : Hp), (hs.set i h')[j]? = some k → (j = i ∧ k = h') ∨ (j ≠ i ∧ hs[j]? = some k) := fun j k e => by
    by_cases n : j = i
    · subst n
      rw [List.getElem?_set_self il] at e
      exact .inl ⟨rfl, (Option.some.inj e).symm⟩
    · rw [List.getElem?_set_ne (Ne.symm n)] at e
      exact .inr ⟨n, e⟩
  refine ⟨by rw [List.length_set]; exact w.len, by rw [List.length_set, List.length_set]; exact w.hlen, fun x u e => ?_, fun x u e => ?_, w.offD, fun j k x e hx => ?_, fun j k e x u ex => ?_, fun j k x e hx => ?_, fun j l k m x ej el n hx => ?_, fun j ob e => ?_⟩
  · refine out x ?_ u (w.dat _ _ e)
    cases q : h x with
    | none => rfl
    | some z =>
      have := w.off i h x e2 (some_ne q)
      rw [e] at this; cases this
  · refine out x ?_ u (w.frm _ _ e)
    cases q : h x with
    | none => rfl
    | some z =>
      have := w.offF i h x e2 (some_ne q)
      rw [e] at this; cases this
  · rcases gs j k e with ⟨_, rfl⟩ | ⟨n, e⟩
    · exact w.offF i h x e2 (dom x hx)
    · exact w.offF j k x e hx
  · rcases gs j k e with ⟨_, rfl⟩ | ⟨n, e⟩
    · exact ins x u ex
    · refine out x ?_ u (w.sub j k e x u ex)
      exact w.dj j i k h x e e2 n (by rw [ex]; exact fun z => nomatch z)
  · rcases gs j k e with ⟨_, rfl⟩ | ⟨n, e⟩
    · exact w.off i h x e2 (dom x hx)
    · exact w.off j k x e hx
  · rcases gs j k ej with ⟨ji, kh⟩ | ⟨n1, ej'⟩
    · subst kh
      rcases gs l m el with ⟨li, mh⟩ | ⟨n2, el'⟩
      · exact absurd (ji.trans li.symm) n
      · exact w.dj i l h m x e2 el' (Ne.symm n2) (dom x hx)
    · rcases gs l m el with ⟨li, mh⟩ | ⟨n2, el'⟩
      · cases q : m x with
        | none => rfl
        | some z =>
          have h1 := w.dj i j h k x e2 ej' (Ne.symm n1) (dom x (by rw [← mh, q]; exact fun z => nomatch z))
          exact absurd h1 hx
      · exact w.dj j l k m x ej' el' n hx
  · have si : i < S.length := by rw [← w.hlen]; exact il
    by_cases n : j = i
    · subst n
      rw [List.getElem?_set_self si] at e
      cases e
      exact ⟨a, h', e1, by rw [List.getElem?_set_self il], r⟩
    · rw [List.getElem?_set_ne (Ne.symm n)] at e
      obtain ⟨b, k, q1, q2, q3⟩ := w.rep j ob e
      exact ⟨b, k, q1, by rw [List.getElem?_set_ne (Ne.symm n)]; exact q2, q3⟩
theorem get_push {α : Type} {l : List α} {x y : α} {i : Nat} (h : (l ++ [x])[i]? = some y) : (i < l.length ∧ l[i]? = some y) ∨ (i = l.length ∧ y = x) := by
  by_cases n : i < l.length
  · rw [List.getElem?_append_left n] at h
    exact .inl ⟨n, h⟩
  · rw [List.getElem?_append_right (by omega)] at h
    have := (List.getElem?_eq_some_iff.mp h).1
    have e : i - l.length = 0 := by simp at this; omega
    rw [e] at h
    exact .inr ⟨by omega, (Option.some.inj h).symm⟩
theorem push_get {α : Type} {l : List α} {x y : α} {i : Nat} (h : l[i]? = some y) : (l ++ [x])[i]? = some y := by
  rw [List.getElem?_append_left (List.getElem?_eq_some_iff.mp h).1]
  exact h
theorem push_last {α : Type} {l : List α} {x : α} : (l ++ [x])[l.length]? = some x := by simp
def Wo.push (W : Wo) (p : Addr) : Wo := ⟨W.D, W.ad ++ [p], W.F⟩
theorem Wo.le_push (W : Wo) (p : Addr) : W.le (W.push p) := ⟨Same.refl _, fun _ _ h => push_get h, rfl⟩
/-- a new thing of the store -/
theorem Wd.push {G : Gb} {W : Wo} {S : Sto} {H H' : Hp} {p : Addr} {h : Hp} {o : Ob} (w : Wd G W S H) (hn : ∀ x, h x ≠ none → H x = none) (out : Same H H') (ins : Same h H') (r : ObR G (W.push p) p o h) : Wd G (W.push p) (S ++ [o]) H' := by
  obtain ⟨hs, w⟩ := w
  refine ⟨hs ++ [h], by show (W.ad ++ [p]).length = _; rw [List.length_append, List.length_append, w.len]; rfl, by rw [List.length_append, List.length_append, w.hlen]; rfl, fun x u e => out _ _ (w.dat x u e), fun x u e => out _ _ (w.frm x u e), w.offD, fun j k x e hx => ?_, fun j k e x u ex => ?_, fun j k x e hx => ?_, fun i j k l x ei ej n hx => ?_, fun j ob e => ?_⟩
  · rcases get_push e with ⟨_, e⟩ | ⟨_, rfl⟩
    · exact w.offF j k x e hx
    · exact none_of w.frm (hn x hx)
  · rcases get_push e with ⟨_, e⟩ | ⟨_, rfl⟩
    · exact out _ _ (w.sub j k e x u ex)
    · exact ins _ _ ex
  · rcases get_push e with ⟨_, e⟩ | ⟨_, rfl⟩
    · exact w.off j k x e hx
    · show W.D x = none
      cases q : W.D x with
      | none => rfl
      | some u => have := w.dat _ _ q; rw [hn x hx] at this; cases this
  · rcases get_push ei with ⟨_, ei'⟩ | ⟨li, kh⟩
    · rcases get_push ej with ⟨_, ej'⟩ | ⟨lj, lh⟩
      · exact w.dj i j k l x ei' ej' n hx
      · cases q : l x with
        | none => rfl
        | some u =>
          have h1 := hn x (by rw [← lh, q]; exact fun z => nomatch z)
          cases q2 : k x with
          | none => exact absurd q2 hx
          | some z => rw [w.sub i k ei' x z q2] at h1; cases h1
    · rcases get_push ej with ⟨_, ej'⟩ | ⟨lj, lh⟩
      · cases q : l x with
        | none => rfl
        | some u => have := w.sub j l ej' x u q; rw [hn x (by rw [← kh]; exact hx)] at this; cases this
      · exact absurd (li.trans lj.symm) n
  · rcases get_push e with ⟨_, e⟩ | ⟨je, rfl⟩
    · obtain ⟨a, k, e1, e2, q⟩ := w.rep j ob e
      exact ⟨a, k, push_get e1, push_get e2, q.mono (W.le_push p)⟩
    · refine ⟨p, h, ?_, ?_, r⟩
      · rw [je, ← w.len]; exact push_last
      · rw [je, ← w.hlen]; exact push_last
theorem one_upd {H : Hp} {p : Addr} {o : HO} : Same (one p o) (upd H p o) := fun x u e => by
  obtain ⟨rfl, rfl⟩ := one_some e
  exact upd_same
theorem Wd.push1 {G : Gb} {W : Wo} {S : Sto} {H : Hp} {p : Addr} {u : HO} {o : Ob} (w : Wd G W S H) (hp : H p = none) (r : ObR G (W.push p) p o (one p u)) : Wd G (W.push p) (S ++ [o]) (upd H p u) :=
  w.push (fun x hx => by rw [one_in hx]; exact hp) (same_upd hp) one_upd r
/-- a list of the store -/
theorem Wd.lst {G : Gb} {W : Wo} {S : Sto} {H : Hp} {i : Nat} {a : Addr} {xs : List PV} (w : Wd G W S H) (ha : W.ad[i]? = some a) (e : S[i]? = some (.lst xs)) :
    ∃ vs, H a = some (.lst vs) ∧ RVs G.K W vs xs ∧ ∀ vs' xs', RVs G.K W vs' xs' → Wd G W (S.set i (.lst xs')) (upd H a (.lst vs')) := by
  obtain ⟨hs, w⟩ := w
  obtain ⟨b, h, e1, e2, r⟩ := w.rep i _ e
  rw [ha] at e1; cases e1
  cases r with
  | lst q =>
    rename_i vs
    refine ⟨vs, w.sub i _ e2 _ _ one_same, q, fun vs' xs' q' => ⟨_, w.chg ha e2 (.lst q') (fun x hx => ?_) (fun x hx u eu => ?_) one_upd⟩⟩
    · rw [one_in hx, one_same]; exact fun z => nomatch z
    · rw [upd_ne (fun z => by rw [z, one_same] at hx; cases hx)]; exact eu
theorem Wd.dic {G : Gb} {W : Wo} {S : Sto} {H : Hp} {i : Nat} {a : Addr} {xs : List (Key × PV)} (w : Wd G W S H) (ha : W.ad[i]? = some a) (e : S[i]? = some (.dic xs)) :
    ∃ vs, H a = some (.dK vs) ∧ KVr G.K W vs xs ∧ ∀ vs' xs', KVr G.K W vs' xs' → Wd G W (S.set i (.dic xs')) (upd H a (.dK vs')) := by
  obtain ⟨hs, w⟩ := w
  obtain ⟨b, h, e1, e2, r⟩ := w.rep i _ e
  rw [ha] at e1; cases e1
  cases r with
  | dic q =>
    rename_i vs
    refine ⟨vs, w.sub i _ e2 _ _ one_same, q, fun vs' xs' q' => ⟨_, w.chg ha e2 (.dic q') (fun x hx => ?_) (fun x hx u eu => ?_) one_upd⟩⟩
    · rw [one_in hx, one_same]; exact fun z => nomatch z
    · rw [upd_ne (fun z => by rw [z, one_same] at hx; cases hx)]; exact eu
theorem Wd.ins {G : Gb} {W : Wo} {S : Sto} {H : Hp} {i : Nat} {a : Addr} {n : Str} {xs : List (Str × PV)} (w : Wd G W S H) (ha : W.ad[i]? = some a) (e : S[i]? = some (.ins n xs)) :
    ∃ c dx vs, G.mg n = some (.ref c) ∧ H a = some (.ins c dx vs) ∧ FVr G.K W vs xs ∧ ∀ vs' xs', FVr G.K W vs' xs' → Wd G W (S.set i (.ins n xs')) (upd H a (.ins c dx vs')) := by
  obtain ⟨hs, w⟩ := w
  obtain ⟨b, h, e1, e2, r⟩ := w.rep i _ e
  rw [ha] at e1; cases e1
  cases r with
  | ins m q ne =>
    rename_i dx c vs
    refine ⟨c, dx, vs, m, w.sub i _ e2 _ _ two_fst, q, fun vs' xs' q' => ⟨_, w.chg ha e2 (.ins m q' ne) (fun x hx => ?_) (fun x hx u eu => ?_) (fun x u eu => ?_)⟩⟩
    · rcases two_in hx with rfl | rfl
      · rw [two_fst]; exact fun z => nomatch z
      · rw [two_snd ne]; exact fun z => nomatch z
    · rw [upd_ne (fun z => by rw [z, two_fst] at hx; cases hx)]; exact eu
    · by_cases n : x = a
      · subst n; rw [two_fst] at eu; rw [upd_same]; exact eu
      · have z : x = dx := (two_in (by rw [eu]; exact fun z => nomatch z)).resolve_left n
        subst z
        rw [upd_ne n]
        rw [two_snd ne] at eu
        cases eu
        exact w.sub i _ e2 _ _ (two_snd ne)
def del (H : Hp) (a : Addr) : Hp := fun b => if b = a then none else H b
theorem del_same {H : Hp} {a : Addr} : del H a a = none := if_pos rfl
theorem del_ne {H : Hp} {a b : Addr} (h : b ≠ a) : del H a b = H b := if_neg h
theorem del_sub {H : Hp} {a : Addr} : Same (del H a) H := fun b o e => by
  unfold del at e
  split at e
  · cases e
  · exact e
theorem del_upd {H : Hp} {a : Addr} {o : HO} (h : H a = some o) : upd (del H a) a o = H := by
  funext b
  by_cases n : b = a
  · subst n; rw [upd_same, h]
  · rw [upd_ne n, del_ne n]
theorem upd_del {H : Hp} {a : Addr} {o : HO} (h : H a = none) : del (upd H a o) a = H := by
  funext b
  by_cases n : b = a
  · subst n; rw [del_same, h]
  · rw [del_ne n, upd_ne n]
theorem del_put {H : Hp} {a : Addr} {o : HO} : del (upd H a o) a = del H a := by
  funext b
  by_cases n : b = a
  · subst n; rw [del_same, del_same]
  · rw [del_ne n, del_ne n, upd_ne n]
/-- a thing that is another's meanwhile -/
def Wo.fr (W : Wo) (p : Addr) (o : HO) : Wo := ⟨W.D, W.ad, upd W.F p o⟩
theorem Wd.addF {G : Gb} {W : Wo} {S : Sto} {H : Hp} {p : Addr} {o : HO} (w : Wd G W S (del H p)) (hp : H p = some o) : Wd G (W.fr p o) S H := by
  obtain ⟨hs, w⟩ := w
  have own : ∀ (i : Nat) (h : Hp) (x : Addr), hs[i]? = some h → h x ≠ none → x ≠ p := fun i h x e hx z => by
    subst z
    cases q : h x with
    | none => exact hx q
    | some u => have := w.sub i h e _ _ q; rw [del_same] at this; cases this
  refine ⟨hs, w.len, w.hlen, w.dat.trans del_sub, fun x u e => ?_, fun x hx => ?_, fun i h x e hx => ?_, fun i h e => (w.sub i h e).trans del_sub, w.off, w.dj, fun i ob e => ?_⟩
  · have e : (upd W.F p o) x = some u := e
    by_cases n : x = p
    · subst n; rw [upd_same] at e; rw [hp]; exact e
    · rw [upd_ne n] at e; exact del_sub _ _ (w.frm _ _ e)
  · have hx : (upd W.F p o) x ≠ none := hx
    by_cases n : x = p
    · subst n; exact none_of w.dat del_same
    · rw [upd_ne n] at hx; exact w.offD x hx
  · show (upd W.F p o) x = none
    rw [upd_ne (own i h x e hx)]
    exact w.offF i h x e hx
  · obtain ⟨a, h, e1, e2, r⟩ := w.rep i ob e
    exact ⟨a, h, e1, e2, r.monoX ⟨Same.refl _, fun _ _ h => h⟩⟩
theorem Wd.subF {G : Gb} {W : Wo} {S : Sto} {H F : Hp} {p : Addr} {o : HO} (w : Wd G W S H) (hf : W.F = upd F p o) (hp : F p = none) : H p = some o ∧ Wd G ⟨W.D, W.ad, F⟩ S (del H p) := by
  obtain ⟨hs, w⟩ := w
  have fp : W.F p = some o := by rw [hf]; exact upd_same
  have sf : Same F W.F := fun x u e => by rw [hf, upd_ne (fun z => by rw [z, hp] at e; cases e)]; exact e
  have dp : W.D p = none := w.offD p (some_ne fp)
  refine ⟨w.frm _ _ fp, hs, w.len, w.hlen, fun x u e => ?_, fun x u e => ?_, fun x hx => ?_, fun i h x e hx => ?_, fun i h e x u ex => ?_, w.off, w.dj, fun i ob e => ?_⟩
  · have e : W.D x = some u := e
    rw [del_ne (fun z => by rw [z, dp] at e; cases e)]
    exact w.dat _ _ e
  · have e : F x = some u := e
    rw [del_ne (fun z => by rw [z, hp] at e; cases e)]
    exact w.frm _ _ (sf _ _ e)
  · have hx : F x ≠ none := hx
    cases q : F x with
    | none => exact absurd q hx
    | some u => exact w.offD x (some_ne (sf _ _ q))
  · exact none_of sf (w.offF i h x e hx)
  · rw [del_ne (fun z => by
      have := w.offF i h x e (some_ne ex)
      rw [z, fp] at this; cases this)]
    exact w.sub i h e _ _ ex
  · obtain ⟨a, h, e1, e2, r⟩ := w.rep i ob e
    exact ⟨a, h, e1, e2, r.monoX ⟨Same.refl _, fun _ _ h => h⟩⟩
end Pv

/-! What a piece of text gives: a value and the store behind it, an exception, or nothing told. -/
namespace Pv
open PySem PySem.Spec PyProof.Rows L2 Tc
/-- an exception: its class, its field and what it holds -/
structure Ex where
  c : Str
  f : Str
  v : PV
inductive ER (α : Type) where
  | ok (a : α) (S : Sto) | ex (e : Ex) (S : Sto) | err
def ER.bind {α β : Type} (m : ER α) (f : α → Sto → ER β) : ER β := match m with
  | .ok a S => f a S
  | .ex e S => .ex e S
  | .err => .err
abbrev ME (α : Type) := En → Sto → ER α
def optR {α : Type} (o : Option α) (S : Sto) : ER α := match o with
  | some a => .ok a S
  | none => .err
def ExR (G : Gb) (W : Wo) (cls : Value) (d : Option Addr) (e : Ex) : Prop := ∃ a, G.mg e.c = some (.ref a) ∧ cls = .ref a ∧ (e.f ≠ "" → ∃ dd v, d = some dd ∧ W.D dd = some (.xd [(e.f, v)]) ∧ RV G.K W v e.v) ∧ (e.f = "" → d = none)
theorem ExR.mono {G : Gb} {W W' : Wo} {cls : Value} {d : Option Addr} {e : Ex} (h : ExR G W cls d e) (l : W.le W') : ExR G W' cls d e := by
  obtain ⟨a, h1, h2, h3, h4⟩ := h
  refine ⟨a, h1, h2, fun n => ?_, h4⟩
  obtain ⟨dd, v, e1, e2, e3⟩ := h3 n
  exact ⟨dd, v, e1, l.d _ _ e2, e3.mono l⟩
/-- what is wanted behind it -/
def kR {α β : Type} (G : Gb) (rel : Wo → β → α → Prop) (W : Wo) (Q : β → Hp → Prop) (E : XK) : ER α → Prop
  | .ok a S => ∀ W' H v, W.le W' → Wd G W' S H → rel W' v a → Q v H
  | .ex e S => ∀ W' H cls d, W.le W' → Wd G W' S H → ExR G W' cls d e → E cls d H
  | .err => False
section
variable {α β γ δ : Type} {G : Gb} {rel : Wo → β → α → Prop} {rel1 : Wo → δ → γ → Prop} {W W' : Wo} {Q : β → Hp → Prop} {Q1 : δ → Hp → Prop} {E : XK}
theorem kR.mono {r : ER α} (h : kR G rel W Q E r) (l : W.le W') : kR G rel W' Q E r := by
  cases r with
  | ok a S => exact fun W2 H v l2 => h W2 H v (l.trans l2)
  | ex e S => exact fun W2 H c d l2 => h W2 H c d (l.trans l2)
  | err => exact h
theorem kR_bind {m : ER γ} {f : γ → Sto → ER α} (h : kR G rel W Q E (m.bind f)) (k : ∀ a S W' H v, W.le W' → Wd G W' S H → rel1 W' v a → kR G rel W' Q E (f a S) → Q1 v H) : kR G rel1 W Q1 E m := by
  cases m with
  | ok a S => exact fun W2 H v l w r => k a S W2 H v l w r (kR.mono h l)
  | ex e S => exact h
  | err => exact h
theorem kR_opt {o : Option α} {S : Sto} (h : kR G rel W Q E (optR o S)) : ∃ a, o = some a ∧ ∀ W' H v, W.le W' → Wd G W' S H → rel W' v a → Q v H := by
  cases o with
  | none => exact h.elim
  | some a => exact ⟨a, rfl, h⟩
end
/-- the slots -/
def EnR (K : PySem.W.Frag) (W : Wo) (σ : L2.St) (env : En) : Prop := Paired (fun (o : Option V) (p : Option PV) => ∀ x, p = some x → ∃ v, o = some v ∧ RV K W v x) σ env
theorem EnR.mono {K : PySem.W.Frag} {W W' : Wo} {σ : L2.St} {env : En} (h : EnR K W σ env) (l : W.le W') : EnR K W' σ env := Paired.mapP h fun _ _ r x e => let ⟨v, e1, e2⟩ := r x e; ⟨v, e1, e2.mono l⟩
theorem paired_get {α β : Type} {F : α → β → Prop} : ∀ {xs : List α} {ys : List β} {i : Nat} {y : β}, Paired F xs ys → ys[i]? = some y → ∃ x, xs[i]? = some x ∧ F x y
  | _, _, _, _, .nil, e => by simp at e
  | _, _, 0, _, .cons (a := x) h t, e => ⟨x, rfl, by cases e; exact h⟩
  | _, _, i + 1, _, .cons h t, e => paired_get (i := i) t (by simpa using e)
theorem paired_set {α β : Type} {F : α → β → Prop} : ∀ {xs : List α} {ys : List β} (i : Nat) {x : α} {y : β}, Paired F xs ys → F x y → Paired F (xs.set i x) (ys.set i y)
  | _, _, _, _, _, .nil, _ => .nil
  | _, _, 0, _, _, .cons h t, q => .cons q t
  | _, _, i + 1, _, _, .cons h t, q => .cons h (paired_set i t q)
theorem EnR.get {K : PySem.W.Frag} {W : Wo} {σ : L2.St} {env : En} {i : Nat} {x : PV} (h : EnR K W σ env) (e : env[i]? = some (some x)) : ∃ v, σ[i]? = some (some v) ∧ RV K W v x := by
  obtain ⟨o, e1, r⟩ := paired_get h e
  obtain ⟨v, e2, q⟩ := r x rfl
  exact ⟨v, by rw [e1, e2], q⟩
theorem EnR.set {K : PySem.W.Frag} {W : Wo} {σ : L2.St} {env : En} {i : Nat} {v : V} {x : PV} (h : EnR K W σ env) (r : RV K W v x) : EnR K W (σ.set i (some v)) (env.set i (some x)) :=
  paired_set i h fun y e => by cases e; exact ⟨v, rfl, r⟩
theorem EnR.clear {K : PySem.W.Frag} {W : Wo} {σ : L2.St} {env : En} {i : Nat} {o : Option V} (h : EnR K W σ env) : EnR K W (σ.set i o) (env.set i none) := paired_set i h fun y e => by cases e
/-! ### the readings -/
def kE (G : Gb) (W : Wo) (Wx : WX) (σ : L2.St) (Q : VK) (r : ER PV) : Prop := kR G (RV G.K) W Q (fun c d H => Wx c d σ H) r
def kA (G : Gb) (W : Wo) (Wx : WX) (σ : L2.St) (Q : List V → Hp → Prop) (r : ER (List PV)) : Prop := kR G (RVs G.K) W Q (fun c d H => Wx c d σ H) r
def kT (G : Gb) (W : Wo) (Wx : WX) (σ : L2.St) (Q : Bool → Hp → Prop) (r : ER Bool) : Prop := kR G (fun _ a b => a = b) W Q (fun c d H => Wx c d σ H) r
def tE (G : Gb) (Wx : WX) (m : ME PV) : TE := fun σ H Q => ∃ W S env, Wd G W S H ∧ EnR G.K W σ env ∧ kE G W Wx σ Q (m env S)
def tA (G : Gb) (Wx : WX) (m : ME (List PV)) : TA := fun σ H Q => ∃ W S env, Wd G W S H ∧ EnR G.K W σ env ∧ kA G W Wx σ Q (m env S)
def tT (G : Gb) (Wx : WX) (m : ME Bool) : TT := fun σ H Q => ∃ W S env, Wd G W S H ∧ EnR G.K W σ env ∧ kT G W Wx σ Q (m env S)
/-- .. of a new list: it stands apart yet -/
def kN (G : Gb) (W : Wo) (Wx : WX) (σ : L2.St) (Q : VK) : ER (List PV) → Prop
  | .ok xs S => ∀ W' H p vs, W.le W' → Wd G W' S H → H p = none → RVs G.K W' vs xs → Q (.ref p) (upd H p (.lst vs))
  | .ex e S => ∀ W' H cls d, W.le W' → Wd G W' S H → ExR G W' cls d e → Wx cls d σ H
  | .err => False
def tN (G : Gb) (Wx : WX) (m : ME (List PV)) : TE := fun σ H Q => ∃ W S env, Wd G W S H ∧ EnR G.K W σ env ∧ kN G W Wx σ Q (m env S)
theorem kN.mono {G : Gb} {W W' : Wo} {Wx : WX} {σ : L2.St} {Q : VK} {r : ER (List PV)} (h : kN G W Wx σ Q r) (l : W.le W') : kN G W' Wx σ Q r := by
  cases r with
  | ok a S => exact fun W2 H p vs l2 => h W2 H p vs (l.trans l2)
  | ex e S => exact fun W2 H c d l2 => h W2 H c d (l.trans l2)
  | err => exact h
theorem kN_bind {γ δ : Type} {rel1 : Wo → δ → γ → Prop} {G : Gb} {W : Wo} {Wx : WX} {σ : L2.St} {Q : VK} {Q1 : δ → Hp → Prop} {m : ER γ} {f : γ → Sto → ER (List PV)} (h : kN G W Wx σ Q (m.bind f)) (k : ∀ a S W' H v, W.le W' → Wd G W' S H → rel1 W' v a → kN G W' Wx σ Q (f a S) → Q1 v H) :
    kR G rel1 W Q1 (fun c d H => Wx c d σ H) m := by
  cases m with
  | ok a S => exact fun W2 H v l w r => k a S W2 H v l w r (h.mono l)
  | ex e S => exact h
  | err => exact h
section
variable {X : Cx} {G : Gb} {Wx : WX} {e a b c : Expr} {es : List Expr} {pos : Pos} {ma mb mc : ME PV} {ms : ME (List PV)}
/-- the new list as a thing that never changes; as a thing of the store -/
def eFl (m : ME (List PV)) : ME PV := fun env S => (m env S).bind fun xs S => .ok (.fl xs) S
def eNew (m : ME (List PV)) : ME PV := fun env S => (m env S).bind fun xs S => .ok (.ref S.length) (S ++ [.lst xs])
theorem fl_n {σ : L2.St} {H : Hp} {Q : VK} (h : tE G Wx (eFl ms) σ H Q) : tN G Wx ms σ H Q := by
  obtain ⟨W, S, env, w, en, k⟩ := h
  refine ⟨W, S, env, w, en, ?_⟩
  unfold eFl at k
  revert k
  cases ms env S with
  | ok xs S1 =>
    intro k W' H p vs l w np r
    obtain ⟨w2, l2⟩ := w.data (o := .lst vs) np
    exact k _ _ _ (l.trans l2) w2 (.fl (by exact upd_same) (r.mono l2))
  | ex e S1 => exact fun k => k
  | err => exact fun k => k
theorem ve_fl (h : PE X e (tN G Wx ms)) : PE X e (tE G Wx (eFl ms)) := pe_of h fun σ H Q h => fl_n h
theorem new_n {σ : L2.St} {H : Hp} {Q : VK} (h : tE G Wx (eNew ms) σ H Q) : tN G Wx ms σ H Q := by
  obtain ⟨W, S, env, w, en, k⟩ := h
  refine ⟨W, S, env, w, en, ?_⟩
  unfold eNew at k
  revert k
  cases ms env S with
  | ok xs S1 =>
    intro k W' H p vs l w np r
    have l2 := W'.le_push p
    refine k (W'.push p) _ _ (l.trans l2) (w.push1 np (.lst (r.mono l2))) (.ref ?_)
    show (W'.ad ++ [p])[S1.length]? = some p
    rw [← w.len]
    exact push_last
  | ex e S1 => exact fun k => k
  | err => exact fun k => k
theorem ve_new (h : PE X e (tN G Wx ms)) : PE X e (tE G Wx (eNew ms)) := pe_of h fun σ H Q h => new_n h
/-! ### names, constants, displays -/
def eVar (i : Nat) : ME PV := fun env S => match env[i]? with
  | some (some x) => .ok x S
  | _ => .err
theorem ve_var {x : Str} (i : Nat) (h : PE X (.Name x pos) (tV i)) : PE X (.Name x pos) (tE G Wx (eVar i)) := pe_of h fun σ H Q ⟨W, S, env, w, en, k⟩ => by
  unfold eVar at k
  split at k
  · rename_i x e
    obtain ⟨v, e1, r⟩ := en.get e
    unfold tV
    rw [e1]
    exact k W H v (.refl W) w r
  · exact k.elim
def eC (x : PV) : ME PV := fun _ S => .ok x S
theorem ve_c {v : V} {x : PV} (h : PE X e (tC v)) (r : ∀ W, RV G.K W v x) : PE X e (tE G Wx (eC x)) := pe_of h fun σ H Q ⟨W, S, env, w, en, k⟩ => k W H v (.refl W) w (r W)
def aNil : ME (List PV) := fun _ S => .ok [] S
def aCons (m : ME PV) (r : ME (List PV)) : ME (List PV) := fun env S => (m env S).bind fun x S => (r env S).bind fun xs S => .ok (x :: xs) S
theorem pa_of {t u : TA} (h : PA X es t) (k : ∀ σ H Q, u σ H Q → t σ H Q) : PA X es u := ⟨fun p pins s σ H Q I q => h.run p pins s σ H Q I (k σ H Q q)⟩
theorem va_nil : PA X [] (tA G Wx aNil) := pa_of pa_nil fun σ H Q ⟨W, S, env, w, en, k⟩ => k W H [] (.refl W) w .nil
theorem va_cons (h : PE X e (tE G Wx ma)) (hr : PA X es (tA G Wx ms)) (hs : starEach (e :: es) X.env = (false, eval e X.env) :: starEach es X.env := by rfl) : PA X (e :: es) (tA G Wx (aCons ma ms)) :=
  pa_of (pa_cons h hr hs) fun σ H Q ⟨W, S, env, w, en, k⟩ => ⟨W, S, env, w, en, kR_bind k fun x S1 W1 H1 v l1 w1 r1 k1 => ⟨W1, S1, env, w1, en.mono l1, kR_bind k1 fun xs S2 W2 H2 vs l2 w2 r2 k2 => k2 W2 H2 (v :: vs) (.refl W2) w2 (.cons (r1.mono l2) r2)⟩⟩
theorem pe_tupF {t : TA} {x1} (h : PA X es t) : PE X (.Tuple es x1 pos) (fun σ H Q => t σ H fun xs H1 => xs.length ≤ sizeLine ∧ ∀ p o, H1 p = none → o.cls = .type "tuple" → o.dict = none → Q (.ref p) (upd H1 p (.frz o (.tup xs)))) := by
  refine ⟨fun pins s σ H Q I hq => ?_⟩
  refine wpAny_Tuple_spliced (thn (h.run pos pins s σ H _ I hq) fun us s1 ⟨xs, H1, I1, r, z, q⟩ => ⟨by rw [← r.length]; exact z, ?_⟩)
  have hf : H1 s1.heap.objs.size = none := I1.hok.fresh (Nat.le_refl _)
  refine ⟨.ref s1.heap.objs.size, _, I1.laid (t' := s1.toks) (o := .frz { cls := Value.type "tuple", data := Data.seq us.toArray } (.tup xs)) (fun b u e => Heap.get?_push_of_some _ e) (Nat.le_refl _) ⟨Heap.get?_push_size _ rfl, z, us, r, ⟨_, Heap.get?_push_size _ rfl, rfl, _, rfl⟩⟩, rfl, q _ _ hf rfl rfl⟩
def few {α β : Type} (xs : List α) (r : ER β) : ER β := if xs.length ≤ 100000 then r else .err
def eTup (m : ME (List PV)) : ME PV := fun env S => (m env S).bind fun xs S => few xs (.ok (.tup xs) S)
theorem kR_few {α β γ : Type} {G : Gb} {rel : Wo → β → α → Prop} {W : Wo} {Q : β → Hp → Prop} {E : XK} {xs : List γ} {r : ER α} (h : kR G rel W Q E (few xs r)) : xs.length ≤ 100000 ∧ kR G rel W Q E r := by
  unfold few at h
  split at h
  · exact ⟨by assumption, h⟩
  · exact h.elim
theorem kN_few {γ : Type} {G : Gb} {W : Wo} {Wx : WX} {σ : L2.St} {Q : VK} {xs : List γ} {r : ER (List PV)} (h : kN G W Wx σ Q (few xs r)) : xs.length ≤ 100000 ∧ kN G W Wx σ Q r := by
  unfold few at h
  split at h
  · exact ⟨by assumption, h⟩
  · exact h.elim
/-- a new tuple is laid -/
theorem Wd.tup {W : Wo} {S : Sto} {H : Hp} {p : Addr} {o : Obj} {vs : List V} {xs : List PV} (w : Wd G W S H) (np : H p = none) (h1 : o.cls = .type "tuple") (h2 : o.dict = none) (r : RVs G.K W vs xs) :
    ∃ W', W.le W' ∧ Wd G W' S (upd H p (.frz o (.tup vs))) ∧ RV G.K W' (.ref p) (.tup xs) := by
  obtain ⟨w2, l2⟩ := w.data (o := .frz o (.tup vs)) np
  exact ⟨_, l2, w2, .tup (.inl ⟨o, upd_same, h1, h2⟩) (r.mono l2)⟩
theorem ve_tup {x1} (h : PA X es (tA G Wx ms)) : PE X (.Tuple es x1 pos) (tE G Wx (eTup ms)) := pe_of (pe_tupF h) fun σ H Q ⟨W, S, env, w, en, k⟩ => by
  refine ⟨W, S, env, w, en, kR_bind k fun xs S1 W1 H1 vs l1 w1 r1 k1 => ?_⟩
  obtain ⟨z, k1⟩ := kR_few k1
  refine ⟨by rw [r1.length]; exact line_le z, fun p o np h1 h2 => ?_⟩
  obtain ⟨W2, l2, w2, r2⟩ := w1.tup np h1 h2 r1
  exact k1 W2 _ _ l2 w2 r2
def nLst (m : ME (List PV)) : ME (List PV) := fun env S => (m env S).bind fun xs S => few xs (.ok xs S)
theorem vn_lst (h : PA X es (tA G Wx ms)) : PE X (.List es pos) (tN G Wx (nLst ms)) := pe_of (pe_lst h) fun σ H Q ⟨W, S, env, w, en, k⟩ => by
  refine ⟨W, S, env, w, en, kN_bind k fun xs S1 W1 H1 vs l1 w1 r1 k1 => ?_⟩
  obtain ⟨z, k1⟩ := kN_few k1
  exact ⟨by rw [r1.length]; exact line_le z, fun p np => k1 W1 H1 p vs (.refl _) w1 np r1⟩
/-! ### operators by values -/
/-- an operator's reading by a function of the values -/
def rP (G : Gb) (f : Sto → PV → PV → Option PV) : R2 := fun vx vy H Q => ∃ W S x y p, Wd G W S H ∧ RV G.K W vx x ∧ RV G.K W vy y ∧ f S x y = some p ∧ ∀ W' H' v, W.le W' → Wd G W' S H' → RV G.K W' v p → Q v H'
def eOp (f : Sto → PV → PV → Option PV) (ma mb : ME PV) : ME PV := fun env S => (ma env S).bind fun x S => (mb env S).bind fun y S => optR (f S x y) S
theorem tOp_ok {f : Sto → PV → PV → Option PV} {σ : L2.St} {H : Hp} {Q : VK} (h : tE G Wx (eOp f ma mb) σ H Q) : tOp (rP G f) (tE G Wx ma) (tE G Wx mb) σ H Q := by
  obtain ⟨W, S, env, w, en, k⟩ := h
  refine ⟨W, S, env, w, en, kR_bind k fun x S1 W1 H1 v l1 w1 r1 k1 => ⟨W1, S1, env, w1, en.mono l1, kR_bind k1 fun y S2 W2 H2 u l2 w2 r2 k2 => ?_⟩⟩
  obtain ⟨p, e, q⟩ := kR_opt k2
  exact ⟨W2, S2, x, y, p, w2, r1.mono l2, r2, e, q⟩
theorem ve_op {f : Sto → PV → PV → Option PV} {op : Operator} (ho : OpR X (binaryOp op) (rP G f)) (ha : PE X a (tE G Wx ma)) (hb : PE X b (tE G Wx mb)) : PE X (.BinOp a op b pos) (tE G Wx (eOp f ma mb)) :=
  pe_of (pe_op ho ha hb) fun σ H Q h => tOp_ok h
theorem ve_cmp {f : Sto → PV → PV → Option PV} {op : CmpOp} (ho : OpR X (compareOp op) (rP G f)) (ha : PE X a (tE G Wx ma)) (hb : PE X b (tE G Wx mb)) (hm : behindInMarks op b = false) : PE X (.Compare a [op] [b] pos) (tE G Wx (eOp f ma mb)) :=
  pe_of (pe_cmpR ho ha hb hm) fun σ H Q h => tOp_ok h
def asB (p : PV) (S : Sto) : ER Bool := match p with
  | .bl b => .ok b S
  | _ => .err
/-- a value that is a truth, as a test -/
def tOf (m : ME PV) : ME Bool := fun env S => (m env S).bind asB
theorem tTest_ok {m : ME PV} {t : TE} {σ : L2.St} {H : Hp} {Q : Bool → Hp → Prop} (ht : ∀ Q, tE G Wx m σ H Q → t σ H Q) (h : tT G Wx (tOf m) σ H Q) : tTestG t σ H Q := by
  obtain ⟨W, S, env, w, en, k⟩ := h
  refine ht _ ⟨W, S, env, w, en, kR_bind k fun x S1 W1 H1 v l1 w1 r1 k1 => ?_⟩
  unfold asB at k1
  split at k1
  · cases r1
    exact k1 W1 H1 _ (.refl _) w1 rfl
  · exact k1.elim
theorem vt_cmp {f : Sto → PV → PV → Option PV} {op : CmpOp} (ho : OpR X (compareOp op) (rP G f)) (ha : PE X a (tE G Wx ma)) (hb : PE X b (tE G Wx mb)) (hm : behindInMarks op b = false) : PT X (.Compare a [op] [b] pos) (tT G Wx (tOf (eOp f ma mb))) :=
  pt_of (pt_cmpG ho ha hb hm) fun σ H Q h => tTest_ok (fun Q q => tOp_ok q) h
/-- a < b < c -/
def eChain (f g : Sto → PV → PV → Option PV) (ma mb mc : ME PV) : ME PV := fun env S => (ma env S).bind fun x S => (mb env S).bind fun y S => (optR (f S x y) S).bind fun z S => (asB z S).bind fun k S =>
  if k = true then (mc env S).bind fun w S => optR (g S y w) S else .ok (.bl false) S
theorem tChain_ok {f g : Sto → PV → PV → Option PV} {σ : L2.St} {H : Hp} {Q : VK} (h : tE G Wx (eChain f g ma mb mc) σ H Q) : tChainG (rP G f) (rP G g) (tE G Wx ma) (tE G Wx mb) (tE G Wx mc) σ H Q := by
  obtain ⟨W, S, env, w, en, k⟩ := h
  refine ⟨W, S, env, w, en, kR_bind k fun x S1 W1 H1 v l1 w1 r1 k1 => ⟨W1, S1, env, w1, en.mono l1, kR_bind k1 fun y S2 W2 H2 u l2 w2 r2 k2 => ?_⟩⟩
  cases ef : f S2 x y with
  | none => rw [ef] at k2; exact k2.elim
  | some p =>
    rw [ef] at k2
    refine ⟨W2, S2, x, y, p, w2, r1.mono l2, r2, ef, fun W3 H3 z l3 w3 r3 => ?_⟩
    cases p with
    | bl b =>
      cases r3
      have k3 := kR.mono k2 l3
      cases b with
      | true =>
        refine iteT (B := Q (.bl false) H3) ⟨W3, S2, env, w3, (en.mono (l1.trans l2)).mono l3, kR_bind k3 fun z S4 W4 H4 v4 l4 w4 r4 k4 => ?_⟩
        obtain ⟨p, e, q⟩ := kR_opt k4
        exact ⟨W4, S4, y, z, p, w4, (r2.mono l3).mono l4, r4, e, q⟩
      | false => exact iteF (A := tE G Wx mc σ H3 fun w' H4 => rP G g u w' H4 Q) (k3 W3 H3 _ (.refl _) w3 (.bl false))
    | _ => exact k2.elim
end
end Pv

/-! Operators upon values. -/
namespace Pv
open PySem PySem.Spec PyProof.Rows L2 Tc
/-- what a list holds; what a list or tuple holds -/
def lstS (S : Sto) : PV → Option (List PV)
  | .fl xs => some xs
  | .ref i => match S[i]? with
    | some (.lst xs) => some xs
    | _ => none
  | _ => none
def seqS (S : Sto) : PV → Option (List PV)
  | .fl xs => some xs
  | .ro xs => some xs
  | .tup xs => some xs
  | .ref i => match S[i]? with
    | some (.lst xs) => some xs
    | _ => none
  | _ => none
def lsqS (S : Sto) : PV → Option (List PV)
  | .fl xs => some xs
  | .ro xs => some xs
  | .ref i => match S[i]? with
    | some (.lst xs) => some xs
    | _ => none
  | _ => none
def dicS (S : Sto) : PV → Option (List (Key × PV))
  | .ref i => match S[i]? with
    | some (.dic xs) => some xs
    | _ => none
  | _ => none
section
variable {G : Gb} {W : Wo} {S : Sto} {H : Hp} {v : V} {x : PV} {xs : List PV}
theorem ref_at (r : RV G.K W v (.ref i)) : ∃ a, v = .ref a ∧ W.ad[i]? = some a := by
  cases r with
  | ref h => exact ⟨_, rfl, h⟩
theorem lstS_ok (w : Wd G W S H) (r : RV G.K W v x) (e : lstS S x = some xs) : ∃ a vs, v = .ref a ∧ H a = some (.lst vs) ∧ RVs G.K W vs xs := by
  unfold lstS at e
  split at e
  · cases e
    cases r with
    | fl h t => exact ⟨_, _, rfl, w.dat _ _ h, t⟩
  · rename_i i
    split at e
    · cases e
      rename_i q
      obtain ⟨a, rfl, ha⟩ := ref_at r
      obtain ⟨vs, h1, h2, _⟩ := w.lst ha q
      exact ⟨a, vs, rfl, h1, h2⟩
    · cases e
  · cases e
theorem seqS_ok (w : Wd G W S H) (r : RV G.K W v x) (e : seqS S x = some xs) : ∃ a vs, v = .ref a ∧ Sq G.K H a vs ∧ RVs G.K W vs xs := by
  unfold seqS at e
  split at e
  · cases e
    cases r with
    | fl h t => exact ⟨_, _, rfl, .inl (SqL.of (w.dat _ _ h)), t⟩
  · cases e
    cases r with
    | ro h t => exact ⟨_, _, rfl, .inl (w.dat.seq h), t⟩
  · cases e
    cases r with
    | tup h t => exact ⟨_, _, rfl, .inr (same_tup w.dat h.sqT), t⟩
  · rename_i i
    split at e
    · cases e
      rename_i q
      obtain ⟨a, rfl, ha⟩ := ref_at r
      obtain ⟨vs, h1, h2, _⟩ := w.lst ha q
      exact ⟨a, vs, rfl, .inl (SqL.of h1), h2⟩
    · cases e
  · cases e
theorem lsqS_ok (w : Wd G W S H) (r : RV G.K W v x) (e : lsqS S x = some xs) : ∃ a vs, v = .ref a ∧ SqL G.K H a vs ∧ RVs G.K W vs xs := by
  unfold lsqS at e
  split at e
  · cases e
    cases r with
    | fl h t => exact ⟨_, _, rfl, SqL.of (w.dat _ _ h), t⟩
  · cases e
    cases r with
    | ro h t => exact ⟨_, _, rfl, w.dat.seq h, t⟩
  · rename_i i
    split at e
    · cases e
      rename_i q
      obtain ⟨a, rfl, ha⟩ := ref_at r
      obtain ⟨vs, h1, h2, _⟩ := w.lst ha q
      exact ⟨a, vs, rfl, SqL.of h1, h2⟩
    · cases e
  · cases e
theorem dicS_ok {kvs : List (Key × PV)} (w : Wd G W S H) (r : RV G.K W v x) (e : dicS S x = some kvs) : ∃ a vs, v = .ref a ∧ H a = some (.dK vs) ∧ KVr G.K W vs kvs := by
  unfold dicS at e
  split at e
  · rename_i i
    split at e
    · cases e
      rename_i q
      obtain ⟨a, rfl, ha⟩ := ref_at r
      obtain ⟨vs, h1, h2, _⟩ := w.dic ha q
      exact ⟨a, vs, rfl, h1, h2⟩
    · cases e
  · cases e
theorem tup_ok (w : Wd G W S H) (r : RV G.K W v (.tup xs)) : ∃ a vs, v = .ref a ∧ TupD G.K H a vs ∧ RVs G.K W vs xs := by
  cases r with
  | tup h t => exact ⟨_, _, rfl, h.same w.dat, t⟩
/-- a new list that never changes -/
theorem Wd.fl {p : Addr} {vs : List V} (w : Wd G W S H) (np : H p = none) (r : RVs G.K W vs xs) : ∃ W', W.le W' ∧ Wd G W' S (upd H p (.lst vs)) ∧ RV G.K W' (.ref p) (.fl xs) := by
  obtain ⟨w2, l2⟩ := w.data (o := .lst vs) np
  exact ⟨_, l2, w2, .fl upd_same (r.mono l2)⟩
end
/-! ### data, of values without classes of one's own -/
def mapO {α β : Type} (f : α → Option β) : List α → Option (List β)
  | [] => some []
  | x :: xs => match f x, mapO f xs with
    | some d, some ds => some (d :: ds)
    | _, _ => none
def atomD : PV → Option PyData
  | .non => some .none
  | .bl b => some (.bool b)
  | .int i => some (.int i)
  | .str x => some (.str x)
  | _ => none
def pyD (S : Sto) : Nat → PV → Option PyData
  | 0, x => atomD x
  | n + 1, x => match x with
    | .tup xs => (mapO (pyD S n) xs).map PyData.tuple
    | .fl xs => (mapO (pyD S n) xs).map PyData.list
    | .ro xs => (mapO (pyD S n) xs).map PyData.list
    | .ref i => match S[i]? with
      | some (.lst xs) => (mapO (pyD S n) xs).map PyData.list
      | _ => none
    | x => atomD x
section
variable {G : Gb} {W : Wo} {S : Sto} {H : Hp}
theorem atomD_ok {v : V} {x : PV} {d : PyData} (r : RV G.K W v x) (e : atomD x = some d) : Dp G.K H v d ∧ d.depth = 0 := by
  unfold atomD at e
  split at e
  · cases e; cases r; exact ⟨.non, rfl⟩
  · cases e; cases r; exact ⟨.bl _, rfl⟩
  · cases e; cases r; exact ⟨.int _, rfl⟩
  · cases e; cases r; exact ⟨.str _, rfl⟩
  · cases e
theorem mapO_ok {n : Nat} {f : PV → Option PyData} (hf : ∀ v x d, RV G.K W v x → f x = some d → Dp G.K H v d ∧ d.depth ≤ n) : ∀ {vs : List V} {xs : List PV} {ds : List PyData}, RVs G.K W vs xs → mapO f xs = some ds → DpAll G.K H vs ds ∧ PyData.depthAll ds ≤ n
  | _, _, _, .nil, e => by cases e; exact ⟨.nil, Nat.zero_le _⟩
  | _, _, _, .cons (x := x) (xs := xs) h t, e => by
    unfold mapO at e
    cases e1 : f x with
    | none => rw [e1] at e; cases e
    | some d =>
      cases e2 : mapO f xs with
      | none => rw [e1, e2] at e; cases e
      | some ds =>
        rw [e1, e2] at e
        cases e
        obtain ⟨a1, a2⟩ := hf _ _ _ h e1
        obtain ⟨b1, b2⟩ := mapO_ok hf t e2
        exact ⟨.cons a1 b1, by simp only [PyData.depthAll]; omega⟩
theorem pyD_ok (w : Wd G W S H) : ∀ {n : Nat} {v : V} {x : PV} {d : PyData}, RV G.K W v x → pyD S n x = some d → Dp G.K H v d ∧ d.depth ≤ n
  | 0, _, _, _, r, e => by
    obtain ⟨a, b⟩ := atomD_ok (H := H) r e
    exact ⟨a, by omega⟩
  | n + 1, v, x, d, r, e => by
    have all : ∀ {vs : List V} {xs : List PV} {ds : List PyData}, RVs G.K W vs xs → mapO (pyD S n) xs = some ds → DpAll G.K H vs ds ∧ PyData.depthAll ds ≤ n := fun t e => mapO_ok (fun v x d r e => pyD_ok w r e) t e
    cases x with
    | tup xs =>
      obtain ⟨a, vs, rfl, h, t⟩ := tup_ok w r
      cases e2 : mapO (pyD S n) xs with
      | none => rw [show pyD S (n + 1) (.tup xs) = (mapO (pyD S n) xs).map PyData.tuple from rfl, e2] at e; cases e
      | some ds =>
        rw [show pyD S (n + 1) (.tup xs) = (mapO (pyD S n) xs).map PyData.tuple from rfl, e2] at e
        cases e
        obtain ⟨b1, b2⟩ := all t e2
        exact ⟨.tup h.sqT b1, by simp only [PyData.depth]; omega⟩
    | fl xs =>
      cases e2 : mapO (pyD S n) xs with
      | none => rw [show pyD S (n + 1) (.fl xs) = (mapO (pyD S n) xs).map PyData.list from rfl, e2] at e; cases e
      | some ds =>
        rw [show pyD S (n + 1) (.fl xs) = (mapO (pyD S n) xs).map PyData.list from rfl, e2] at e
        cases e
        obtain ⟨a, vs, rfl, h, t⟩ := lstS_ok (xs := xs) w r rfl
        obtain ⟨b1, b2⟩ := all t e2
        exact ⟨.lst (SqL.of h) b1, by simp only [PyData.depth]; omega⟩
    | ro xs =>
      cases e2 : mapO (pyD S n) xs with
      | none => rw [show pyD S (n + 1) (.ro xs) = (mapO (pyD S n) xs).map PyData.list from rfl, e2] at e; cases e
      | some ds =>
        rw [show pyD S (n + 1) (.ro xs) = (mapO (pyD S n) xs).map PyData.list from rfl, e2] at e
        cases e
        cases r with
        | ro h t =>
          obtain ⟨b1, b2⟩ := all t e2
          exact ⟨.lst (w.dat.seq h) b1, by simp only [PyData.depth]; omega⟩
    | ref i =>
      have e : (match S[i]? with
        | some (.lst xs) => (mapO (pyD S n) xs).map PyData.list
        | _ => none) = some d := e
      split at e
      · rename_i xs q
        cases e2 : mapO (pyD S n) xs with
        | none => rw [e2] at e; cases e
        | some ds =>
          rw [e2] at e
          cases e
          obtain ⟨a, rfl, ha⟩ := ref_at r
          obtain ⟨vs, h1, h2, _⟩ := w.lst ha q
          obtain ⟨b1, b2⟩ := all h2 e2
          exact ⟨.lst (SqL.of h1) b1, by simp only [PyData.depth]; omega⟩
      · cases e
    | non => obtain ⟨a, b⟩ := atomD_ok (H := H) (d := d) r e; exact ⟨a, by omega⟩
    | bl k => obtain ⟨a, b⟩ := atomD_ok (H := H) (d := d) r e; exact ⟨a, by omega⟩
    | int k => obtain ⟨a, b⟩ := atomD_ok (H := H) (d := d) r e; exact ⟨a, by omega⟩
    | str k => obtain ⟨a, b⟩ := atomD_ok (H := H) (d := d) r e; exact ⟨a, by omega⟩
    | ty k => cases e
end
/-! ### the operators -/
def bN (b : Bool) : Int := if b = true then 1 else 0
def addP (S : Sto) (x y : PV) : Option PV := match x, y with
  | .int i, .int j => some (.int (i + j))
  | .bl b, .int j => some (.int (bN b + j))
  | .str i, .str j => if i.length + j.length ≤ 100000 then some (.str (i ++ j)) else none
  | .tup xs, .tup ys => if xs.length + ys.length ≤ 100000 then some (.tup (xs ++ ys)) else none
  | x, y => match lstS S x, lstS S y with
    | some xs, some ys => if xs.length + ys.length ≤ 100000 then some (.fl (xs ++ ys)) else none
    | _, _ => none
def subP (_ : Sto) (x y : PV) : Option PV := match x, y with
  | .int i, .int j => some (.int (i - j))
  | .bl b, .int j => some (.int (bN b - j))
  | _, _ => none
def mulP (S : Sto) (x y : PV) : Option PV := match x, y with
  | .int i, .int j => if i.natAbs.log2 + j.natAbs.log2 < 1000000 then some (.int (i * j)) else none
  | x, .int k => match lstS S x with
    | some xs => if -1000000 ≤ k ∧ k ≤ 1000000 ∧ xs.length * k.toNat ≤ 100000 then some (.fl (List.replicate k.toNat xs).flatten) else none
    | none => none
  | _, _ => none
def divP (_ : Sto) (x y : PV) : Option PV := match x, y with
  | .int i, .int j => if 0 < j ∧ j.natAbs.log2 < 9000 then some (.int (i / j)) else none
  | _, _ => none
def modP (_ : Sto) (x y : PV) : Option PV := match x, y with
  | .int i, .int j => if 0 < j then some (.int (i % j)) else none
  | _, _ => none
def powP (_ : Sto) (x y : PV) : Option PV := match x, y with
  | .int i, .int j => if 0 ≤ j ∧ j ≤ 1000000 ∧ i.natAbs < 2 ^ 64 then some (.int (i ^ j.toNat)) else none
  | _, _ => none
def ltP (_ : Sto) (x y : PV) : Option PV := match x, y with
  | .int i, .int j => some (.bl (decide (i < j)))
  | _, _ => none
def leP (_ : Sto) (x y : PV) : Option PV := match x, y with
  | .int i, .int j => some (.bl (decide (i ≤ j)))
  | _, _ => none
def gtP (_ : Sto) (x y : PV) : Option PV := match x, y with
  | .int i, .int j => some (.bl (decide (j < i)))
  | _, _ => none
def geP (_ : Sto) (x y : PV) : Option PV := match x, y with
  | .int i, .int j => some (.bl (decide (j ≤ i)))
  | _, _ => none
def eqB (S : Sto) (x y : PV) : Option Bool := match x, y with
  | .int i, .int j => some (decide (i = j))
  | .str i, .str j => some (decide (i = j))
  | .bl i, .bl j => some (decide (i = j))
  | x, y => match pyD S 60 x, pyD S 60 y with
    | some d, some e => some (PyData.eqv d e)
    | _, _ => none
def eqP (S : Sto) (x y : PV) : Option PV := (eqB S x y).map .bl
def neP (S : Sto) (x y : PV) : Option PV := (eqB S x y).map fun b => .bl (!b)
def isB (_ : Sto) (x y : PV) : Option Bool := match x, y with
  | .non, .non => some true
  | _, .non => some false
  | .bl a, .bl b => some (decide (a = b))
  | _, _ => none
def isP (S : Sto) (x y : PV) : Option PV := (isB S x y).map .bl
def isntP (S : Sto) (x y : PV) : Option PV := (isB S x y).map fun b => .bl (!b)
def keyP : PV → Option Key
  | .int i => some (.inl i)
  | .str s => some (.inr s)
  | _ => none
def getK {α : Type} (kvs : List (Key × α)) (k : Key) : Option α := (kvs.find? fun kv => decide (kv.1 = k)).map (·.2)
def putKp {α : Type} (kvs : List (Key × α)) (k : Key) (v : α) : List (Key × α) := if (kvs.any fun kv => decide (kv.1 = k)) = true then kvs.map (fun kv => if kv.1 = k then (kv.1, v) else kv) else kvs ++ [(k, v)]
def dropKp {α : Type} (kvs : List (Key × α)) (k : Key) : List (Key × α) := kvs.filter fun kv => decide (kv.1 ≠ k)
def inB (S : Sto) (x y : PV) : Option Bool := match x, y with
  | .str i, .str j => some (!(Builtin.Str.occurrences j i 0 j.length 1).isEmpty)
  | x, y => match dicS S y with
    | some kvs => (keyP x).map fun k => (getK kvs k).isSome
    | none => match pyD S 60 x, (seqS S y).bind (mapO (pyD S 60)) with
      | some d, some ds => some (ds.any fun z => PyData.eqv z d)
      | _, _ => none
def inP (S : Sto) (x y : PV) : Option PV := (inB S x y).map .bl
def notinP (S : Sto) (x y : PV) : Option PV := (inB S x y).map fun b => .bl (!b)
section
variable {X : Cx} {G : Gb}
theorem op_canon {f : Value → Value → Sem Value} {g : Sto → PV → PV → Option PV} {r : R2} (h : OpR X f r) (k : ∀ W S H vx vy x y p Q, Wd G W S H → RV G.K W vx x → RV G.K W vy y → g S x y = some p → (∀ W' H' v, W.le W' → Wd G W' S H' → RV G.K W' v p → Q v H') → r vx vy H Q) : OpR X f (rP G g) :=
  op_of h fun vx vy H Q ⟨W, S, x, y, p, w, r1, r2, e, q⟩ => k W S H vx vy x y p Q w r1 r2 e q
def rCatF (K : PySem.W.Frag) : R2 := fun x y H Q => ∃ a b xs ys, x = .ref a ∧ y = .ref b ∧ SqT K H a xs ∧ SqT K H b ys ∧ xs.length + ys.length ≤ sizeLine ∧
  (xs = [] → Q (.ref b) H) ∧ (xs ≠ [] → ys = [] → Q (.ref a) H) ∧ (xs ≠ [] → ys ≠ [] → ∀ p o, H p = none → o.cls = .type "tuple" → o.dict = none → Q (.ref p) (upd H p (.frz o (.tup (xs ++ ys)))))
theorem op_catF : OpR X (binaryOp .Add) (rCatF X.K) := by
  intro pins s σ H x y v u Q I rx ry h
  obtain ⟨a, b, xs, ys, rfl, rfl, ha, hb, hz, q0, q1, q2⟩ := h
  cases rx
  cases ry
  obtain ⟨its, r1, p1, _⟩ := I.tuple ha
  obtain ⟨its2, r2, p2, _⟩ := I.tuple hb
  by_cases hx : xs = []
  · subst hx
    cases r1
    exact cat_tup0 p1 p2 ⟨.ref b, H, I, rfl, q0 rfl⟩
  · refine HT.cat_tup p1 p2 (fun z => hx (r1.nil_iff.mp z)) (fun z => ⟨.ref a, H, I, rfl, q1 hx (r2.nil_iff.mp z)⟩) (fun z => ?_) (by rw [← r1.length, ← r2.length]; exact hz)
    refine ⟨.ref s.heap.objs.size, _, I.laid (t' := s.toks) (o := .frz { cls := .type "tuple", data := .seq (its ++ its2).toArray } (.tup (xs ++ ys))) (fun b ob q => Heap.get?_push_of_some _ q) (Nat.le_refl _) ?_, rfl, q2 hx (fun w => z (r2.nil_iff.mpr w)) _ _ (I.hok.fresh (Nat.le_refl _)) rfl rfl⟩
    exact ⟨Heap.get?_push_size _ rfl, by rw [List.length_append]; exact hz, _, r1.append r2, IsTup.new _ _⟩
theorem vo_add (hk : X.K = G.K := by rfl) : OpR X (binaryOp .Add) (rP G addP) := by
  have big : OpR X (binaryOp .Add) (fun x y H Q => rAddG X.K x y H Q ∨ rCatF X.K x y H Q) := fun pins s σ H x y v u Q I rx ry q => q.elim (op_addG pins s σ H x y v u Q I rx ry) (op_catF pins s σ H x y v u Q I rx ry)
  rw [hk] at big
  refine op_canon big fun W S H vx vy x y p Q w r1 r2 e q => ?_
  unfold addP at e
  split at e
  · cases e; cases r1; cases r2
    exact .inl (q W H _ (.refl W) w (.int _))
  · cases e; cases r1; cases r2
    exact .inl (q W H _ (.refl W) w (.int _))
  · split at e
    · cases e; cases r1; cases r2
      exact .inl ⟨line_le (by assumption), q W H _ (.refl W) w (.str _)⟩
    · cases e
  · rename_i xs ys
    split at e
    · rename_i hl
      cases e
      obtain ⟨a, vs, rfl, h1, t1⟩ := tup_ok w r1
      obtain ⟨b, us, rfl, h2, t2⟩ := tup_ok w r2
      refine .inr ⟨a, b, vs, us, rfl, rfl, h1.sqT, h2.sqT, by rw [t1.length, t2.length]; exact line_le hl, fun z => ?_, fun _ z => ?_, fun _ _ p o np c d => ?_⟩
      · subst z
        cases t1
        exact q W H _ (.refl W) w r2
      · subst z
        cases t2
        rw [List.append_nil] at q
        exact q W H _ (.refl W) w r1
      · obtain ⟨W2, l2, w2, r⟩ := w.tup np c d (t1.append t2)
        exact q W2 _ _ l2 w2 r
    · cases e
  · split at e
    · rename_i xs ys e1 e2
      split at e
      · rename_i hl
        cases e
        obtain ⟨a, vs, rfl, h1, t1⟩ := lstS_ok w r1 e1
        obtain ⟨b, us, rfl, h2, t2⟩ := lstS_ok w r2 e2
        refine .inl (.inl ⟨a, b, vs, us, rfl, rfl, h1, h2, by rw [t1.length, t2.length]; exact line_le hl, fun p np => ?_⟩)
        obtain ⟨W2, l2, w2, r⟩ := w.fl np (t1.append t2)
        exact q W2 _ _ l2 w2 r
      · cases e
    · cases e
theorem vo_sub : OpR X (binaryOp .Sub) (rP G subP) := op_canon op_subG fun W S H vx vy x y p Q w r1 r2 e q => by
  unfold subP at e
  split at e
  · cases e; cases r1; cases r2
    exact q W H _ (.refl W) w (.int _)
  · cases e; cases r1; cases r2
    exact q W H _ (.refl W) w (.int _)
  · cases e
theorem vo_mul : OpR X (binaryOp .Mult) (rP G mulP) := by
  have big : OpR X (binaryOp .Mult) (fun x y H Q => rII CMulW (fun i j => .int (i * j)) x y H Q ∨ rRep x y H Q) := fun pins s σ H x y v u Q I rx ry q => q.elim (op_mulG pins s σ H x y v u Q I rx ry) (op_rep pins s σ H x y v u Q I rx ry)
  refine op_canon big fun W S H vx vy x y p Q w r1 r2 e q => ?_
  unfold mulP at e
  split at e
  · split at e
    · cases e; cases r1; cases r2
      exact .inl ⟨by assumption, q W H _ (.refl W) w (.int _)⟩
    · cases e
  · split at e
    · rename_i e1
      split at e
      · rename_i hl
        cases e; cases r2
        obtain ⟨a, vs, rfl, h1, t1⟩ := lstS_ok w r1 e1
        refine .inr ⟨a, _, vs, rfl, rfl, h1, by omega, by omega, by rw [t1.length]; exact line_le hl.2.2, fun p np => ?_⟩
        have rep : ∀ n : Nat, RVs G.K W (List.replicate n vs).flatten (List.replicate n _).flatten := fun n => by
          induction n with
          | zero => exact .nil
          | succ n ih => rw [List.replicate_succ, List.replicate_succ, List.flatten_cons, List.flatten_cons]; exact t1.append ih
        obtain ⟨W2, l2, w2, r⟩ := w.fl np (rep _)
        exact q W2 _ _ l2 w2 r
      · cases e
    · cases e
  · cases e
theorem vo_div : OpR X (binaryOp .FloorDiv) (rP G divP) := op_canon op_fdivG fun W S H vx vy x y p Q w r1 r2 e q => by
  unfold divP at e
  split at e
  · split at e
    · cases e; cases r1; cases r2
      exact ⟨by assumption, q W H _ (.refl W) w (.int _)⟩
    · cases e
  · cases e
theorem vo_mod : OpR X (binaryOp .Mod) (rP G modP) := op_canon op_modG fun W S H vx vy x y p Q w r1 r2 e q => by
  unfold modP at e
  split at e
  · split at e
    · cases e; cases r1; cases r2
      exact ⟨by assumption, q W H _ (.refl W) w (.int _)⟩
    · cases e
  · cases e
theorem vo_pow : OpR X (binaryOp .Pow) (rP G powP) := op_canon op_powG fun W S H vx vy x y p Q w r1 r2 e q => by
  unfold powP at e
  split at e
  · split at e
    · cases e; cases r1; cases r2
      exact ⟨by assumption, q W H _ (.refl W) w (.int _)⟩
    · cases e
  · cases e
theorem vo_lt : OpR X (compareOp .Lt) (rP G ltP) := op_canon op_ltG fun W S H vx vy x y p Q w r1 r2 e q => by
  unfold ltP at e
  split at e
  · cases e; cases r1; cases r2
    exact q W H _ (.refl W) w (.bl _)
  · cases e
theorem vo_le : OpR X (compareOp .LtE) (rP G leP) := op_canon op_leG fun W S H vx vy x y p Q w r1 r2 e q => by
  unfold leP at e
  split at e
  · cases e; cases r1; cases r2
    exact q W H _ (.refl W) w (.bl _)
  · cases e
theorem vo_gt : OpR X (compareOp .Gt) (rP G gtP) := op_canon op_gtG fun W S H vx vy x y p Q w r1 r2 e q => by
  unfold gtP at e
  split at e
  · cases e; cases r1; cases r2
    exact q W H _ (.refl W) w (.bl _)
  · cases e
theorem vo_ge : OpR X (compareOp .GtE) (rP G geP) := op_canon op_geG fun W S H vx vy x y p Q w r1 r2 e q => by
  unfold geP at e
  split at e
  · cases e; cases r1; cases r2
    exact q W H _ (.refl W) w (.bl _)
  · cases e
theorem eqB_ok {W : Wo} {S : Sto} {H : Hp} {vx vy : V} {x y : PV} {b : Bool} {Q : VK} (w : Wd G W S H) (r1 : RV G.K W vx x) (r2 : RV G.K W vy y) (e : eqB S x y = some b) :
    (∃ i j, vx = .int i ∧ vy = .int j ∧ b = decide (i = j)) ∨ (∃ i j, vx = .str i ∧ vy = .str j ∧ b = decide (i = j)) ∨ (∃ i j, vx = .bl i ∧ vy = .bl j ∧ b = decide (i = j)) ∨ ∃ d e, Dp G.K H vx d ∧ Dp G.K H vy e ∧ d.depth ≤ 60 ∧ b = PyData.eqv d e := by
  unfold eqB at e
  split at e
  · cases e; cases r1; cases r2; exact .inl ⟨_, _, rfl, rfl, rfl⟩
  · cases e; cases r1; cases r2; exact .inr (.inl ⟨_, _, rfl, rfl, rfl⟩)
  · cases e; cases r1; cases r2; exact .inr (.inr (.inl ⟨_, _, rfl, rfl, rfl⟩))
  · split at e
    · rename_i d e2 h1 h2
      cases e
      obtain ⟨a1, a2⟩ := pyD_ok w r1 h1
      obtain ⟨b1, b2⟩ := pyD_ok w r2 h2
      exact .inr (.inr (.inr ⟨d, e2, a1, b1, a2, rfl⟩))
    · cases e
theorem vo_eq (hu : X.A.units + 64 < cLine) (hk : X.K = G.K := by rfl) : OpR X (compareOp .Eq) (rP G eqP) := by
  have big : OpR X (compareOp .Eq) (fun x y H Q => rEqG X.K x y H Q ∨ rEqP X.K x y H Q) := fun pins s σ H x y v u Q I rx ry q => q.elim (op_eqG hu pins s σ H x y v u Q I rx ry) (op_eqP hu pins s σ H x y v u Q I rx ry)
  rw [hk] at big
  refine op_canon big fun W S H vx vy x y p Q w r1 r2 e q => ?_
  unfold eqP at e
  cases eb : eqB S x y with
  | none => rw [eb] at e; cases e
  | some b =>
    rw [eb] at e
    cases e
    have q := q W H _ (.refl W) w (.bl b)
    rcases eqB_ok (Q := Q) w r1 r2 eb with ⟨i, j, rfl, rfl, rfl⟩ | ⟨i, j, rfl, rfl, rfl⟩ | ⟨i, j, rfl, rfl, rfl⟩ | ⟨d, e2, a1, b1, a2, rfl⟩
    · exact .inl q
    · exact .inl q
    · exact .inl q
    · exact .inr ⟨d, e2, a1, b1, .inl a2, q⟩
theorem vo_ne (hu : X.A.units + 64 < cLine) (hk : X.K = G.K := by rfl) : OpR X (compareOp .NotEq) (rP G neP) := by
  have big : OpR X (compareOp .NotEq) (fun x y H Q => rNeG X.K x y H Q ∨ rNeP X.K x y H Q) := fun pins s σ H x y v u Q I rx ry q => q.elim (op_neG hu pins s σ H x y v u Q I rx ry) (op_neP hu pins s σ H x y v u Q I rx ry)
  rw [hk] at big
  refine op_canon big fun W S H vx vy x y p Q w r1 r2 e q => ?_
  unfold neP at e
  cases eb : eqB S x y with
  | none => rw [eb] at e; cases e
  | some b =>
    rw [eb] at e
    cases e
    have q := q W H _ (.refl W) w (.bl (!b))
    rcases eqB_ok (Q := Q) w r1 r2 eb with ⟨i, j, rfl, rfl, rfl⟩ | ⟨i, j, rfl, rfl, rfl⟩ | ⟨i, j, rfl, rfl, rfl⟩ | ⟨d, e2, a1, b1, a2, rfl⟩
    · exact .inl q
    · exact .inl q
    · exact .inl q
    · exact .inr ⟨d, e2, a1, b1, .inl a2, q⟩
theorem isB_ok {W : Wo} {S : Sto} {vx vy : V} {x y : PV} {b : Bool} (r1 : RV G.K W vx x) (r2 : RV G.K W vy y) (e : isB S x y = some b) : (vy = .non ∧ b = decide (vx = .non)) ∨ ∃ i j, vx = .bl i ∧ vy = .bl j ∧ b = decide (i = j) := by
  unfold isB at e
  split at e
  · cases e; cases r1; cases r2; exact .inl ⟨rfl, rfl⟩
  · rename_i hn
    cases e; cases r2
    refine .inl ⟨rfl, ?_⟩
    cases r1 with
    | non => exact absurd rfl hn
    | _ => rfl
  · cases e; cases r1; cases r2; exact .inr ⟨_, _, rfl, rfl, rfl⟩
  · cases e
theorem vo_isnt : OpR X (compareOp .IsNot) (rP G isntP) := op_canon op_isnotB fun W S H vx vy x y p Q w r1 r2 e q => by
  unfold isntP at e
  cases eb : isB S x y with
  | none => rw [eb] at e; cases e
  | some b =>
    rw [eb] at e
    cases e
    have q := q W H _ (.refl W) w (.bl (!b))
    rcases isB_ok r1 r2 eb with ⟨rfl, rfl⟩ | ⟨i, j, rfl, rfl, rfl⟩
    · exact q
    · exact q
/-! ### dicts told by values -/
theorem getK_r {K : PySem.W.Frag} {W : Wo} {k : Key} : ∀ {vs : List (Key × V)} {xs : List (Key × PV)}, KVr K W vs xs → (valV vs k = none ∧ getK xs k = none) ∨ ∃ v x, valV vs k = some v ∧ getK xs k = some x ∧ RV K W v x
  | _, _, .nil => .inl ⟨rfl, rfl⟩
  | _, _, .cons (a := p) (b := q) h t => by
    by_cases e : p.1 = k
    · refine .inr ⟨p.2, q.2, valV_pos e, ?_, h.2⟩
      unfold getK
      rw [List.find?_cons, decide_eq_true (h.1 ▸ e)]
      rfl
    · rw [valV_neg e]
      have e2 : ∀ r : List (Key × PV), getK (q :: r) k = getK r k := fun r => by
        unfold getK
        rw [List.find?_cons, decide_eq_false (h.1 ▸ e)]
      rw [e2]
      exact getK_r t
theorem keyP_ok {K : PySem.W.Frag} {W : Wo} {v : V} {x : PV} {k : Key} (r : RV K W v x) (e : keyP x = some k) : v = kV k := by
  unfold keyP at e
  split at e
  · cases e; cases r; rfl
  · cases e; cases r; rfl
  · cases e
theorem op_din (hu : X.A.units + 64 < cLine) : OpR X (compareOp .In) (fun x y H Q => ∃ a o, y = .ref a ∧ DGet H a x o ∧ Q (.bl o.isSome) H) := fun pins s σ H x y v u Q I rx ry ⟨a, o, e, g, q⟩ => by
  subst e
  cases ry
  exact d_in (by omega) I g rx fun s3 I3 => ⟨.bl o.isSome, H, I3, rfl, q⟩
theorem op_dnotin (hu : X.A.units + 64 < cLine) : OpR X (compareOp .NotIn) (fun x y H Q => ∃ a o, y = .ref a ∧ DGet H a x o ∧ Q (.bl (!o.isSome)) H) := fun pins s σ H x y v u Q I rx ry ⟨a, o, e, g, q⟩ => by
  subst e
  cases ry
  exact d_notIn (by omega) I g rx fun s3 I3 => ⟨.bl (!o.isSome), H, I3, rfl, q⟩
theorem inB_ok {W : Wo} {S : Sto} {H : Hp} {vx vy : V} {x y : PV} {b : Bool} (w : Wd G W S H) (r1 : RV G.K W vx x) (r2 : RV G.K W vy y) (e : inB S x y = some b) :
    (∃ i j, vx = .str i ∧ vy = .str j ∧ b = !(Builtin.Str.occurrences j i 0 j.length 1).isEmpty) ∨ (∃ a o, vy = .ref a ∧ DGet H a vx o ∧ b = o.isSome) ∨
      ∃ d ds, Dp G.K H vx d ∧ (Dp G.K H vy (.list ds) ∨ Dp G.K H vy (.tuple ds)) ∧ d.depth ≤ 60 ∧ b = ds.any fun z => PyData.eqv z d := by
  unfold inB at e
  split at e
  · cases e; cases r1; cases r2; exact .inl ⟨_, _, rfl, rfl, rfl⟩
  · split at e
    · rename_i kvs hd
      obtain ⟨a, vs, rfl, h, t⟩ := dicS_ok w r2 hd
      cases ek : keyP x with
      | none => rw [ek] at e; cases e
      | some k =>
        rw [ek] at e
        cases e
        obtain rfl := keyP_ok r1 ek
        refine .inr (.inl ⟨a, valV vs k, rfl, DGet.k h, ?_⟩)
        rcases getK_r (k := k) t with ⟨e1, e2⟩ | ⟨v, x, e1, e2, _⟩
        · show (getK kvs k).isSome = _
          rw [e1, e2]; rfl
        · show (getK kvs k).isSome = _
          rw [e1, e2]; rfl
    · split at e
      · rename_i d ds h1 h2
        cases e
        obtain ⟨a1, a2⟩ := pyD_ok w r1 h1
        cases hs : seqS S y with
        | none => rw [hs] at h2; cases h2
        | some xs =>
          rw [hs] at h2
          obtain ⟨a, vs, rfl, h, t⟩ := seqS_ok w r2 hs
          obtain ⟨b1, _⟩ := mapO_ok (n := 60) (fun v x d r e => pyD_ok w r e) t h2
          refine .inr (.inr ⟨d, ds, a1, ?_, a2, rfl⟩)
          rcases h with h | h
          · exact .inl (.lst h b1)
          · exact .inr (.tup h b1)
      · cases e
theorem vo_in (hu : X.A.units + 64 < cLine) (hk : X.K = G.K := by rfl) : OpR X (compareOp .In) (rP G inP) := by
  have big : OpR X (compareOp .In) (fun x y H Q => (∃ i j, x = .str i ∧ y = .str j ∧ Q (.bl (!(Builtin.Str.occurrences j i 0 j.length 1).isEmpty)) H) ∨ (∃ a o, y = .ref a ∧ DGet H a x o ∧ Q (.bl o.isSome) H) ∨ rInP X.K false x y H Q) :=
    fun pins s σ H x y v u Q I rx ry q => q.elim (op_in_str pins s σ H x y v u Q I rx ry) fun q => q.elim (op_din hu pins s σ H x y v u Q I rx ry) (op_inP hu pins s σ H x y v u Q I rx ry)
  rw [hk] at big
  refine op_canon big fun W S H vx vy x y p Q w r1 r2 e q => ?_
  unfold inP at e
  cases eb : inB S x y with
  | none => rw [eb] at e; cases e
  | some b =>
    rw [eb] at e
    cases e
    have q := q W H _ (.refl W) w (.bl b)
    rcases inB_ok w r1 r2 eb with ⟨i, j, rfl, rfl, rfl⟩ | ⟨a, o, rfl, g, rfl⟩ | ⟨d, ds, h1, h2, h3, rfl⟩
    · exact .inl ⟨i, j, rfl, rfl, q⟩
    · exact .inr (.inl ⟨a, o, rfl, g, q⟩)
    · exact .inr (.inr ⟨d, ds, h1, h2, h3, q⟩)
theorem vo_notin (hu : X.A.units + 64 < cLine) (hk : X.K = G.K := by rfl) : OpR X (compareOp .NotIn) (rP G notinP) := by
  have big : OpR X (compareOp .NotIn) (fun x y H Q => (∃ i j, x = .str i ∧ y = .str j ∧ Q (.bl (!(!(Builtin.Str.occurrences j i 0 j.length 1).isEmpty))) H) ∨ (∃ a o, y = .ref a ∧ DGet H a x o ∧ Q (.bl (!o.isSome)) H) ∨ rInP X.K true x y H Q) :=
    fun pins s σ H x y v u Q I rx ry q => q.elim (op_notIn_str pins s σ H x y v u Q I rx ry) fun q => q.elim (op_dnotin hu pins s σ H x y v u Q I rx ry) (op_notinP hu pins s σ H x y v u Q I rx ry)
  rw [hk] at big
  refine op_canon big fun W S H vx vy x y p Q w r1 r2 e q => ?_
  unfold notinP at e
  cases eb : inB S x y with
  | none => rw [eb] at e; cases e
  | some b =>
    rw [eb] at e
    cases e
    have q := q W H _ (.refl W) w (.bl (!b))
    rcases inB_ok w r1 r2 eb with ⟨i, j, rfl, rfl, rfl⟩ | ⟨a, o, rfl, g, rfl⟩ | ⟨d, ds, h1, h2, h3, rfl⟩
    · exact .inl ⟨i, j, rfl, rfl, q⟩
    · exact .inr (.inl ⟨a, o, rfl, g, q⟩)
    · exact .inr (.inr ⟨d, ds, h1, h2, h3, q⟩)
end
end Pv

/-! Tests, subscripts, slices, calls of built-ins. -/
namespace Pv
open PySem PySem.Spec PyProof.Rows L2 Tc
section
variable {X : Cx} {G : Gb} {Wx : WX} {e a b c : Expr} {es rest : List Expr} {pos : Pos} {ma mb mc : ME PV} {mt mu : ME Bool} {ms : ME (List PV)}
/-! ### truth -/
def truS (S : Sto) (x : PV) : Option Bool := match x with
  | .non => some false
  | .bl b => some b
  | .int i => some (i != 0)
  | .str z => if z.length ≤ 100000 then some ((z.length : Int) != 0) else none
  | x => match seqS S x with
    | some xs => some (!xs.isEmpty)
    | none => (dicS S x).map fun kvs => !kvs.isEmpty
theorem rvs_isEmpty {K : PySem.W.Frag} {W : Wo} {vs : List V} {xs : List PV} (h : RVs K W vs xs) : vs.isEmpty = xs.isEmpty := by cases h <;> rfl
theorem kvr_isEmpty {K : PySem.W.Frag} {W : Wo} {vs : List (Key × V)} {xs : List (Key × PV)} (h : KVr K W vs xs) : vs.isEmpty = xs.isEmpty := by cases h <;> rfl
theorem truS_ok {W : Wo} {S : Sto} {H : Hp} {v : V} {x : PV} {k : Bool} (w : Wd G W S H) (r : RV G.K W v x) (e : truS S x = some k) : TruV G.K v H k := by
  unfold truS at e
  split at e
  · cases e; cases r; rfl
  · cases e; cases r; rfl
  · cases e; cases r; rfl
  · split at e
    · cases e; cases r; exact ⟨line_le (by assumption), rfl⟩
    · cases e
  · split at e
    · rename_i xs hs
      cases e
      obtain ⟨a, vs, rfl, h, t⟩ := seqS_ok w r hs
      rcases h with h | h
      · exact .inl ⟨vs, h, by rw [rvs_isEmpty t]⟩
      · exact .inr (.inl ⟨vs, h, by rw [rvs_isEmpty t]⟩)
    · cases hd : dicS S x with
      | none => rw [hd] at e; cases e
      | some kvs =>
        rw [hd] at e
        cases e
        obtain ⟨a, vs, rfl, h, t⟩ := dicS_ok w r hd
        exact .inr (.inr ⟨vs, h, by show (!kvs.isEmpty) = _; rw [kvr_isEmpty t]⟩)
def tTru (m : ME PV) : ME Bool := fun env S => (m env S).bind fun x S => optR (truS S x) S
theorem vt_tru (ha : PE X a (tE G Wx ma)) (hk : X.K = G.K := by rfl) (he : ∀ whole, isTrue a X.env whole = (do let v ← whole; standAt a.pos; holding [v] (truthy v)) := by intro _; rfl) : PT X a (tT G Wx (tTru ma)) := by
  refine pt_of (pt_truth ha he) fun σ H Q ⟨W, S, env, w, en, k⟩ => ⟨W, S, env, w, en, kR_bind k fun x S1 W1 H1 v l1 w1 r1 k1 => ?_⟩
  obtain ⟨b, e, q⟩ := kR_opt k1
  exact ⟨b, by rw [hk]; exact truS_ok w1 r1 e, q W1 H1 b (.refl _) w1 rfl⟩
/-! ### and, or, not, if -/
def tNotP (m : ME Bool) : ME Bool := fun env S => (m env S).bind fun b S => .ok (!b) S
def tAndP (m n : ME Bool) : ME Bool := fun env S => (m env S).bind fun b S => if b = true then n env S else .ok false S
def tOrP (m n : ME Bool) : ME Bool := fun env S => (m env S).bind fun b S => if b = true then .ok true S else n env S
theorem pw_of {t u : TT} (h : PW X e t) (k : ∀ σ H Q, u σ H Q → t σ H Q) : PW X e u := ⟨fun wh pins s σ H Q I q => h.run wh pins s σ H Q I (k σ H Q q)⟩
theorem vt_not (h : PT X a (tT G Wx mt)) : PT X (.UnaryOp .Not a pos) (tT G Wx (tNotP mt)) := pt_of (pt_not h) fun σ H Q ⟨W, S, env, w, en, k⟩ => ⟨W, S, env, w, en, kR_bind k fun x S1 W1 H1 v l1 w1 r1 k1 => by
  subst r1
  exact k1 W1 H1 _ (.refl _) w1 rfl⟩
theorem vw_and1 (h : PT X a (tT G Wx mt)) : PW X (.BoolOp .And [a] pos) (tT G Wx mt) := pw_and1 h
theorem vw_or1 (h : PT X a (tT G Wx mt)) : PW X (.BoolOp .Or [a] pos) (tT G Wx mt) := pw_or1 h
theorem vw_and (h : PT X a (tT G Wx mt)) (h' : PW X (.BoolOp .And (b :: rest) pos) (tT G Wx mu)) : PW X (.BoolOp .And (a :: b :: rest) pos) (tT G Wx (tAndP mt mu)) := pw_of (pw_and h h') fun σ H Q ⟨W, S, env, w, en, k⟩ => ⟨W, S, env, w, en, kR_bind k fun x S1 W1 H1 v l1 w1 r1 k1 => by
  subst r1
  cases v with
  | true => exact iteT (B := Q false H1) ⟨W1, S1, env, w1, en.mono l1, k1⟩
  | false => exact iteF (A := tT G Wx mu σ H1 Q) (k1 W1 H1 _ (.refl _) w1 rfl)⟩
theorem vw_or (h : PT X a (tT G Wx mt)) (h' : PW X (.BoolOp .Or (b :: rest) pos) (tT G Wx mu)) : PW X (.BoolOp .Or (a :: b :: rest) pos) (tT G Wx (tOrP mt mu)) := pw_of (pw_or h h') fun σ H Q ⟨W, S, env, w, en, k⟩ => ⟨W, S, env, w, en, kR_bind k fun x S1 W1 H1 v l1 w1 r1 k1 => by
  subst r1
  cases v with
  | true => exact iteT (B := tT G Wx mu σ H1 Q) (k1 W1 H1 _ (.refl _) w1 rfl)
  | false => exact iteF (A := Q true H1) ⟨W1, S1, env, w1, en.mono l1, k1⟩⟩
def eAndP (m n : ME PV) : ME PV := fun env S => (m env S).bind fun x S => (asB x S).bind fun b S => if b = true then n env S else .ok (.bl false) S
def eOrP (m n : ME PV) : ME PV := fun env S => (m env S).bind fun x S => (asB x S).bind fun b S => if b = true then .ok (.bl true) S else n env S
def eNotP (m : ME PV) : ME PV := fun env S => (m env S).bind fun x S => (asB x S).bind fun b S => .ok (.bl (!b)) S
def eNegP (m : ME PV) : ME PV := fun env S => (m env S).bind fun x S => match x with
  | .int i => .ok (.int (-i)) S
  | _ => .err
def eIf (t : ME Bool) (m n : ME PV) : ME PV := fun env S => (t env S).bind fun b S => if b = true then m env S else n env S
theorem ve_if (h : PT X c (tT G Wx mt)) (ha : PE X a (tE G Wx ma)) (hb : PE X b (tE G Wx mb)) : PE X (.IfExp c a b pos) (tE G Wx (eIf mt ma mb)) := pe_of (pe_ifExp h ha hb) fun σ H Q ⟨W, S, env, w, en, k⟩ => ⟨W, S, env, w, en, kR_bind k fun x S1 W1 H1 v l1 w1 r1 k1 => by
  subst r1
  cases v with
  | true => exact iteT (B := tE G Wx mb σ H1 Q) ⟨W1, S1, env, w1, en.mono l1, k1⟩
  | false => exact iteF (A := tE G Wx ma σ H1 Q) ⟨W1, S1, env, w1, en.mono l1, k1⟩⟩
theorem vt_chain {f g : Sto → PV → PV → Option PV} {op op' : CmpOp} (ho : OpR X (compareOp op) (rP G f)) (ho' : OpR X (compareOp op') (rP G g)) (ha : PE X a (tE G Wx ma)) (hb : PE X b (tE G Wx mb)) (hc : PE X c (tE G Wx mc))
    (hm : lastMarks [op, op'] [b, c] = false := by with_unfolding_all rfl) : PT X (.Compare a [op, op'] [b, c] pos) (tT G Wx (tOf (eChain f g ma mb mc))) := pt_of (pt_chainG ho ho' ha hb hc hm) fun σ H Q h => tTest_ok (fun Q q => tChain_ok q) h
/-! ### subscripts -/
theorem ix_dct (hu : X.A.units + 64 < cLine) : IxR X (fun x y H Q => ∃ a v, x = .ref a ∧ DGet H a y (some v) ∧ Q v H) := by
  intro value slice pins s σ H x y v u Q I rx ry ⟨a, z, e, g, q⟩ hs
  subst e
  cases rx
  have hT := dict_typeIs I g
  unfold subscriptTail
  refine wpAny_bind ?_
  rw [getitemInPython_of_ne hT.not_modules]
  refine wpAny_bind (wpAny_specialOf hT PySem.F.slot_dict_getitem.lookup ?_)
  have fin : wpAny (model X.prog X.w) X.A (subscripted slice false (Value.ref a) u) (fun r s₃ => wpAny (model X.prog X.w) X.A (letTemporaryGo value (Value.ref a) r >>= fun _ => pure r) (EP X pins σ Q) X.xe s₃) X.xe s := by
    rw [hs]
    exact wpAny_operating (wpAny_mono (d_getItem (by omega) I g ry fun w' s3 I3 rw' => (show EP X pins σ Q w' s3 from ⟨z, H, I3, rw', q⟩)) (fun r s₃ h₃ => wpAny_bind (wpAny_letTemporaryGo (wpAny_pure h₃))) fun _ _ x => x)
  first
    | exact wpAny_pure (wpAny_bind fin)
    | exact wpAny_bind (wpAny_pure (wpAny_bind fin))
    | exact wpAny_bind fin
theorem atI_r {K : PySem.W.Frag} {W : Wo} {vs : List V} {xs : List PV} {i : Int} {x : PV} (h : RVs K W vs xs) (e : atI xs i = some x) : ∃ v, atI vs i = some v ∧ RV K W v x := by
  unfold atI at e ⊢
  rw [h.length]
  cases q : ixN xs.length i with
  | none => rw [q] at e; cases e
  | some j =>
    rw [q] at e
    exact h.get' e
def ixP (S : Sto) (x y : PV) : Option PV := match x, y with
  | .str z, .int i => if z.length ≤ 100000 then (atI z.cps.toList i).map fun c => .str ⟨#[c]⟩ else none
  | x, y => match dicS S x with
    | some kvs => (keyP y).bind (getK kvs)
    | none => match y with
      | .int i => (seqS S x).bind fun xs => atI xs i
      | _ => none
theorem vo_ix (hu : X.A.units + 64 < cLine) (hk : X.K = G.K := by rfl) : IxR X (rP G ixP) := by
  have big := (ix_G (X := X)).or (ix_dct hu)
  rw [hk] at big
  intro value slice pins s σ H vx vy v u Q I rx ry ⟨W, S, x, y, p, w, r1, r2, e, q⟩ hs
  refine big value slice pins s σ H vx vy v u Q I rx ry ?_ hs
  unfold ixP at e
  split at e
  · split at e
    · rename_i z i hl
      cases r1; cases r2
      cases ec : atI z.cps.toList i with
      | none => rw [ec] at e; cases e
      | some c =>
        rw [ec] at e
        cases e
        exact .inl ⟨line_le hl, c, ec, q W H _ (.refl W) w (.str _)⟩
    · cases e
  · split at e
    · rename_i kvs hd
      obtain ⟨a, vs, rfl, h, t⟩ := dicS_ok w r1 hd
      cases ek : keyP y with
      | none => rw [ek] at e; cases e
      | some k =>
        rw [ek] at e
        obtain rfl := keyP_ok r2 ek
        rcases getK_r (k := k) t with ⟨e1, e2⟩ | ⟨z, z2, e1, e2, r⟩
        · have e : getK kvs k = some p := e
          rw [e2] at e; cases e
        · have e : getK kvs k = some p := e
          rw [e2] at e; cases e
          exact .inr ⟨a, z, rfl, e1 ▸ DGet.k h, q W H _ (.refl W) w r⟩
    · split at e
      · rename_i i
        cases hs : seqS S x with
        | none => rw [hs] at e; cases e
        | some xs =>
          rw [hs] at e
          obtain ⟨a, vs, rfl, h, t⟩ := seqS_ok w r1 hs
          obtain ⟨z, e1, r⟩ := atI_r t e
          cases r2
          exact .inl ⟨vs, z, h, e1, q W H _ (.refl W) w r⟩
      · cases e
theorem ve_ix (hu : X.A.units + 64 < cLine) (ha : PE X a (tE G Wx ma)) (hb : PE X b (tE G Wx mb)) (hs : PlainIx b) (hk : X.K = G.K := by rfl) : PE X (.Subscript a b pos) (tE G Wx (eOp ixP ma mb)) :=
  pe_of (pe_ix (vo_ix hu hk) ha hb hs) fun σ H Q h => tOp_ok h
/-! ### slices -/
def cutP {α : Type} (xs : List α) (lo hi : Option Int) : List α := (xs.drop (HT.sIx xs.length 0 lo)).take (HT.sIx xs.length xs.length hi - HT.sIx xs.length 0 lo)
theorem cutP_r {K : PySem.W.Frag} {W : Wo} {vs : List V} {xs : List PV} (lo hi : Option Int) (h : RVs K W vs xs) : RVs K W (cutV vs lo hi) (cutP xs lo hi) := by
  unfold cutV cutP
  rw [h.length]
  exact (h.drop _).take _
def rSlF (K : PySem.W.Frag) : V → Option Int → Option Int → Hp → VK → Prop := fun x lo hi H Q => ∃ a xs, x = .ref a ∧ SqT K H a xs ∧
  (HT.sIx xs.length 0 lo = 0 ∧ HT.sIx xs.length xs.length hi = xs.length → Q (.ref a) H) ∧ (¬ (HT.sIx xs.length 0 lo = 0 ∧ HT.sIx xs.length xs.length hi = xs.length) → ∀ p o, H p = none → o.cls = .type "tuple" → o.dict = none → Q (.ref p) (upd H p (.frz o (.tup (cutV xs lo hi)))))
theorem sl_tupF : SlR X (rSlF X.K) := by
  intro pins s σ H x v vl vu lo hi sl Q I rx hs pl pu h
  obtain ⟨a, xs, rfl, hx, q1, q2⟩ := h
  cases rx
  obtain ⟨its, r, ht, hz⟩ := I.tuple hx
  have hlen : its.toArray.size = xs.length := by rw [List.size_toArray]; exact r.length.symm
  refine ⟨"tuple", _, PyProof.Rows.slot_tuple_getitem.lookup, ht.typeIs, ?_⟩
  by_cases hw : HT.sIx xs.length 0 lo = 0 ∧ HT.sIx xs.length xs.length hi = xs.length
  · exact getItem_tuple_whole ht hs pl pu (by rw [hlen]; exact hw) ⟨.ref a, H, I, rfl, q1 hw⟩
  · refine HT.getItem_tuple_cut ht hs pl pu (by rw [hlen]; exact hw) ?_ (by rw [hlen]; exact hz)
    rw [hlen]
    refine ⟨.ref s.heap.objs.size, _, I.laid (t' := s.toks) (o := .frz { cls := .type "tuple", data := .seq ((its.drop (HT.sIx xs.length 0 lo)).take (HT.sIx xs.length xs.length hi - HT.sIx xs.length 0 lo)).toArray } (.tup (cutV xs lo hi))) (fun b ob q => Heap.get?_push_of_some _ q) (Nat.le_refl _) ?_, rfl, q2 hw _ _ (I.hok.fresh (Nat.le_refl _)) rfl rfl⟩
    exact ⟨Heap.get?_push_size _ rfl, Nat.le_trans (cutV_length xs lo hi) hz, _, (r.drop (HT.sIx xs.length 0 lo)).take (HT.sIx xs.length xs.length hi - HT.sIx xs.length 0 lo), IsTup.new _ _⟩
def slP (S : Sto) (x : PV) (lo hi : Option Int) : Option PV := match x with
  | .str z => if z.length ≤ 100000 then some (.str (cutS z lo hi)) else none
  | .tup xs => some (.tup (cutP xs lo hi))
  | x => (lsqS S x).map fun xs => .fl (cutP xs lo hi)
abbrev MO := ME (Option Int)
def tO (G : Gb) (Wx : WX) (m : MO) : TO := fun σ H Q => ∃ W S env, Wd G W S H ∧ EnR G.K W σ env ∧ kR G (fun _ a b => a = b) W Q (fun c d H => Wx c d σ H) (m env S)
def oNone : MO := fun _ S => .ok none S
def oSome (m : ME PV) : MO := fun env S => (m env S).bind fun x S => match x with
  | .int i => .ok (some i) S
  | _ => .err
theorem po_of {o : Option Expr} {t u : TO} (h : PO X o t) (k : ∀ σ H Q, u σ H Q → t σ H Q) : PO X o u := ⟨fun pins s σ H Q I q => h.run pins s σ H Q I (k σ H Q q)⟩
theorem vp_none : PO X none (tO G Wx oNone) := po_of po_none fun σ H Q ⟨W, S, env, w, en, k⟩ => k W H none (.refl W) w rfl
theorem vp_some (h : PE X e (tE G Wx ma)) : PO X (some e) (tO G Wx (oSome ma)) := po_of (po_G h) fun σ H Q ⟨W, S, env, w, en, k⟩ => ⟨W, S, env, w, en, kR_bind k fun x S1 W1 H1 v l1 w1 r1 k1 => by
  cases r1 with
  | int i => exact k1 W1 H1 _ (.refl _) w1 rfl
  | _ => exact k1.elim⟩
def eSl (m : ME PV) (ml mh : MO) : ME PV := fun env S => (m env S).bind fun x S => (ml env S).bind fun lo S => (mh env S).bind fun hi S => optR (slP S x lo hi) S
theorem ve_sl {lo hi : Option Expr} {p2 : Pos} {ml mh : MO} (h : PE X e (tE G Wx ma)) (hl : PO X lo (tO G Wx ml)) (hh : PO X hi (tO G Wx mh)) (hk : X.K = G.K := by rfl) : PE X (.Subscript e (.Slice lo hi none p2) pos) (tE G Wx (eSl ma ml mh)) := by
  have big : SlR X (fun x lo hi H Q => rSlG X.K x lo hi H Q ∨ rSlF X.K x lo hi H Q) := fun pins s σ H x v vl vu lo hi sl Q I rx hs pl pu q => q.elim (sl_G pins s σ H x v vl vu lo hi sl Q I rx hs pl pu) (sl_tupF pins s σ H x v vl vu lo hi sl Q I rx hs pl pu)
  rw [hk] at big
  refine pe_of (pe_slice big h hl hh) fun σ H Q ⟨W, S, env, w, en, k⟩ => ⟨W, S, env, w, en, kR_bind k fun x S1 W1 H1 v l1 w1 r1 k1 => ⟨W1, S1, env, w1, en.mono l1, kR_bind k1 fun lo' S2 W2 H2 lo2 l2 w2 r2 k2 => ⟨W2, S2, env, w2, (en.mono l1).mono l2, kR_bind k2 fun hi' S3 W3 H3 hi2 l3 w3 r3 k3 => ?_⟩⟩⟩
  subst r2 r3
  obtain ⟨p, e, q⟩ := kR_opt k3
  have r1 := (r1.mono l2).mono l3
  unfold slP at e
  split at e
  · split at e
    · cases e; cases r1
      exact .inl ⟨line_le (by assumption), q W3 H3 _ (.refl _) w3 (.str _)⟩
    · cases e
  · cases e
    obtain ⟨a, vs, rfl, h, t⟩ := tup_ok w3 r1
    refine .inr ⟨a, vs, rfl, h.sqT, fun z => ?_, fun z p o np c d => ?_⟩
    · refine q W3 H3 _ (.refl _) w3 ?_
      rw [show cutP _ lo2 hi2 = _ by
        unfold cutP
        rw [← t.length, z.1, z.2, List.drop_zero, Nat.sub_zero, t.length, List.take_length]]
      exact r1
    · obtain ⟨W4, l4, w4, r⟩ := w3.tup np c d (cutP_r lo2 hi2 t)
      exact q W4 _ _ l4 w4 r
  · cases hs : lsqS S3 x with
    | none => rw [hs] at e; cases e
    | some xs =>
      rw [hs] at e
      cases e
      obtain ⟨a, vs, rfl, hl, t⟩ := lsqS_ok w3 r1 hs
      refine .inl (.inl ⟨vs, hl, fun p np => ?_⟩)
      obtain ⟨W4, l4, w4, r⟩ := w3.fl np (cutP_r lo2 hi2 t)
      exact q W4 _ _ l4 w4 r
end
end Pv

/-! Statements, defs, calls. -/
namespace Pv
open PySem PySem.Spec PyProof.Rows L2 Tc
inductive SR where
  | nx (env : En) (S : Sto) | rt (v : PV) (S : Sto) | bk (env : En) (S : Sto) | ct (env : En) (S : Sto) | ex (e : Ex) (env : En) (S : Sto) | err
abbrev MS := En → Sto → SR
def ER.then {α : Type} (m : ER α) (env : En) (f : α → Sto → SR) : SR := match m with
  | .ok a S => f a S
  | .ex e S => .ex e env S
  | .err => .err
def kS (G : Gb) (W : Wo) (Wx : WX) (D : Ends) : SR → Prop
  | .nx env S => ∀ W' σ H, W.le W' → Wd G W' S H → EnR G.K W' σ env → D.nx σ H
  | .rt v S => ∀ W' H u, W.le W' → Wd G W' S H → RV G.K W' u v → D.rt u H
  | .bk env S => ∀ W' σ H, W.le W' → Wd G W' S H → EnR G.K W' σ env → D.bk σ H
  | .ct env S => ∀ W' σ H, W.le W' → Wd G W' S H → EnR G.K W' σ env → D.ct σ H
  | .ex e env S => ∀ W' σ H cls d, W.le W' → Wd G W' S H → EnR G.K W' σ env → ExR G W' cls d e → Wx cls d σ H
  | .err => False
def tS (G : Gb) (Wx : WX) (m : MS) : TS := fun D σ H => ∃ W S env, Wd G W S H ∧ EnR G.K W σ env ∧ kS G W Wx D (m env S)
theorem kS.mono {G : Gb} {W W' : Wo} {Wx : WX} {D : Ends} {r : SR} (h : kS G W Wx D r) (l : W.le W') : kS G W' Wx D r := by
  cases r with
  | nx env S => exact fun W2 σ H l2 => h W2 σ H (l.trans l2)
  | rt v S => exact fun W2 H u l2 => h W2 H u (l.trans l2)
  | bk env S => exact fun W2 σ H l2 => h W2 σ H (l.trans l2)
  | ct env S => exact fun W2 σ H l2 => h W2 σ H (l.trans l2)
  | ex e env S => exact fun W2 σ H c d l2 => h W2 σ H c d (l.trans l2)
  | err => exact h
theorem kS_then {α β : Type} {G : Gb} {rel : Wo → β → α → Prop} {W : Wo} {Wx : WX} {D : Ends} {Q : β → Hp → Prop} {σ : L2.St} {m : ER α} {env : En} {f : α → Sto → SR} (en : EnR G.K W σ env) (h : kS G W Wx D (m.then env f))
    (k : ∀ a S W' H v, W.le W' → Wd G W' S H → rel W' v a → kS G W' Wx D (f a S) → Q v H) : kR G rel W Q (fun c d H => Wx c d σ H) m := by
  cases m with
  | ok a S => exact fun W2 H v l w r => k a S W2 H v l w r (kS.mono h l)
  | ex e S => exact fun W2 H c d l w r => h W2 σ H c d l w (en.mono l) r
  | err => exact h
section
variable {X : Cx} {G : Gb} {Wx : WX} {e a b c o : Expr} {es rest : List Expr} {st : Stmt} {sts sts2 : List Stmt} {pos : Pos} {ma mb mc : ME PV} {mt mu : ME Bool} {ms : ME (List PV)} {s1 s2 : MS}
theorem ps_of {t u : TS} (h : PS X st t) (k : ∀ D σ H, u D σ H → t D σ H) : PS X st u := ⟨fun pins s σ H D I q => h.run pins s σ H D I (k D σ H q)⟩
theorem pss_of {t u : TS} (h : PSs X sts t) (k : ∀ D σ H, u D σ H → t D σ H) : PSs X sts u := ⟨fun pins s σ H D I q => h.run pins s σ H D I (k D σ H q)⟩
def sNil : MS := fun env S => .nx env S
def sSeq (s1 s2 : MS) : MS := fun env S => match s1 env S with
  | .nx env S => s2 env S
  | r => r
theorem vss_nil : PSs X [] (tS G Wx sNil) := pss_of pss_nil fun D σ H ⟨W, S, env, w, en, k⟩ => k W σ H (.refl W) w en
theorem vss_one (h : PS X st (tS G Wx s1)) : PSs X [st] (tS G Wx s1) := pss_one h
theorem vss_cons (h1 : PS X st (tS G Wx s1)) (h2 : PSs X sts (tS G Wx s2)) : PSs X (st :: sts) (tS G Wx (sSeq s1 s2)) := pss_of (pss_cons h1 h2) fun D σ H ⟨W, S, env, w, en, k⟩ => by
  refine ⟨W, S, env, w, en, ?_⟩
  unfold sSeq at k
  revert k
  cases s1 env S with
  | nx env1 S1 => exact fun k W1 σ1 H1 l1 w1 en1 => ⟨W1, S1, env1, w1, en1, k.mono l1⟩
  | rt v S1 => exact fun k => k
  | bk env1 S1 => exact fun k => k
  | ct env1 S1 => exact fun k => k
  | ex e1 env1 S1 => exact fun k => k
  | err => exact fun k => k
def sBreak : MS := fun env S => .bk env S
def sCont : MS := fun env S => .ct env S
def sExpr (m : ME PV) : MS := fun env S => (m env S).then env fun _ S => .nx env S
theorem vs_expr (h : PE X e (tE G Wx ma)) (hs : swapsWith e none pos.line X.env = pure false := by rfl) : PS X (.Expr e pos) (tS G Wx (sExpr ma)) := ps_of (ps_expr h hs) fun D σ H ⟨W, S, env, w, en, k⟩ =>
  ⟨W, S, env, w, en, kS_then en k fun x S1 W1 H1 v l1 w1 r1 k1 => k1 W1 σ H1 (.refl _) w1 (en.mono l1)⟩
def sRet (m : ME PV) : MS := fun env S => (m env S).then env fun x S => .rt x S
theorem vs_ret (h : PE X e (tE G Wx ma)) : PS X (.Return (some e) pos) (tS G Wx (sRet ma)) := ps_of (ps_ret h) fun D σ H ⟨W, S, env, w, en, k⟩ =>
  ⟨W, S, env, w, en, kS_then en k fun x S1 W1 H1 v l1 w1 r1 k1 => k1 W1 H1 v (.refl _) w1 r1⟩
def sRetN : MS := fun _ S => .rt .non S
def sIf (t : ME Bool) (s1 s2 : MS) : MS := fun env S => (t env S).then env fun b S => if b = true then s1 env S else s2 env S
theorem vs_if (h : PT X c (tT G Wx mt)) (h1 : PSs X sts (tS G Wx s1)) (h2 : PSs X sts2 (tS G Wx s2)) : PS X (.If c sts sts2 pos) (tS G Wx (sIf mt s1 s2)) := ps_of (ps_if h h1 h2) fun D σ H ⟨W, S, env, w, en, k⟩ =>
  ⟨W, S, env, w, en, kS_then (rel := fun _ a b => a = b) en k fun x S1 W1 H1 v l1 w1 r1 k1 => by
    subst r1
    cases v with
    | true => exact iteT (B := tS G Wx s2 D σ H1) ⟨W1, S1, env, w1, en.mono l1, k1⟩
    | false => exact iteF (A := tS G Wx s1 D σ H1) ⟨W1, S1, env, w1, en.mono l1, k1⟩⟩
/-! ### targets -/
abbrev MG := PV → En → Sto → Option (En × Sto)
def gP (G : Gb) (g : MG) : TG := fun v σ H Q => ∃ W S env x env' S', Wd G W S H ∧ EnR G.K W σ env ∧ RV G.K W v x ∧ g x env S = some (env', S') ∧ ∀ W' σ' H', W.le W' → Wd G W' S' H' → EnR G.K W' σ' env' → Q σ' H'
abbrev MGs := List PV → En → Sto → Option (En × Sto)
def gsP (G : Gb) (g : MGs) : TGs := fun vs σ H Q => ∃ W S env xs env' S', Wd G W S H ∧ EnR G.K W σ env ∧ RVs G.K W vs xs ∧ g xs env S = some (env', S') ∧ ∀ W' σ' H', W.le W' → Wd G W' S' H' → EnR G.K W' σ' env' → Q σ' H'
theorem pg_of {t u : TG} (h : PG X e t) (k : ∀ v σ H Q, u v σ H Q → t v σ H Q) : PG X e u := ⟨fun pins s σ H v w Q I r q => h.run pins s σ H v w Q I r (k v σ H Q q)⟩
theorem pgs_of {t u : TGs} (h : PGs X es t) (k : ∀ v σ H Q, u v σ H Q → t v σ H Q) : PGs X es u := ⟨fun pins s σ H v w Q I r q => h.run pins s σ H v w Q I r (k v σ H Q q)⟩
def gNm (i : Nat) : MG := fun x env S => some (env.set i (some x), S)
theorem vg_name {i : Nat} (h : PG X e (gName i)) : PG X e (gP G (gNm i)) := pg_of h fun v σ H Q ⟨W, S, env, x, env', S', w, en, r, eq, k⟩ => by
  cases eq
  exact k W _ H (.refl _) w (en.set r)
def gN0 : MGs := fun xs env S => match xs with
  | [] => some (env, S)
  | _ => none
def gCn (g : MG) (r : MGs) : MGs := fun xs env S => match xs with
  | x :: xs => (g x env S).bind fun p => r xs p.1 p.2
  | [] => none
theorem vgs_nil : PGs X [] (gsP G gN0) := pgs_of pgs_nil fun v σ H Q ⟨W, S, env, xs, env', S', w, en, r, eq, k⟩ => by
  cases r with
  | nil => cases eq; exact ⟨rfl, k W σ H (.refl _) w en⟩
  | cons _ _ => cases eq
theorem vgs_cons {g : MG} {gs : MGs} (h1 : PG X e (gP G g)) (h2 : PGs X es (gsP G gs)) (hs : (assignEach (e :: es) X.env).map (·.2) = assign e X.env :: (assignEach es X.env).map (·.2) := by rfl) : PGs X (e :: es) (gsP G (gCn g gs)) :=
  pgs_of (pgs_cons h1 h2 hs) fun v σ H Q ⟨W, S, env, xs, env', S', w, en, r, eq, k⟩ => by
    cases r with
    | nil => cases eq
    | @cons v1 vs x1 xs r rr =>
      cases eg : g x1 env S with
      | none => rw [show gCn g gs (x1 :: xs) env S = (g x1 env S).bind fun p => gs xs p.1 p.2 from rfl, eg] at eq; cases eq
      | some p =>
        rw [show gCn g gs (x1 :: xs) env S = (g x1 env S).bind fun p => gs xs p.1 p.2 from rfl, eg] at eq
        exact ⟨_, _, rfl, W, S, env, x1, p.1, p.2, w, en, r, eg, fun W1 σ1 H1 l1 w1 en1 => ⟨W1, p.2, p.1, xs, env', S', w1, en1, rr.mono l1, eq, fun W2 σ2 H2 l2 => k W2 σ2 H2 (l1.trans l2)⟩⟩
def gTp (n : Nat) (g : MGs) : MG := fun x env S => match x with
  | .tup xs => if xs.length = n then g xs env S else none
  | _ => none
theorem vg_tup {k : Nat} {gs : MGs} {n : Nat} (hc : X.calm = true) (h : PGs X es (gsP G gs)) (hn : (assignEach es X.env).length = n := by rfl) (hst : (assignEach es X.env).findIdx? (·.1) = none := by rfl) (hk : X.K = G.K := by rfl) : PG X (.Tuple es k pos) (gP G (gTp n gs)) :=
  pg_of (pg_tup hc h hn hst) fun v σ H Q ⟨W, S, env, x, env', S', w, en, r, eq, k⟩ => by
    cases r with
    | @tup a vs xs h t =>
      have eq : (if xs.length = n then gs xs env S else none) = some (env', S') := eq
      split at eq
      · exact ⟨a, vs, rfl, by rw [hk]; exact same_tup w.dat h.sqT, by rw [t.length]; assumption, W, S, env, xs, env', S', w, en, t, eq, k⟩
      · cases eq
    | _ => cases eq
def sAsg (m : ME PV) (g : MG) : MS := fun env S => (m env S).then env fun x S => match g x env S with
  | some (env, S) => .nx env S
  | none => .err
theorem asg_k {D : Ends} {g : MG} {W : Wo} {S : Sto} {H : Hp} {σ : L2.St} {env : En} {v : V} {x : PV} (w : Wd G W S H) (en : EnR G.K W σ env) (r : RV G.K W v x) (k : kS G W Wx D (match g x env S with | some (env, S) => SR.nx env S | none => .err)) : gP G g v σ H D.nx := by
  cases eg : g x env S with
  | none => rw [eg] at k; exact k.elim
  | some p =>
    rw [eg] at k
    exact ⟨W, S, env, x, p.1, p.2, w, en, r, eg, fun W' σ' H' l w' en' => k W' σ' H' l w' en'⟩
theorem vs_asg {tg : Expr} {g : MG} (h : PE X e (tE G Wx ma)) (hg : PG X tg (gP G g)) (hs : swapsWithSole [tg] e pos.line X.env = pure false := by rfl) (hw : swappedStores [tg] e X.env = pure none := by rfl)
    (h1 : (assignEach [tg] X.env).map (·.2) = [assign tg X.env] := by rfl) : PS X (.Assign [tg] e pos) (tS G Wx (sAsg ma g)) := ps_of (ps_asg h hg hs hw h1) fun D σ H ⟨W, S, env, w, en, k⟩ =>
  ⟨W, S, env, w, en, kS_then en k fun x S1 W1 H1 v l1 w1 r1 k1 => asg_k w1 (en.mono l1) r1 k1⟩
def sSet (i : Nat) (m : ME PV) : MS := fun env S => (m env S).then env fun x S => .nx (env.set i (some x)) S
theorem vs_set {i : Nat} {x : Str} {pos' : Pos} (hN : X.N.Nodup) (hi : X.N[i]? = some x) (hx : Loc X.env.scope x) (he : PE X e (tE G Wx ma)) (hs : swapsWith e (some (.Name x pos')) pos.line X.env = pure false := by rfl)
    (hf : X.fn x = true ∨ X.env.scope.names.lookup x = some .local := by first | exact .inl rfl | exact .inr rfl | assumption) : PS X (.Assign [.Name x pos'] e pos) (tS G Wx (sSet i ma)) := ps_of (ps_set hN hi hx he hs hf) fun D σ H ⟨W, S, env, w, en, k⟩ =>
  ⟨W, S, env, w, en, kS_then en k fun x S1 W1 H1 v l1 w1 r1 k1 => k1 W1 _ H1 (.refl _) w1 ((en.mono l1).set r1)⟩
/-- a, b = x, y -/
def sPar (i j : Nat) (m : ME (List PV)) : MS := fun env S => (m env S).then env fun xs S => match xs with
  | [x, y] => .nx ((env.set i (some x)).set j (some y)) S
  | _ => .err
/-- x += e, ints -/
def sAug (i : Nat) (m : ME PV) : MS := fun env S => match env[i]? with
  | some (some (.int x)) => (m env S).then env fun y S => match y with
    | .int y => .nx (env.set i (some (.int (x + y)))) S
    | _ => .err
  | _ => .err
/-! ### while -/
/-! ### raise -/
def sRaise (m : ME Ex) : MS := fun env S => match m env S with
  | .ok x S => .ex x env S
  | .ex x S => .ex x env S
  | .err => .err
/-! ### defs -/
/-- a def's promise by a function of what is handed in -/
def spM (G : Gb) (n : Nat) (m : List PV → Sto → ER PV) : Sp := fun vs H Q E => ∃ W S xs, Wd G W S H ∧ RVs G.K W vs xs ∧ xs.length = n ∧ kR G (RV G.K) W Q E (m xs S)
def SR.fin : SR → ER PV
  | .nx _ S => .ok .non S
  | .rt v S => .ok v S
  | .ex e _ S => .ex e S
  | _ => .err
def runB (N : Nat) (b : MS) (xs : List PV) (S : Sto) : ER PV := (b (xs.map some ++ List.replicate (N - xs.length) none) S).fin
theorem enR_start {K : PySem.W.Frag} {W : Wo} {vs : List V} {xs : List PV} (N : List Str) (r : RVs K W vs xs) : EnR K W (L2.start N vs) (xs.map some ++ List.replicate (N.length - xs.length) none) := by
  have rep : ∀ n : Nat, EnR K W (List.replicate n none) (List.replicate n none) := fun n => by
    induction n with
    | zero => exact .nil
    | succ n ih => exact .cons (fun x e => by cases e) ih
  have app : ∀ {vs : List V} {xs : List PV}, RVs K W vs xs → ∀ {l : L2.St} {l2 : En}, EnR K W l l2 → EnR K W (vs.map some ++ l) (xs.map some ++ l2) := fun r => by
    intro l l2 h
    induction r using RVs.rec (motive_1 := fun _ _ _ => True) with
    | nil => exact h
    | cons r _ _ ih => exact .cons (fun x e => by cases e; exact ⟨_, rfl, r⟩) ih
    | _ => trivial
  unfold L2.start
  rw [r.length]
  exact app r (rep _)
theorem fin_k {W : Wo} {Q : VK} {E : XK} {r : SR} (h : kR G (RV G.K) W Q E r.fin) : kS G W (fun cls d _ H => E cls d H) { nx := fun _ H' => Q .non H', rt := Q } r := by
  cases r with
  | nx env S => exact fun W1 σ H l w en => h W1 H .non l w .non
  | rt v S => exact fun W1 H u l w r => h W1 H u l w r
  | ex e env S => exact fun W1 σ H c d l w en r => h W1 H c d l w r
  | bk env S => exact h.elim
  | ct env S => exact h.elim
  | err => exact h.elim
end
section
variable {P : Program} {w : World} {K : PySem.W.Frag} {mg : Str → Option Value} {base : Heap} {G : Gb}
/-- a def over these contexts of exceptions -/
theorem fun_okN {x qual : Str} {st : Stmt} {f : Addr} {fd : FuncData} {N ps : List Str} {k : Nat} {sp : Sp} (F : Fun K x qual st f fd) (Sc : FnScope N ps (defScope st)) (len : ∀ vs H Q E, sp vs H Q E → vs.length = ps.length)
    (hb : ∀ (cdv : Value) (A : Around) (outer : List Env) (s : Shared) (H : Hp) (vs : List V) (Q : VK) (E : XK), Room k (A.deeper (envOfC qual (defScope st) s.heap.objs.size f cdv)) → sp vs H Q E →
      ∃ t, PSs (cxOf (L2N.CX P w) P w K mg base N qual (defScope st) f cdv A outer s H E) (defBody st) t ∧ t { nx := fun _ H' => Q .non H', rt := Q } (L2.start N vs) H) : FnOk P w K mg base (L2N.CX P w) (k + 1) f fd ps sp := by
  have ⟨_, _, _, _, _, _, cd, _, _, e, lk, hcd⟩ := F.ex
  subst e
  exact fn_of lk hcd Sc len fun A outer s H vs Q E r z => hb cd A outer s H vs Q E r z
theorem okX {x qual : Str} {st : Stmt} {f : Addr} {fd : FuncData} {N ps : List Str} {k n l : Nat} {b : MS} (F : Fun K x qual st f fd) (Sc : FnScope N ps (defScope st)) (hn : ps.length = n) (hl : N.length = l)
    (hbody : ∀ (cdv : Value) (A : Around) (outer : List Env) (s : Shared) (H : Hp) (E : XK), Room k (A.deeper (envOfC qual (defScope st) s.heap.objs.size f cdv)) →
      L2N.Takes (cxOf (L2N.CX P w) P w K mg base N qual (defScope st) f cdv A outer s H E) (fun cls d _ H => E cls d H) → PassesOwn (model P w) (A.deeper (envOfC qual (defScope st) s.heap.objs.size f cdv)) (envOfC qual (defScope st) s.heap.objs.size f cdv) (cxOf (L2N.CX P w) P w K mg base N qual (defScope st) f cdv A outer s H E).xe →
      PSs (cxOf (L2N.CX P w) P w K mg base N qual (defScope st) f cdv A outer s H E) (defBody st) (tS G (fun cls d _ H => E cls d H) b)) : FnOk P w K mg base (L2N.CX P w) (k + 1) f fd ps (spM G n (runB l b)) :=
  fun_okN F Sc (fun vs H Q E ⟨W, S, xs, w, r, e, q⟩ => by rw [r.length, e, hn]) fun cdv A outer s H vs Q E hr ⟨W, S, xs, w, r, e, q⟩ =>
    ⟨_, hbody cdv A outer s H E hr (L2N.takes_of rfl rfl rfl rfl) (passes_of rfl), W, S, _, w, enR_start N r, fin_k (by rw [hl]; exact q)⟩
/-- .. where no exception leaves it -/
theorem ok0 {x qual : Str} {st : Stmt} {f : Addr} {fd : FuncData} {N ps : List Str} {k n l : Nat} {b : MS} (F : Fun K x qual st f fd) (Sc : FnScope N ps (defScope st)) (hn : ps.length = n) (hl : N.length = l)
    (hbody : ∀ (cdv : Value) (A : Around) (outer : List Env) (s : Shared) (H : Hp) (E : XK), Room k (A.deeper (envOfC qual (defScope st) s.heap.objs.size f cdv)) →
      PSs (cxOf CX0 P w K mg base N qual (defScope st) f cdv A outer s H E).nox (defBody st) (tS G (fun _ _ _ _ => False) b)) : FnOk P w K mg base CX0 (k + 1) f fd ps (fun vs H Q _ => ∃ W S xs, Wd G W S H ∧ RVs G.K W vs xs ∧ xs.length = n ∧ kR G (RV G.K) W Q (fun _ _ _ => False) (runB l b xs S)) :=
  F.ok Sc (fun vs H Q E ⟨W, S, xs, w, r, e, q⟩ => by rw [r.length, e, hn]) fun cdv A outer s H vs Q E hr ⟨W, S, xs, w, r, e, q⟩ =>
    ⟨_, hbody cdv A outer s H E hr, W, S, _, w, enR_start N r, fin_k (by rw [hl]; exact q)⟩
end
end Pv

/-! What is walked: loops, comprehensions. -/
namespace Pv
open PySem PySem.Spec PyProof.Rows L2 Tc
/-- an item as a value; as a pair, made new each turn -/
abbrev IRel (ι : Type) := Wo → Hp → V → ι → Prop
def relA (G : Gb) : IRel PV := fun W _ v z => RV G.K W v z
def relB (G : Gb) : IRel (PV × PV) := fun W H v z => ∃ T u w, v = .ref T ∧ SqT G.K H T [u, w] ∧ RV G.K W u z.1 ∧ RV G.K W w z.2
/-- the iterator gives the items one by one, as long as C is true of the store -/
structure LW {ι : Type} (G : Gb) (rel : IRel ι) (W1 : Wo) (J : It) (C : Sto → Prop) (xs : List ι) : Prop where
  goes : ∀ i W S H, i < xs.length → W1.ex W → Wd G W S H → C S → J.go i H
  stops : ∀ W S H, W1.ex W → Wd G W S H → C S → J.stop xs.length H
  yields : ∀ i W S H x H', i < xs.length → W1.ex W → Wd G W S H → C S → J.yld i H x H' → ∃ W2 z, W.le W2 ∧ Wd G W2 S H' ∧ xs[i]? = some z ∧ rel W2 H' x z
section
variable {ι : Type} {X : Cx} {G : Gb} {Wx : WX} {e a b c o l tg : Expr} {es rest : List Expr} {st : Stmt} {sts : List Stmt} {pos : Pos} {ma mb ml : ME PV} {mt : ME Bool} {ms : ME (List PV)} {s1 : MS} {rel : IRel ι}
abbrev Src (ι : Type) := (Sto → Prop) × List ι
def kI (G : Gb) (rel : IRel ι) (W : Wo) (Wx : WX) (σ : L2.St) (R : It → Hp → Prop) : ER (Src ι) → Prop
  | .ok p S => ∀ W1 H1 J, W.le W1 → Wd G W1 S H1 → LW G rel W1 J p.1 p.2 → R J H1
  | .ex e S => ∀ W' H cls d, W.le W' → Wd G W' S H → ExR G W' cls d e → Wx cls d σ H
  | .err => False
def iA (G : Gb) (rel : IRel ι) (Wx : WX) (m : ME (Src ι)) : TI := fun σ H R => ∃ W S env, Wd G W S H ∧ EnR G.K W σ env ∧ kI G rel W Wx σ R (m env S)
theorem kI.mono {W W' : Wo} {σ : L2.St} {R : It → Hp → Prop} {r : ER (Src ι)} (h : kI G rel W Wx σ R r) (l : W.le W') : kI G rel W' Wx σ R r := by
  cases r with
  | ok a S => exact fun W1 H1 J l2 => h W1 H1 J (l.trans l2)
  | ex e S => exact fun W2 H c d l2 => h W2 H c d (l.trans l2)
  | err => exact h
theorem kI_bind {γ δ : Type} {rel1 : Wo → δ → γ → Prop} {W : Wo} {σ : L2.St} {R : It → Hp → Prop} {Q1 : δ → Hp → Prop} {m : ER γ} {f : γ → Sto → ER (Src ι)} (h : kI G rel W Wx σ R (m.bind f)) (k : ∀ a S W' H v, W.le W' → Wd G W' S H → rel1 W' v a → kI G rel W' Wx σ R (f a S) → Q1 v H) :
    kR G rel1 W Q1 (fun c d H => Wx c d σ H) m := by
  cases m with
  | ok a S => exact fun W2 H v l w r => k a S W2 H v l w r (h.mono l)
  | ex e S => exact h
  | err => exact h
theorem pi_of {t u : TI} (h : PI X tg e t) (k : ∀ σ H R, u σ H R → t σ H R) : PI X tg e u := ⟨fun pins s σ H R I q => h.run pins s σ H R I (k σ H R q)⟩
/-! ### the sources -/
theorem lw_list {W1 : Wo} {a : Addr} {x : PV} {xs : List PV} (r : RV G.K W1 (.ref a) x) : LW G (relA G) W1 (Itl G.K a) (fun S => lsqS S x = some xs) xs := by
  refine ⟨fun i W S H hi l w c => ?_, fun W S H l w c => ?_, fun i W S H y H' hi l w c q => ?_⟩
  · obtain ⟨a', vs, e, h, t⟩ := lsqS_ok w (r.monoX l) c
    cases e
    exact (walk_list (xs := vs)).goes i H (by rw [t.length]; exact hi) h
  · obtain ⟨a', vs, e, h, t⟩ := lsqS_ok w (r.monoX l) c
    cases e
    have z := (walk_list (xs := vs)).stops H h
    rw [t.length] at z
    exact z
  · obtain ⟨a', vs, e, h, t⟩ := lsqS_ok w (r.monoX l) c
    cases e
    obtain ⟨e1, e2⟩ := (walk_list (xs := vs)).yields i H y H' (by rw [t.length]; exact hi) h q
    subst e1
    obtain ⟨z, e3, r3⟩ := t.get e2
    exact ⟨W, z, .refl _, w, e3, r3⟩
theorem lw_tup {W1 : Wo} {a : Addr} {xs : List PV} {C : Sto → Prop} (r : RV G.K W1 (.ref a) (.tup xs)) : LW G (relA G) W1 (Itt G.K a) C xs := by
  refine ⟨fun i W S H hi l w c => ?_, fun W S H l w c => ?_, fun i W S H y H' hi l w c q => ?_⟩
  · obtain ⟨a', vs, e, h, t⟩ := tup_ok w (r.monoX l)
    cases e
    exact (walk_tup (xs := vs)).goes i H (by rw [t.length]; exact hi) h.sqT
  · obtain ⟨a', vs, e, h, t⟩ := tup_ok w (r.monoX l)
    cases e
    have z := (walk_tup (xs := vs)).stops H h.sqT
    rw [t.length] at z
    exact z
  · obtain ⟨a', vs, e, h, t⟩ := tup_ok w (r.monoX l)
    cases e
    obtain ⟨e1, e2⟩ := (walk_tup (xs := vs)).yields i H y H' (by rw [t.length]; exact hi) h.sqT q
    subst e1
    obtain ⟨z, e3, r3⟩ := t.get e2
    exact ⟨W, z, .refl _, w, e3, r3⟩
/-- a text's signs -/
def signs (z : Str) : List PV := z.cps.toList.map fun c => .str ⟨#[c]⟩
theorem lw_str {W1 : Wo} {z : Str} {C : Sto → Prop} : LW G (relA G) W1 (Its z) C (signs z) := by
  have hl : (signs z).length = z.cps.size := by unfold signs; simp
  refine ⟨fun i W S H hi l w c => ?_, fun W S H l w c => ?_, fun i W S H y H' hi l w c q => ?_⟩
  · exact walk_str.goes i H (by omega) trivial
  · rw [hl]; exact walk_str.stops H trivial
  · obtain ⟨e1, c, e2, e3⟩ := walk_str.yields i H y H' (by omega) trivial q
    subst e1 e3
    refine ⟨W, .str ⟨#[c]⟩, .refl _, w, ?_, .str _⟩
    unfold signs
    rw [List.getElem?_map, Array.getElem?_toList, e2]
    rfl
/-- what stands in a text, a list, a tuple, when it is walked -/
def itS (S : Sto) (x : PV) : Option (Src PV) := match x with
  | .tup xs => some (fun _ => True, xs)
  | .str z => some (fun _ => True, signs z)
  | .fl xs => some (fun _ => True, xs)
  | .ro xs => some (fun _ => True, xs)
  | x => (lsqS S x).map fun xs => (fun S => lsqS S x = some xs, xs)
def iSeq (m : ME PV) : ME (Src PV) := fun env S => (m env S).bind fun x S => optR (itS S x) S
theorem vi_seq (h : PE X e (tE G Wx ma)) (hk : X.K = G.K := by rfl) : PI X tg e (iA G (relA G) Wx (iSeq ma)) := by
  have b : PI X tg e (fun σ H R => tE G Wx ma σ H fun x H1 => (∃ a, x = .ref a ∧ (∃ xs, SqL X.K H1 a xs) ∧ R (Itl X.K a) H1) ∨ (∃ a, x = .ref a ∧ (∃ xs, SqT X.K H1 a xs) ∧ R (Itt X.K a) H1) ∨ ∃ z, x = .str z ∧ R (Its z) H1) := by
    refine ⟨fun pins s σ H R I q => ?_⟩
    refine thn (h.run pins s σ H _ I q) fun v s1 ⟨x, H1, I1, r1, q1⟩ => ?_
    rcases q1 with ⟨a, e, ⟨xs, hq⟩, q⟩ | ⟨a, e, ⟨xs, hq⟩, q⟩ | ⟨z, e, q⟩
    · subst e
      cases r1
      obtain ⟨its, rv, p, hz⟩ := I1.list hq
      refine wpAny_pyIter_list p.isList ?_
      refine ⟨s1.heap.objs.size, [s1.heap.objs.size], _, _, H1, rfl, I1.kept (t' := s1.toks) fun b o e => Heap.get?_push_of_some _ e, turn_list a _, ⟨_, Heap.get?_push_size _ rfl, rfl, rfl⟩, fun b hb => ?_, q⟩
      have e : b = s1.heap.objs.size := by simpa using hb
      subst e
      exact I1.fpOk (Nat.le_refl _) (I1.hok.fresh (Nat.le_refl _))
    · subst e
      cases r1
      obtain ⟨its, rv, p, hz⟩ := I1.tuple hq
      refine wpAny_pyIter_tuple (show s1.heap.IsTuple a its.toArray from p) ?_
      refine ⟨s1.heap.objs.size, [s1.heap.objs.size], _, _, H1, rfl, I1.kept (t' := s1.toks) fun b o e => Heap.get?_push_of_some _ e, turn_tuple a _, ⟨_, Heap.get?_push_size _ rfl, rfl, rfl⟩, fun b hb => ?_, q⟩
      have e : b = s1.heap.objs.size := by simpa using hb
      subst e
      exact I1.fpOk (Nat.le_refl _) (I1.hok.fresh (Nat.le_refl _))
    · subst e
      obtain ⟨t, rfl⟩ := r1
      cases ha : z.cps.all (· < 128)
      · exact wpAny_pyIter_wide ha (pi_one (tk := s1.toks) I1 _ (turn_str _ z t "str_iterator" (.inr rfl)) ⟨_, Heap.get?_push_size _ rfl, rfl, rfl⟩ q)
      · exact wpAny_pyIter_ascii ha (pi_one (tk := s1.toks) I1 _ (turn_str _ z t "str_ascii_iterator" (.inl rfl)) ⟨_, Heap.get?_push_size _ rfl, rfl, rfl⟩ q)
  rw [hk] at b
  refine pi_of b fun σ H R ⟨W, S, env, w, en, k⟩ => ⟨W, S, env, w, en, kI_bind k fun x S1 W1 H1 v l1 w1 r1 k1 => ?_⟩
  have lst : ∀ xs, lsqS S1 x = some xs → ∃ a, v = .ref a ∧ ∃ vs, SqL G.K H1 a vs := fun xs c => by
    obtain ⟨a, vs, e, h, t⟩ := lsqS_ok w1 r1 c
    exact ⟨a, e, vs, h⟩
  cases x with
  | tup xs =>
    obtain ⟨a, vs, rfl, h, t⟩ := tup_ok w1 r1
    exact .inr (.inl ⟨a, rfl, ⟨vs, h.sqT⟩, k1 W1 H1 _ (.refl _) w1 (lw_tup r1)⟩)
  | str z =>
    cases r1
    exact .inr (.inr ⟨z, rfl, k1 W1 H1 _ (.refl _) w1 lw_str⟩)
  | fl xs =>
    obtain ⟨a, rfl, vs, h⟩ := lst xs rfl
    have z := lw_list (xs := xs) r1
    exact .inl ⟨a, rfl, ⟨vs, h⟩, k1 W1 H1 _ (.refl _) w1 ⟨fun i W S H hi l w _ => z.goes i W S H hi l w rfl, fun W S H l w _ => z.stops W S H l w rfl, fun i W S H x H' hi l w _ => z.yields i W S H x H' hi l w rfl⟩⟩
  | ro xs =>
    obtain ⟨a, rfl, vs, h⟩ := lst xs rfl
    have z := lw_list (xs := xs) r1
    exact .inl ⟨a, rfl, ⟨vs, h⟩, k1 W1 H1 _ (.refl _) w1 ⟨fun i W S H hi l w _ => z.goes i W S H hi l w rfl, fun W S H l w _ => z.stops W S H l w rfl, fun i W S H x H' hi l w _ => z.yields i W S H x H' hi l w rfl⟩⟩
  | ref i =>
    cases hs : lsqS S1 (.ref i) with
    | none => rw [show itS S1 (.ref i) = (lsqS S1 (.ref i)).map _ from rfl, hs] at k1; exact k1.elim
    | some xs =>
      rw [show itS S1 (.ref i) = (lsqS S1 (.ref i)).map _ from rfl, hs] at k1
      obtain ⟨a, rfl, vs, h⟩ := lst xs hs
      exact .inl ⟨a, rfl, ⟨vs, h⟩, k1 W1 H1 _ (.refl _) w1 (lw_list r1)⟩
  | _ => exact k1.elim
/-- range -/
def rngL (lo : Int) (n : Nat) : List PV := (List.range n).map fun k => .int (lo + (k : Nat))
theorem lw_rng {W1 : Wo} {lo : Int} {n : Nat} {C : Sto → Prop} : LW G (relA G) W1 (Itr lo n) C (rngL lo n) := by
  have hl : (rngL lo n).length = n := by unfold rngL; simp
  refine ⟨fun i W S H hi l w c => ?_, fun W S H l w c => ?_, fun i W S H y H' hi l w c q => ?_⟩
  · exact walk_range.goes i H (by omega) trivial
  · rw [hl]; exact walk_range.stops H trivial
  · obtain ⟨e1, e2⟩ := walk_range.yields i H y H' (by omega) trivial q
    subst e1 e2
    refine ⟨W, .int (lo + i), .refl _, w, ?_, .int _⟩
    unfold rngL
    rw [List.getElem?_map, List.getElem?_range (by omega)]
    rfl
def iRng1 (m : ME (List PV)) : ME (Src PV) := fun env S => (m env S).bind fun xs S => match xs with
  | [.int j] => if -1000000000 ≤ j ∧ j ≤ 1000000000 then .ok (fun _ => True, rngL 0 j.toNat) S else .err
  | _ => .err
def iRng2 (m : ME (List PV)) : ME (Src PV) := fun env S => (m env S).bind fun xs S => match xs with
  | [.int i, .int j] => if -1000000000 ≤ i ∧ i ≤ 1000000000 ∧ -1000000000 ≤ j ∧ j ≤ 1000000000 then .ok (fun _ => True, rngL i (j - i).toNat) S else .err
  | _ => .err
theorem vi_rng1 {p : Pos} (hg : Gl X "range") (hm : X.mg "range" = none) (ha : PA X [a] (tA G Wx ms)) (hs : starEach [a] X.env = [(false, eval a X.env)] := by rfl) : PI X tg (.Call (.Name "range" p) [a] [] pos) (iA G (relA G) Wx (iRng1 ms)) :=
  pi_of (pi_range1 hg hm ha hs) fun σ H R ⟨W, S, env, w, en, k⟩ => ⟨W, S, env, w, en, kI_bind k fun xs S1 W1 H1 v l1 w1 r1 k1 => by
    split at k1
    · split at k1
      · obtain ⟨y, rfl, r⟩ := r1.one
        cases r
        exact ⟨_, rfl, by omega, by omega, k1 W1 H1 _ (.refl _) w1 lw_rng⟩
      · exact k1.elim
    · exact k1.elim⟩
theorem vi_rng2 {p : Pos} (hg : Gl X "range") (hm : X.mg "range" = none) (ha : PA X [a, b] (tA G Wx ms)) (hs : starEach [a, b] X.env = [(false, eval a X.env), (false, eval b X.env)] := by rfl) (hs2 : starEach [b] X.env = [(false, eval b X.env)] := by rfl) :
    PI X tg (.Call (.Name "range" p) [a, b] [] pos) (iA G (relA G) Wx (iRng2 ms)) :=
  pi_of (pi_range2 hg hm ha hs hs2) fun σ H R ⟨W, S, env, w, en, k⟩ => ⟨W, S, env, w, en, kI_bind k fun xs S1 W1 H1 v l1 w1 r1 k1 => by
    split at k1
    · split at k1
      · obtain ⟨y1, y2, rfl, q1, q2⟩ := r1.two
        cases q1
        cases q2
        exact ⟨_, _, rfl, ⟨by omega, by omega, by omega, by omega⟩, k1 W1 H1 _ (.refl _) w1 lw_rng⟩
      · exact k1.elim
    · exact k1.elim⟩
/-! ### pairs -/
theorem pairB {W : Wo} {S : Sto} {H : Hp} {T : Addr} {u z : V} {x y : PV} (w : Wd G W S H) (hT : H T = none) (ru : RV G.K W u x) (rz : RV G.K W z y) :
    ∃ W2, W.le W2 ∧ Wd G W2 S (upd H T (.tup [u, z])) ∧ relB G W2 (upd H T (.tup [u, z])) (.ref T) (x, y) := by
  obtain ⟨w2, l2⟩ := w.data (o := .tup [u, z]) hT
  exact ⟨_, l2, w2, T, u, z, rfl, .inl (.inl upd_same), ru.mono l2, rz.mono l2⟩
def isTp : PV → Bool
  | .tup _ => true
  | _ => false
theorem lsq_of {x : PV} {S : Sto} (h : isTp x = false) : lsqS S x = seqS S x := by
  cases x with
  | tup xs => cases h
  | _ => rfl
theorem tp_of {x : PV} (h : isTp x = true) : ∃ xs, x = .tup xs := by
  cases x with
  | tup xs => exact ⟨xs, rfl⟩
  | _ => cases h
theorem zip_at {α β : Type} {xs : List α} {ys : List β} {i : Nat} {x : α} {y : β} (h1 : xs[i]? = some x) (h2 : ys[i]? = some y) : (xs.zip ys)[i]? = some (x, y) := by
  rw [List.getElem?_zip_eq_some]
  exact ⟨h1, h2⟩
def enumL (xs : List PV) : List (PV × PV) := (rngL 0 xs.length).zip xs
theorem rng_at {lo : Int} {n i : Nat} (h : i < n) : (rngL lo n)[i]? = some (.int (lo + (i : Nat))) := by
  unfold rngL
  rw [List.getElem?_map, List.getElem?_range h]
  rfl
theorem rng_len {lo : Int} {n : Nat} : (rngL lo n).length = n := by unfold rngL; simp
theorem enum_len {xs : List PV} : (enumL xs).length = xs.length := by unfold enumL; rw [List.length_zip, rng_len, Nat.min_self]
def iEnu (m : ME (List PV)) : ME (Src (PV × PV)) := fun env S => (m env S).bind fun xs S => match xs with
  | [x] => match seqS S x with
    | some xs => .ok (fun S => seqS S x = some xs, enumL xs) S
    | _ => .err
  | _ => .err
theorem lw_enuL {W1 : Wo} {p : Addr} {x : PV} {xs : List PV} (hx : isTp x = false) (r1 : RV G.K W1 (.ref p) x) : LW G (relB G) W1 (Ite G.K p) (fun S => seqS S x = some xs) (enumL xs) := by
  have get : ∀ {W S H}, W1.ex W → Wd G W S H → seqS S x = some xs → ∃ vs, SqL G.K H p vs ∧ RVs G.K W vs xs ∧ Walk (Ite G.K p) (enumL xs).length (fun H => SqL G.K H p vs) (YPair (fun i => some (.int (i : Nat))) (fun i => vs[i]?)) := fun {W S H} l w c => by
    obtain ⟨a1, vs, e1, h1, t1⟩ := lsqS_ok w (r1.monoX l) ((lsq_of hx).trans c)
    cases e1
    exact ⟨vs, h1, t1, by rw [enum_len, ← t1.length]; exact walk_enum⟩
  refine ⟨fun i W S H hi l w c => ?_, fun W S H l w c => ?_, fun i W S H z H' hi l w c q => ?_⟩
  · obtain ⟨vs, h1, t1, wk⟩ := get l w c
    exact wk.goes i H hi h1
  · obtain ⟨vs, h1, t1, wk⟩ := get l w c
    exact wk.stops H h1
  · obtain ⟨vs, h1, t1, wk⟩ := get l w c
    obtain ⟨T, u, z', rfl, hT, rfl, e1, e2⟩ := wk.yields i H z H' hi h1 q
    obtain ⟨zx, g1, rx⟩ := t1.get e2
    cases e1
    obtain ⟨W2, l2, w2, rb⟩ := pairB w hT (.int (i : Nat)) rx
    refine ⟨W2, (.int (i : Nat), zx), l2, w2, zip_at ?_ g1, rb⟩
    rw [enum_len] at hi
    rw [rng_at hi, Int.zero_add]
theorem lw_enuT {W1 : Wo} {p : Addr} {xs : List PV} {C : Sto → Prop} (r1 : RV G.K W1 (.ref p) (.tup xs)) : LW G (relB G) W1 (IteT G.K p) C (enumL xs) := by
  have get : ∀ {W S H}, W1.ex W → Wd G W S H → ∃ vs, SqT G.K H p vs ∧ RVs G.K W vs xs ∧ Walk (IteT G.K p) (enumL xs).length (fun H => SqT G.K H p vs) (YPair (fun i => some (.int (i : Nat))) (fun i => vs[i]?)) := fun {W S H} l w => by
    obtain ⟨a1, vs, e1, h1, t1⟩ := tup_ok w (r1.monoX l)
    cases e1
    exact ⟨vs, h1.sqT, t1, by rw [enum_len, ← t1.length]; exact walk_enumT⟩
  refine ⟨fun i W S H hi l w c => ?_, fun W S H l w c => ?_, fun i W S H z H' hi l w c q => ?_⟩
  · obtain ⟨vs, h1, t1, wk⟩ := get l w
    exact wk.goes i H hi h1
  · obtain ⟨vs, h1, t1, wk⟩ := get l w
    exact wk.stops H h1
  · obtain ⟨vs, h1, t1, wk⟩ := get l w
    obtain ⟨T, u, z', rfl, hT, rfl, e1, e2⟩ := wk.yields i H z H' hi h1 q
    obtain ⟨zx, g1, rx⟩ := t1.get e2
    cases e1
    obtain ⟨W2, l2, w2, rb⟩ := pairB w hT (.int (i : Nat)) rx
    refine ⟨W2, (.int (i : Nat), zx), l2, w2, zip_at ?_ g1, rb⟩
    rw [enum_len] at hi
    rw [rng_at hi, Int.zero_add]
theorem vi_enu {p tpos : Pos} {elts : List Expr} {kk : Nat} (hg : Gl X "enumerate") (hm : X.mg "enumerate" = none) (ha : PA X [e] (tA G Wx ms)) (hs : starEach [e] X.env = [(false, eval e X.env)] := by rfl) (hk : X.K = G.K := by rfl) :
    PI X (.Tuple elts kk tpos) (.Call (.Name "enumerate" p) [e] [] pos) (iA G (relB G) Wx (iEnu ms)) := by
  have b : PI X (.Tuple elts kk tpos) (.Call (.Name "enumerate" p) [e] [] pos) (fun σ H R => tA G Wx ms σ H fun vs H1 => (∃ a xs, vs = [.ref a] ∧ SqL X.K H1 a xs ∧ R (Ite X.K a) H1) ∨ ∃ a xs, vs = [.ref a] ∧ SqT X.K H1 a xs ∧ R (IteT X.K a) H1) := by
    refine ⟨fun pins s σ H R I h => ?_⟩
    refine Call_ (ld_blt I hg hm boot_enumerate (PyProof.Rows.callWith_type1 (thn (ha.run pos pins s σ H _ I h) fun us s1 ⟨vs, H1, I1, r1, q1⟩ => ?_) hs rfl))
    have fr : ∀ b, b ∈ [s1.heap.objs.size + 1, s1.heap.objs.size] → FpOk X pins H1 b := fun b hb => by
      have z : b = s1.heap.objs.size + 1 ∨ b = s1.heap.objs.size := by simpa using hb
      have hle : s1.heap.objs.size ≤ b := by
        rcases z with z | z
        · rw [z]; exact Nat.le_add_right _ _
        · rw [z]; exact Nat.le_refl _
      exact I1.fpOk hle (I1.hok.fresh hle)
    rcases q1 with ⟨a, xs, ex, hq, q⟩ | ⟨a, xs, ex, hq, q⟩
    · subst ex
      cases r1 with
      | cons r rr =>
        cases rr
        cases r
        obtain ⟨its, rv, p', hz⟩ := I1.list hq
        refine call_enumerate_list p'.isList fun h' he hit hsz hk => wpAny_pyIter_enum he ?_
        have I2 : Inv X pins σ H1 { s1 with heap := h' } := I1.kept (t' := s1.toks) hk
        exact ⟨s1.heap.objs.size + 1, [s1.heap.objs.size + 1, s1.heap.objs.size], _, _, H1, rfl, I2, turn_enum a (s1.heap.objs.size + 1) s1.heap.objs.size, ⟨⟨.none, he⟩, hit, Nat.succ_ne_self _⟩, fr, q⟩
    · subst ex
      cases r1 with
      | cons r rr =>
        cases rr
        cases r
        obtain ⟨its, rv, p', hz⟩ := I1.tuple hq
        have hal : a < s1.heap.objs.size := by obtain ⟨_, e, _⟩ := p'; exact Heap.lt_size e
        refine call_enumT p' fun h' he hit hk => wpAny_pyIter_enum he ?_
        have I2 : Inv X pins σ H1 { s1 with heap := h' } := I1.kept (t' := s1.toks) hk
        exact ⟨s1.heap.objs.size + 1, [s1.heap.objs.size + 1, s1.heap.objs.size], _, _, H1, rfl, I2, turn_enumT a (s1.heap.objs.size + 1) s1.heap.objs.size, ⟨⟨.none, he⟩, hit, Nat.succ_ne_self _, Nat.ne_of_lt hal, Nat.ne_of_lt (Nat.lt_succ_of_lt hal)⟩, fr, q⟩
  rw [hk] at b
  refine pi_of b fun σ H R ⟨W, S, env, w, en, k⟩ => ⟨W, S, env, w, en, kI_bind k fun xs S1 W1 H1 v l1 w1 r1 k1 => ?_⟩
  split at k1
  · rename_i x
    split at k1
    · rename_i xs c1
      obtain ⟨y, rfl, q1⟩ := r1.one
      cases hx : isTp x with
      | true =>
        obtain ⟨zs, rfl⟩ := tp_of hx
        cases c1
        obtain ⟨b1, vs1, e1, h1, t1⟩ := tup_ok w1 q1
        cases e1
        exact .inr ⟨b1, vs1, rfl, h1.sqT, k1 W1 H1 _ (.refl _) w1 (lw_enuT q1)⟩
      | false =>
        obtain ⟨b1, vs1, e1, h1, t1⟩ := lsqS_ok w1 q1 ((lsq_of hx).trans c1)
        cases e1
        exact .inl ⟨b1, vs1, rfl, h1, k1 W1 H1 _ (.refl _) w1 (lw_enuL hx q1)⟩
    · exact k1.elim
  · exact k1.elim
/-! ### for -/
open Classical in
noncomputable def forI {ι : Type} (C : Sto → Prop) (g : ι → En → Sto → Option (En × Sto)) (b : MS) : List ι → En → Sto → SR
  | [], env, S => if C S then .nx env S else .err
  | x :: xs, env, S => if C S then (match g x env S with
    | none => .err
    | some p => match b p.1 p.2 with
      | .nx env S => forI C g b xs env S
      | .ct env S => forI C g b xs env S
      | .bk env S => .nx env S
      | r => r) else .err
def gQ (G : Gb) (rel : IRel ι) (g : ι → En → Sto → Option (En × Sto)) : TG := fun v σ H Q => ∃ W S env z env' S', Wd G W S H ∧ EnR G.K W σ env ∧ rel W H v z ∧ g z env S = some (env', S') ∧ ∀ W' σ' H', W.le W' → Wd G W' S' H' → EnR G.K W' σ' env' → Q σ' H'
theorem vg_A {g : MG} (h : PG X tg (gP G g)) : PG X tg (gQ G (relA G) g) := h
def gPr (gs : MGs) : PV × PV → En → Sto → Option (En × Sto) := fun z env S => gs [z.1, z.2] env S
theorem vg_B {k : Nat} {gs : MGs} (hc : X.calm = true) (h : PGs X es (gsP G gs)) (hn : (assignEach es X.env).length = 2 := by rfl) (hst : (assignEach es X.env).findIdx? (·.1) = none := by rfl) (hk : X.K = G.K := by rfl) : PG X (.Tuple es k pos) (gQ G (relB G) (gPr gs)) :=
  pg_of (pg_tup hc h hn hst) fun v σ H Q ⟨W, S, env, x, env', S', w, en, ⟨T, u, z, ev, hT, r1, r2⟩, eq, k⟩ => ⟨T, [u, z], ev, by rw [hk]; exact hT, rfl, W, S, env, [x.1, x.2], env', S', w, en, .cons r1 (.cons r2 .nil), eq, k⟩
theorem for_k {g : ι → En → Sto → Option (En × Sto)} {C : Sto → Prop} {xs : List ι} {W1 : Wo} {S1 : Sto} {H1 : Hp} {env : En} {J : It} {D : Ends} {σ : L2.St} (lw : LW G rel W1 J C xs) (w : Wd G W1 S1 H1) (en : EnR G.K W1 σ env) (k : kS G W1 Wx D (forI C g s1 xs env S1)) :
    ∃ Wi : Nat → Nat → L2.St → Hp → Prop, (∃ m, Wi 0 m σ H1) ∧ ∀ i m σ H, Wi i m σ H → (J.stop i H ∧ D.nx σ H) ∨ (J.go i H ∧ ∃ N : L2.St → Hp → Prop, (∀ σ' H', N σ' H' → ∃ m', m' < m ∧ Wi (i + 1) m' σ' H') ∧ ∀ x H', J.yld i H x H' → gQ G rel g x σ H' fun σ2 H2 => tS G Wx s1 { D with nx := N, ct := N, bk := D.nx } σ2 H2) := by
  refine ⟨fun i m σ H => m = xs.length - i ∧ i ≤ xs.length ∧ ∃ W S env, W1.le W ∧ Wd G W S H ∧ EnR G.K W σ env ∧ kS G W Wx D (forI C g s1 (xs.drop i) env S), ⟨_, rfl, Nat.zero_le _, W1, S1, env, .refl _, w, en, k⟩, fun i m σ H ⟨em, hi, W, S, env, l, w, en, k⟩ => ?_⟩
  subst em
  by_cases hlt : i < xs.length
  · right
    rw [List.drop_eq_getElem_cons hlt] at k
    unfold forI at k
    split at k
    · rename_i c
      refine ⟨lw.goes i W S H hlt l.x w c, fun σ' H' => ∃ W S env, W1.le W ∧ Wd G W S H' ∧ EnR G.K W σ' env ∧ kS G W Wx D (forI C g s1 (xs.drop (i + 1)) env S), fun σ' H' q => ⟨xs.length - (i + 1), by omega, rfl, hlt, q⟩, fun x H' y => ?_⟩
      obtain ⟨W2, z, l2, w2, ez, rz⟩ := lw.yields i W S H x H' hlt l.x w c y
      rw [List.getElem?_eq_getElem hlt] at ez
      cases ez
      cases eg : g xs[i] env S with
      | none => rw [eg] at k; exact k.elim
      | some p =>
        rw [eg] at k
        refine ⟨W2, S, env, xs[i], p.1, p.2, w2, en.mono l2, rz, eg, fun W3 σ3 H3 l3 w3 en3 => ⟨W3, p.2, p.1, w3, en3, ?_⟩⟩
        have k := k.mono (l2.trans l3)
        have l03 := (l.trans l2).trans l3
        revert k
        show kS G W3 Wx D (match s1 p.1 p.2 with
          | .nx env S => forI C g s1 (xs.drop (i + 1)) env S
          | .ct env S => forI C g s1 (xs.drop (i + 1)) env S
          | .bk env S => .nx env S
          | r => r) → _
        cases s1 p.1 p.2 with
        | nx env4 S4 => exact fun k W4 σ4 H4 l4 w4 en4 => ⟨W4, S4, env4, l03.trans l4, w4, en4, k.mono l4⟩
        | ct env4 S4 => exact fun k W4 σ4 H4 l4 w4 en4 => ⟨W4, S4, env4, l03.trans l4, w4, en4, k.mono l4⟩
        | bk env4 S4 => exact fun k => k
        | rt v4 S4 => exact fun k => k
        | ex e4 env4 S4 => exact fun k => k
        | err => exact fun k => k
    · exact k.elim
  · left
    have e : i = xs.length := by omega
    subst e
    rw [List.drop_length] at k
    unfold forI at k
    split at k
    · rename_i c
      exact ⟨lw.stops W S H l.x w c, k W σ H (.refl _) w en⟩
    · exact k.elim
noncomputable def sFor {ι : Type} (m : ME (Src ι)) (g : ι → En → Sto → Option (En × Sto)) (b : MS) : MS := fun env S => (m env S).then env fun p S => forI p.1 g b p.2 env S
theorem vs_for {g : ι → En → Sto → Option (En × Sto)} {m : ME (Src ι)} (hp : PassesOwn (model X.prog X.w) X.A X.env X.xe) (hc : X.calm = true) (hi : PI X tg e (iA G rel Wx m)) (hg : PG X tg (gQ G rel g)) (hb : PSs X sts (tS G Wx s1)) (hs : ∀ x, foldedSetIterable e X.env x = pure x := by intro _; rfl) :
    PS X (.For tg e sts [] pos) (tS G Wx (sFor m g s1)) := ps_of (ps_for hp hc hi hg hb hs) fun D σ H ⟨W, S, env, w, en, k⟩ => by
  refine ⟨W, S, env, w, en, ?_⟩
  unfold sFor at k
  revert k
  cases m env S with
  | ok p S1 => exact fun k W1 H1 J l1 w1 lw => for_k lw w1 (en.mono l1) (k.mono l1)
  | ex x S1 => exact fun k W1 H1 c d l1 w1 r1 => k W1 σ H1 c d l1 w1 (en.mono l1) r1
  | err => exact fun k => k
end
end Pv

/-! Comprehensions. -/
namespace Pv
open PySem PySem.Spec PyProof.Rows L2 Tc
def wipeP (env : En) : List Nat → En
  | [] => env
  | v :: vs => (wipeP env vs).set v none
theorem EnR.wipe {K : PySem.W.Frag} {W : Wo} {σ : L2.St} {env : En} (h : EnR K W σ env) : ∀ vs : List Nat, EnR K W (wipe σ vs) (wipeP env vs)
  | [] => h
  | v :: vs => (EnR.wipe h vs).clear
theorem wipe_set {σ : L2.St} {i : Nat} {o : Option V} : ∀ {vs : List Nat}, i ∈ vs → wipe (σ.set i o) vs = wipe σ vs
  | [], h => by cases h
  | v :: vs, h => by
    unfold wipe
    by_cases hm : i ∈ vs
    · rw [wipe_set hm]
    · have e : i = v := by
        rcases List.mem_cons.mp h with e | e
        · exact e
        · exact absurd e hm
      subst e
      have out : ∀ (ws : List Nat), i ∉ ws → wipe (σ.set i o) ws = (wipe σ ws).set i o := fun ws => by
        induction ws with
        | nil => intro _; rfl
        | cons x ws ih =>
          intro hn
          unfold wipe
          rw [ih (fun z => hn (List.mem_cons_of_mem _ z)), List.set_comm _ _ (fun z => hn (by rw [z]; exact List.mem_cons_self))]
      rw [out vs hm, List.set_set]
/-- a target within a comprehension: it binds the comprehension's own names alone -/
def CT {ι : Type} (G : Gb) (rel : IRel ι) (vs : List Nat) (g : TG) (bind : ι → En → Option En) : Prop := ∀ (W : Wo) (H : Hp) (v : V) (z : ι) (σ : L2.St) (env env' : En) (Q : L2.St → Hp → Prop), rel W H v z → EnR G.K W σ env → bind z env = some env' →
  (∀ σ', wipe σ' vs = wipe σ vs → EnR G.K W σ' env' → Q σ' H) → g v σ H Q
section
variable {ι : Type} {X : Cx} {G : Gb} {Wx : WX} {e elt iter tg : Expr} {es : List Expr} {pos : Pos} {ma me : ME PV} {mt : ME Bool} {ms : ME (List PV)} {rel : IRel ι} {vs : List Nat}
def bN1 (i : Nat) : PV → En → Option En := fun z env => some (env.set i (some z))
theorem ct_name {i : Nat} (hi : i ∈ vs := by decide) : CT G (relA G) vs (gName i) (bN1 i) := fun W H v z σ env env' Q r en eb k => by
  cases eb
  exact k _ (wipe_set hi) (en.set r)
def bPr (i j : Nat) : PV × PV → En → Option En := fun z env => some ((env.set i (some z.1)).set j (some z.2))
/-- within a comprehension nothing is raised -/
def noEx {α : Type} : ER α → ER α
  | .ex _ _ => .err
  | r => r
open Classical in
noncomputable def lcI {ι : Type} (C : Sto → Prop) (bind : ι → En → Option En) (t : ME Bool) (e : ME PV) (env0 : En) : List ι → List PV → Sto → ER (List PV)
  | [], acc, S => if C S then .ok acc S else .err
  | x :: xs, acc, S => if C S then (match bind x env0 with
    | none => .err
    | some env1 => (noEx (t env1 S)).bind fun b S => if b = true then (noEx (e env1 S)).bind fun y S => if acc.length < 100000 then lcI C bind t e env0 xs (acc ++ [y]) S else .err else lcI C bind t e env0 xs acc S) else .err
noncomputable def nLc {ι : Type} (m : ME (Src ι)) (bind : ι → En → Option En) (t : ME Bool) (e : ME PV) (vs : List Nat) : ME (List PV) := fun env S => (m env S).bind fun p S => lcI p.1 bind t e (wipeP env vs) p.2 [] S
abbrev W0 : WX := fun _ _ _ _ => False
def yesT : ME Bool := fun _ S => .ok true S
theorem pts_of {ifs : List Expr} {t u : TT} (h : PTs X ifs t) (k : ∀ σ H Q, u σ H Q → t σ H Q) : PTs X ifs u := ⟨fun pins s σ H Q I q => h.run pins s σ H Q I (k σ H Q q)⟩
theorem vts_nil : PTs X [] (tT G W0 yesT) := pts_of pts_nil fun σ H Q ⟨W, S, env, w, en, k⟩ => k W H true (.refl W) w rfl
theorem vts_one {c : Expr} (h : PT X c (tT G W0 mt)) : PTs X [c] (tT G W0 mt) := pts_one h
/-- what is true of the things' places while another's thing stands by -/
theorem lw_D {rel' : IRel ι} {W1 : Wo} {J : It} {C : Sto → Prop} {xs : List ι} (lw : LW G rel W1 J C xs) (h : ∀ W H v z S, Wd G W S H → rel W H v z → rel' W H v z) : LW G rel' W1 J C xs :=
  ⟨lw.goes, lw.stops, fun i W S H x H' hi l w c y => by
    obtain ⟨W2, z, l2, w2, e, r⟩ := lw.yields i W S H x H' hi l w c y
    exact ⟨W2, z, l2, w2, e, h _ _ _ _ _ w2 r⟩⟩
theorem lc_in {g : TG} {C : Sto → Prop} {bind : ι → En → Option En} {rel' : IRel ι} {σ : L2.St} {env : En} {xs : List ι} {W1 : Wo} {S1 : Sto} {H1 : Hp} {J : It} {Q : VK} (ct : CT G rel' vs g bind) (lw : LW G rel' W1 J C xs) (w1 : Wd G W1 S1 H1) (en1 : EnR G.K W1 σ env) (k : kN G W1 Wx σ Q (lcI C bind mt me (wipeP env vs) xs [] S1)) :
    tLc (fun _ H R => R J H) g (tT G W0 mt) (tE G W0 me) vs σ H1 Q := by
    intro D hD
    refine ⟨fun i m H => m = xs.length - i ∧ i ≤ xs.length ∧ ∃ W' S' acc us, W1.le W' ∧ Wd G W' S' (Pv.del H D) ∧ H D = some (.lst us) ∧ RVs G.K W' us acc ∧ kN G W' Wx σ Q (lcI C bind mt me (wipeP env vs) (xs.drop i) acc S'),
      ⟨_, rfl, Nat.zero_le _, W1, S1, [], [], .refl _, by rw [upd_del hD]; exact w1, upd_same, .nil, k⟩, fun i m H2 ⟨em, hi2, W2, S2, acc, us, l2, w2, hH2, ra, k2⟩ => ?_⟩
    subst em
    have w2' : Wd G W2 S2 H2 := w2.more del_sub
    by_cases hlt : i < xs.length
    · right
      rw [List.drop_eq_getElem_cons hlt] at k2
      unfold lcI at k2
      split at k2
      · rename_i c
        refine ⟨lw.goes i W2 S2 H2 hlt l2.x w2' c, fun H => i + 1 ≤ xs.length ∧ ∃ W' S' acc us, W1.le W' ∧ Wd G W' S' (Pv.del H D) ∧ H D = some (.lst us) ∧ RVs G.K W' us acc ∧ kN G W' Wx σ Q (lcI C bind mt me (wipeP env vs) (xs.drop (i + 1)) acc S'), fun H' q => ⟨xs.length - (i + 1), by omega, rfl, q.1, q.2⟩, fun x H' y => ?_⟩
        -- with the new list as another's thing
        have fw2 : W2.F D = none := none_of w2.frm del_same
        have wf := w2.addF hH2
        obtain ⟨W3, z, l3, w3, ez, rz⟩ := lw.yields i (W2.fr D (.lst us)) S2 H2 x H' hlt ⟨l2.d, l2.a⟩ wf c y
        rw [List.getElem?_eq_getElem hlt] at ez
        cases ez
        cases eb : bind xs[i] (wipeP env vs) with
        | none => rw [eb] at k2; exact k2.elim
        | some env3 =>
          rw [eb] at k2
          have enw : EnR G.K W3 (wipe σ vs) (wipeP env vs) := (Paired.mapP ((en1.mono l2).wipe vs) fun _ _ r x e => let ⟨v, e1, e2⟩ := r x e; ⟨v, e1, RV.monoX (W := W2) (W' := W3) ⟨l3.d, l3.a⟩ e2⟩)
          refine ct W3 H' x xs[i] (wipe σ vs) (wipeP env vs) env3 _ rz enw eb fun σ3 e3 en3 => ⟨?_, ?_⟩
          · rw [e3]
            clear e3 en3 enw
            -- wiped twice
            have tw : ∀ ws : List Nat, (∀ x ∈ ws, x ∈ vs) → wipe (wipe σ ws) vs = wipe σ vs := fun ws => by
              induction ws with
              | nil => intro _; rfl
              | cons x ws ih =>
                intro hx
                show wipe ((wipe σ ws).set x none) vs = _
                rw [wipe_set (hx x List.mem_cons_self), ih (fun y hy => hx y (List.mem_cons_of_mem _ hy))]
            exact tw vs fun x hx => hx
          · refine ⟨W3, S2, env3, w3, en3, ?_⟩
            -- the test
            have base : ∀ {W4 : Wo} {S4 : Sto} {H4 : Hp}, W3.le W4 → Wd G W4 S4 H4 → H4 D = some (.lst us) ∧ Wd G ⟨W4.D, W4.ad, W2.F⟩ S4 (Pv.del H4 D) ∧ W2.le ⟨W4.D, W4.ad, W2.F⟩ := fun {W4 S4 H4} l4 w4 => by
              have ef : W4.F = upd W2.F D (.lst us) := l4.f.trans l3.f
              obtain ⟨a1, a2⟩ := w4.subF ef fw2
              exact ⟨a1, a2, ⟨l3.d.trans l4.d, fun i x h => l4.a i x (l3.a i x h), rfl⟩⟩
            have k2 : kN G W2 Wx σ Q ((noEx (mt env3 S2)).bind fun b S => if b = true then (noEx (me env3 S)).bind fun y S => if acc.length < 100000 then lcI C bind mt me (wipeP env vs) (xs.drop (i + 1)) (acc ++ [y]) S else .err else lcI C bind mt me (wipeP env vs) (xs.drop (i + 1)) acc S) := k2
            revert k2
            cases mt env3 S2 with
            | ex x5 S5 => exact fun k => k.elim
            | err => exact fun k => k.elim
            | ok b S4 =>
              intro k4 W4 H4 b' l4 w4 eb4
              subst eb4
              obtain ⟨d4, v4, m4⟩ := base l4 w4
              cases b' with
              | false => exact iteF (A := tE G W0 me σ3 H4 fun y H5 => ∃ acc, H5 D = some (.lst acc) ∧ acc.length < sizeLine ∧ _) ⟨hlt, _, S4, acc, us, l2.trans m4, v4, d4, ra.mono m4, kN.mono k4 m4⟩
              | true =>
                have k4 : kN G W2 Wx σ Q ((noEx (me env3 S4)).bind fun y S => if acc.length < 100000 then lcI C bind mt me (wipeP env vs) (xs.drop (i + 1)) (acc ++ [y]) S else .err) := k4
                refine iteT (B := _ ∧ _) ⟨W4, S4, env3, w4, en3.mono l4, ?_⟩
                revert k4
                cases me env3 S4 with
                | ex x5 S5 => exact fun k => k.elim
                | err => exact fun k => k.elim
                | ok yv S5 =>
                  intro k5 W5 H5 y' l5 w5 r5
                  obtain ⟨d5, v5, m5⟩ := base (l4.trans l5) w5
                  have k5 : kN G W2 Wx σ Q (if acc.length < 100000 then lcI C bind mt me (wipeP env vs) (xs.drop (i + 1)) (acc ++ [yv]) S5 else .err) := k5
                  split at k5
                  · rename_i hl
                    exact ⟨us, d5, by rw [ra.length]; exact line_lt (by omega), hlt, ⟨W5.D, W5.ad, W2.F⟩, S5, acc ++ [yv], us ++ [y'], l2.trans m5, by rw [del_put]; exact v5, upd_same, (ra.mono m5).snoc (RV.monoX (W := W5) (W' := ⟨W5.D, W5.ad, W2.F⟩) ⟨Same.refl W5.D, fun _ _ h => h⟩ r5), kN.mono k5 m5⟩
                  · exact k5.elim
      · exact k2.elim
    · left
      have e : i = xs.length := by omega
      subst e
      rw [List.drop_length] at k2
      unfold lcI at k2
      split at k2
      · rename_i c
        refine ⟨lw.stops W2 S2 H2 l2.x w2' c, ?_⟩
        have z := k2 W2 (Pv.del H2 D) D us (.refl _) w2 del_same ra
        rw [del_upd hH2] at z
        exact z
      · exact k2.elim
theorem lc_n {g : TG} {m : ME (Src ι)} {bind : ι → En → Option En} {rel' : IRel ι} {σ : L2.St} {H : Hp} {Q : VK} (ct : CT G rel' vs g bind) (hr : ∀ W H v z S, Wd G W S H → rel W H v z → rel' W H v z) (h : tN G Wx (nLc m bind mt me vs) σ H Q) :
    tLc (iA G rel Wx m) g (tT G W0 mt) (tE G W0 me) vs σ H Q := by
  obtain ⟨W, S, env, w, en, k⟩ := h
  refine ⟨W, S, env, w, en, ?_⟩
  unfold nLc at k
  revert k
  cases m env S with
  | ex x S1 => exact fun k => k
  | err => exact fun k => k
  | ok p S1 =>
    exact fun k W1 H1 J l1 w1 lw0 => lc_in ct (lw_D lw0 hr) w1 (en.mono l1) (kN.mono k l1)
theorem vn_lc {scope : Scope} {own : List (Str × Nat)} {g : TG} {m : ME (Src ι)} {bind : ι → En → Option En} {rel' : IRel ι} (hc : X.calm = true) (hN : X.N.Nodup) (hi : PI X tg iter (iA G rel Wx m)) {ifs : List Expr} (ok : BlkOk X.N X.env.scope scope own)
    (hg : ∀ (s : Shared) (H : Hp) (C : Addr) (cl : List (Str × Addr)) (fp : List Addr), PG (X.blk s H scope (compEnvC scope cl C X.env) fp) tg g) (ht : ∀ (s : Shared) (H : Hp) (C : Addr) (cl : List (Str × Addr)) (fp : List Addr), PTs (X.blk s H scope (compEnvC scope cl C X.env) fp) ifs (tT G W0 mt))
    (he : ∀ (s : Shared) (H : Hp) (C : Addr) (cl : List (Str × Addr)) (fp : List Addr), PE (X.blk s H scope (compEnvC scope cl C X.env) fp) elt (tE G W0 me)) (ct : CT G rel' (own.map (·.2)) g bind) (hr : ∀ W H v z S, Wd G W S H → rel W H v z → rel' W H v z) (hs : ∀ x, foldedSetIterable iter X.env x = pure x := by intro _; rfl) :
    PE X (.ListComp elt [⟨tg, iter, ifs, 0⟩] scope pos) (tN G Wx (nLc m bind mt me (own.map (·.2)))) := by
  exact pe_of (pe_lc hc hN hi ok hg ht he hs) fun σ H Q h => lc_n ct hr h
end
end Pv

/-! Calls of built-ins. -/
namespace Pv
open PySem PySem.Spec PyProof.Rows L2 Tc
section
variable {X : Cx} {G : Gb} {Wx : WX} {e : Expr} {es : List Expr} {pos p : Pos} {ma : ME PV} {ms : ME (List PV)} {x : Str} {id T : String}
/-- a call's reading by a function of the arguments -/
def cP (G : Gb) (f : Sto → List PV → Option PV) : List V → Hp → VK → Prop := fun vs H Q => ∃ W S xs p, Wd G W S H ∧ RVs G.K W vs xs ∧ f S xs = some p ∧ ∀ W' H' v, W.le W' → Wd G W' S H' → RV G.K W' v p → Q v H'
/-- .. that gives a new list; a new dict -/
def nP (G : Gb) (f : Sto → List PV → Option (List PV)) : List V → Hp → VK → Prop := fun vs H Q => ∃ W S xs ys, Wd G W S H ∧ RVs G.K W vs xs ∧ f S xs = some ys ∧ ∀ W' H' p us, W.le W' → Wd G W' S H' → H' p = none → RVs G.K W' us ys → Q (.ref p) (upd H' p (.lst us))
def dP (G : Gb) (f : Sto → List PV → Option (List (Key × PV))) : List V → Hp → VK → Prop := fun vs H Q => ∃ W S xs ys, Wd G W S H ∧ RVs G.K W vs xs ∧ f S xs = some ys ∧ ∀ W' H' p us, W.le W' → Wd G W' S H' → H' p = none → KVr G.K W' us ys → Q (.ref p) (upd H' p (.dK us))
def eCB (f : Sto → List PV → Option PV) (m : ME (List PV)) : ME PV := fun env S => (m env S).bind fun xs S => optR (f S xs) S
def nCB (f : Sto → List PV → Option (List PV)) (m : ME (List PV)) : ME (List PV) := fun env S => (m env S).bind fun xs S => optR (f S xs) S
def eDB (f : Sto → List PV → Option (List (Key × PV))) (m : ME (List PV)) : ME PV := fun env S => (m env S).bind fun xs S => (optR (f S xs) S).bind fun kvs S => .ok (.ref S.length) (S ++ [.dic kvs])
theorem cb_e {f : Sto → List PV → Option PV} {σ : L2.St} {H : Hp} {Q : VK} (h : tE G Wx (eCB f ms) σ H Q) : tCB (cP G f) (tA G Wx ms) σ H Q := by
  obtain ⟨W, S, env, w, en, k⟩ := h
  refine ⟨W, S, env, w, en, kR_bind k fun xs S1 W1 H1 v l1 w1 r1 k1 => ?_⟩
  obtain ⟨p, e, q⟩ := kR_opt k1
  exact ⟨W1, S1, xs, p, w1, r1, e, q⟩
theorem cb_n {f : Sto → List PV → Option (List PV)} {σ : L2.St} {H : Hp} {Q : VK} (h : tN G Wx (nCB f ms) σ H Q) : tCB (nP G f) (tA G Wx ms) σ H Q := by
  obtain ⟨W, S, env, w, en, k⟩ := h
  refine ⟨W, S, env, w, en, kN_bind k fun xs S1 W1 H1 v l1 w1 r1 k1 => ?_⟩
  cases ef : f S1 xs with
  | none => rw [ef] at k1; exact k1.elim
  | some ys => rw [ef] at k1; exact ⟨W1, S1, xs, ys, w1, r1, ef, k1⟩
/-- a new dict of the store -/
theorem Wd.newD {W : Wo} {S : Sto} {H : Hp} {p : Addr} {us : List (Key × V)} {kvs : List (Key × PV)} (w : Wd G W S H) (np : H p = none) (r : KVr G.K W us kvs) : ∃ W', W.le W' ∧ Wd G W' (S ++ [.dic kvs]) (upd H p (.dK us)) ∧ RV G.K W' (.ref p) (.ref S.length) := by
  have l := W.le_push p
  refine ⟨W.push p, l, w.push1 np (.dic (r.mono l)), .ref ?_⟩
  show (W.ad ++ [p])[S.length]? = some p
  rw [← w.len]
  exact push_last
theorem cb_d {f : Sto → List PV → Option (List (Key × PV))} {σ : L2.St} {H : Hp} {Q : VK} (h : tE G Wx (eDB f ms) σ H Q) : tCB (dP G f) (tA G Wx ms) σ H Q := by
  obtain ⟨W, S, env, w, en, k⟩ := h
  refine ⟨W, S, env, w, en, kR_bind k fun xs S1 W1 H1 v l1 w1 r1 k1 => ?_⟩
  cases ef : f S1 xs with
  | none => rw [ef] at k1; exact k1.elim
  | some ys =>
    rw [ef] at k1
    refine ⟨W1, S1, xs, ys, w1, r1, ef, fun W2 H2 p us l2 w2 np ru => ?_⟩
    obtain ⟨W3, l3, w3, r3⟩ := w2.newD np ru
    exact k1 W3 _ _ (l2.trans l3) w3 r3
theorem ve_callB {f : Sto → List PV → Option PV} (hc : CallR X (.builtin id) (cP G f)) (hg : Gl X x) (hm : X.mg x = none) (hv : bootBuiltins x = some (.builtin id)) (ha : PA X (e :: es) (tA G Wx ms)) (hn : x ≠ "__name__" := by decide) (hdb : (x == ("__debug__" : Str)) = false := by decide)
    (he : starEach (e :: es) X.env = (false, eval e X.env) :: starEach es X.env := by rfl) (hpl : (backTo pos (starEach es X.env)).any (·.1) = false := by rfl) : PE X (.Call (.Name x p) (e :: es) [] pos) (tE G Wx (eCB f ms)) := pe_of (pe_callB hc hg hm hv ha hn hdb he hpl) fun σ H Q h => cb_e h
theorem ve_callT {f : Sto → List PV → Option PV} (hc : CallR X (.type T) (cP G f)) (hg : Gl X x) (hm : X.mg x = none) (hv : bootBuiltins x = some (.type T)) (ha : PA X (e :: es) (tA G Wx ms)) (hn : x ≠ "__name__" := by decide) (hdb : (x == ("__debug__" : Str)) = false := by decide)
    (he : starEach (e :: es) X.env = (false, eval e X.env) :: starEach es X.env := by rfl) (hpl : (backTo pos (starEach es X.env)).any (·.1) = false := by rfl) : PE X (.Call (.Name x p) (e :: es) [] pos) (tE G Wx (eCB f ms)) := pe_of (pe_callTy hc hg hm hv ha hn hdb he hpl) fun σ H Q h => cb_e h
theorem vn_callB {f : Sto → List PV → Option (List PV)} (hc : CallR X (.builtin id) (nP G f)) (hg : Gl X x) (hm : X.mg x = none) (hv : bootBuiltins x = some (.builtin id)) (ha : PA X (e :: es) (tA G Wx ms)) (hn : x ≠ "__name__" := by decide) (hdb : (x == ("__debug__" : Str)) = false := by decide)
    (he : starEach (e :: es) X.env = (false, eval e X.env) :: starEach es X.env := by rfl) (hpl : (backTo pos (starEach es X.env)).any (·.1) = false := by rfl) : PE X (.Call (.Name x p) (e :: es) [] pos) (tN G Wx (nCB f ms)) := pe_of (pe_callB hc hg hm hv ha hn hdb he hpl) fun σ H Q h => cb_n h
theorem vn_callT {f : Sto → List PV → Option (List PV)} (hc : CallR X (.type T) (nP G f)) (hg : Gl X x) (hm : X.mg x = none) (hv : bootBuiltins x = some (.type T)) (ha : PA X (e :: es) (tA G Wx ms)) (hn : x ≠ "__name__" := by decide) (hdb : (x == ("__debug__" : Str)) = false := by decide)
    (he : starEach (e :: es) X.env = (false, eval e X.env) :: starEach es X.env := by rfl) (hpl : (backTo pos (starEach es X.env)).any (·.1) = false := by rfl) : PE X (.Call (.Name x p) (e :: es) [] pos) (tN G Wx (nCB f ms)) := pe_of (pe_callTy hc hg hm hv ha hn hdb he hpl) fun σ H Q h => cb_n h
theorem ve_callD {f : Sto → List PV → Option (List (Key × PV))} (hc : CallR X (.type T) (dP G f)) (hg : Gl X x) (hm : X.mg x = none) (hv : bootBuiltins x = some (.type T)) (ha : PA X (e :: es) (tA G Wx ms)) (hn : x ≠ "__name__" := by decide) (hdb : (x == ("__debug__" : Str)) = false := by decide)
    (he : starEach (e :: es) X.env = (false, eval e X.env) :: starEach es X.env := by rfl) (hpl : (backTo pos (starEach es X.env)).any (·.1) = false := by rfl) : PE X (.Call (.Name x p) (e :: es) [] pos) (tE G Wx (eDB f ms)) := pe_of (pe_callTy hc hg hm hv ha hn hdb he hpl) fun σ H Q h => cb_d h
/-! ### the built-ins -/
/-- of one argument; of two -/
def oneF {α : Type} (g : Sto → PV → Option α) : Sto → List PV → Option α := fun S xs => match xs with
  | [x] => g S x
  | _ => none
def twoF {α : Type} (g : Sto → PV → PV → Option α) : Sto → List PV → Option α := fun S xs => match xs with
  | [x, y] => g S x y
  | _ => none
theorem c_one {f : Value} {g : Sto → PV → Option PV} {r : List V → Hp → VK → Prop} (h : CallR X f r) (k : ∀ W S H v x p Q, Wd G W S H → RV G.K W v x → g S x = some p → (∀ W' H' v, W.le W' → Wd G W' S H' → RV G.K W' v p → Q v H') → r [v] H Q) : CallR X f (cP G (oneF g)) :=
  call_of h fun vs H Q ⟨W, S, xs, p, w, r, e, q⟩ => by
    unfold oneF at e
    split at e
    · obtain ⟨y, rfl, r1⟩ := r.one
      exact k W S H y _ p Q w r1 e q
    · cases e
theorem n_one {f : Value} {g : Sto → PV → Option (List PV)} {r : List V → Hp → VK → Prop} (h : CallR X f r) (k : ∀ W S H v x ys Q, Wd G W S H → RV G.K W v x → g S x = some ys → (∀ W' H' p us, W.le W' → Wd G W' S H' → H' p = none → RVs G.K W' us ys → Q (.ref p) (upd H' p (.lst us))) → r [v] H Q) : CallR X f (nP G (oneF g)) :=
  call_of h fun vs H Q ⟨W, S, xs, p, w, r, e, q⟩ => by
    unfold oneF at e
    split at e
    · obtain ⟨y, rfl, r1⟩ := r.one
      exact k W S H y _ p Q w r1 e q
    · cases e
theorem d_one {f : Value} {g : Sto → PV → Option (List (Key × PV))} {r : List V → Hp → VK → Prop} (h : CallR X f r) (k : ∀ W S H v x ys Q, Wd G W S H → RV G.K W v x → g S x = some ys → (∀ W' H' p us, W.le W' → Wd G W' S H' → H' p = none → KVr G.K W' us ys → Q (.ref p) (upd H' p (.dK us))) → r [v] H Q) : CallR X f (dP G (oneF g)) :=
  call_of h fun vs H Q ⟨W, S, xs, p, w, r, e, q⟩ => by
    unfold oneF at e
    split at e
    · obtain ⟨y, rfl, r1⟩ := r.one
      exact k W S H y _ p Q w r1 e q
    · cases e
theorem c_two {f : Value} {g : Sto → PV → PV → Option PV} {r : List V → Hp → VK → Prop} (h : CallR X f r) (k : ∀ W S H v u x y p Q, Wd G W S H → RV G.K W v x → RV G.K W u y → g S x y = some p → (∀ W' H' v, W.le W' → Wd G W' S H' → RV G.K W' v p → Q v H') → r [v, u] H Q) : CallR X f (cP G (twoF g)) :=
  call_of h fun vs H Q ⟨W, S, xs, p, w, r, e, q⟩ => by
    unfold twoF at e
    split at e
    · obtain ⟨y1, y2, rfl, r1, r2⟩ := r.two
      exact k W S H y1 y2 _ _ p Q w r1 r2 e q
    · cases e
def sizeS (S : Sto) (x : PV) : Option PV := match seqS S x with
  | some ys => some (.int (ys.length : Nat))
  | none => (dicS S x).map fun kvs => .int (kvs.length : Nat)
def lenG (S : Sto) (x : PV) : Option PV := match x with
  | .str z => if z.length ≤ 100000 then some (.int (z.length : Nat)) else none
  | x => sizeS S x
theorem kvr_len {K : PySem.W.Frag} {W : Wo} {a : List (Key × V)} {b : List (Key × PV)} (h : KVr K W a b) : a.length = b.length := Paired.length h
theorem vc_len (hk : X.K = G.K := by rfl) : CallR X (.builtin "len") (cP G (oneF lenG)) := by
  have big := call_or (call_lenG (X := X)) call_lenD
  rw [hk] at big
  have sz : ∀ (W : Wo) (S : Sto) (H : Hp) (v : V) (x p : PV) (Q : VK), Wd G W S H → RV G.K W v x → sizeS S x = some p → (∀ W' H' v, W.le W' → Wd G W' S H' → RV G.K W' v p → Q v H') → rLenG G.K [v] H Q ∨ ∃ a kvs, [v] = [V.ref a] ∧ H a = some (.dK kvs) ∧ Q (.int kvs.length) H := fun W S H v x p Q w r e q => by
    unfold sizeS at e
    cases hs : seqS S x with
    | some ys =>
      rw [hs] at e
      cases e
      obtain ⟨a, vs, rfl, h, t⟩ := seqS_ok w r hs
      exact .inl ⟨vs, h, by rw [t.length]; exact q W H _ (.refl W) w (.int _)⟩
    | none =>
      rw [hs] at e
      cases hd : dicS S x with
      | none => rw [hd] at e; cases e
      | some kvs =>
        rw [hd] at e
        cases e
        obtain ⟨a, vs, rfl, h, t⟩ := dicS_ok w r hd
        exact .inr ⟨a, vs, rfl, h, by rw [kvr_len t]; exact q W H _ (.refl W) w (.int _)⟩
  refine c_one big fun W S H v x p Q w r e q => ?_
  cases x with
  | str z =>
    have e : (if z.length ≤ 100000 then some (PV.int (z.length : Nat)) else none) = some p := e
    split at e
    · cases e
      cases r
      exact .inl ⟨line_le (by assumption), q W H _ (.refl W) w (.int _)⟩
    · cases e
  | _ => exact sz W S H v _ p Q w r e q
def absG (_ : Sto) (x : PV) : Option PV := match x with
  | .int i => some (.int (if i < 0 then -i else i))
  | _ => none
theorem vc_abs : CallR X (.builtin "abs") (cP G (oneF absG)) := c_one call_absG fun W S H v x p Q w r e q => by
  cases r with
  | int i => cases e; exact q W H _ (.refl W) w (.int _)
  | _ => cases e
def intsP : List PV → Option (List Int) := mapO fun x => match x with
  | .int i => some i
  | _ => none
theorem intsP_ok {K : PySem.W.Frag} {W : Wo} : ∀ {vs : List V} {xs : List PV} {ns : List Int}, RVs K W vs xs → intsP xs = some ns → vs = ns.map V.int ∧ xs = ns.map PV.int
  | _, _, _, .nil, e => by cases e; exact ⟨rfl, rfl⟩
  | _, _, ns, .cons (x := x) (xs := xs) h t, e => by
    unfold intsP mapO at e
    cases x with
    | int i =>
      cases e2 : intsP xs with
      | none => rw [show mapO (fun x => match x with | PV.int i => some i | _ => none) xs = none from e2] at e; cases e
      | some ms =>
        rw [show mapO (fun x => match x with | PV.int i => some i | _ => none) xs = some ms from e2] at e
        cases e
        obtain ⟨a, b⟩ := intsP_ok t e2
        cases h
        exact ⟨by rw [a]; rfl, by rw [b]; rfl⟩
    | _ => cases e
theorem mapO_map {α β γ : Type} {f : β → Option γ} {g : α → β} {h : α → γ} : ∀ {l : List α}, (∀ x ∈ l, f (g x) = some (h x)) → mapO f (l.map g) = some (l.map h)
  | [], _ => rfl
  | x :: l, e => by
    rw [List.map_cons, mapO, e x List.mem_cons_self, mapO_map fun y hy => e y (List.mem_cons_of_mem _ hy)]
    rfl
theorem intsP_map (ns : List Int) : intsP (ns.map PV.int) = some ns := by
  have := mapO_map (f := fun x : PV => match x with | .int i => some i | _ => none) (g := PV.int) (h := fun i => i) (l := ns) fun _ _ => rfl
  rw [List.map_id'] at this
  exact this
def min2 (_ : Sto) (x y : PV) : Option PV := match x, y with
  | .int i, .int j => some (.int (if j < i then j else i))
  | _, _ => none
theorem vc_min2 (hc : X.calm = true) : CallR X (.builtin "min") (cP G (twoF min2)) := c_two (call_min2G hc) fun W S H v u x y p Q w r1 r2 e q => by
  unfold min2 at e
  split at e
  · cases e; cases r1; cases r2
    exact q W H _ (.refl W) w (.int _)
  · cases e
def max2 (_ : Sto) (x y : PV) : Option PV := match x, y with
  | .int i, .int j => some (.int (if j > i then j else i))
  | _, _ => none
/-! isinstance of a built-in class -/
/-! all, any -/
/-! int, bool, str, tuple, list -/
def tupG (S : Sto) (x : PV) : Option PV := match x with
  | .tup ys => some (.tup ys)
  | x => (lsqS S x).map .tup
theorem vc_tup (hk : X.K = G.K := by rfl) : CallR X (.type "tuple") (cP G (oneF tupG)) := by
  have big := call_or (call_tupleF (X := X)) call_tupleT
  rw [hk] at big
  have ls : ∀ (W : Wo) (S : Sto) (H : Hp) (v : V) (x p : PV) (Q : VK), Wd G W S H → RV G.K W v x → (lsqS S x).map PV.tup = some p → (∀ W' H' v, W.le W' → Wd G W' S H' → RV G.K W' v p → Q v H') → rTupleF G.K [v] H Q ∨ ∃ a ys, [v] = [V.ref a] ∧ SqT G.K H a ys ∧ Q (.ref a) H := fun W S H v x p Q w r e q => by
    cases hs : lsqS S x with
    | none => rw [hs] at e; cases e
    | some ys =>
      rw [hs] at e
      cases e
      obtain ⟨a, vs, rfl, h, t⟩ := lsqS_ok w r hs
      refine .inl ⟨vs, h, fun l o np c d => ?_⟩
      obtain ⟨W2, l2, w2, r2⟩ := w.tup np c d t
      exact q W2 _ _ l2 w2 r2
  refine c_one big fun W S H v x p Q w r e q => ?_
  cases x with
  | tup ys =>
    cases e
    obtain ⟨a, vs, rfl, h, t⟩ := tup_ok w r
    exact .inr ⟨a, vs, rfl, h.sqT, q W H _ (.refl W) w r⟩
  | _ => exact ls W S H v _ p Q w r e q
def kP : Key → PV
  | .inl i => .int i
  | .inr s => .str s
theorem kP_r {K : PySem.W.Frag} {W : Wo} (k : Key) : RV K W (kV k) (kP k) := by cases k with
  | inl i => exact .int i
  | inr s => exact .str s
theorem keys_r {K : PySem.W.Frag} {W : Wo} : ∀ {vs : List (Key × V)} {xs : List (Key × PV)}, KVr K W vs xs → RVs K W (vs.map fun kv => kV kv.1) (xs.map fun kv => kP kv.1)
  | _, _, .nil => .nil
  | _, _, .cons (a := p) (b := q) h t => .cons (by show RV K W (kV p.1) (kP q.1); rw [h.1]; exact kP_r _) (keys_r t)
def lstG (S : Sto) (x : PV) : Option (List PV) := match seqS S x with
  | some ys => some ys
  | none => (dicS S x).map fun kvs => kvs.map fun kv => kP kv.1
theorem vc_list (hc : X.calm = true) (hk : X.K = G.K := by rfl) : CallR X (.type "list") (nP G (oneF lstG)) := by
  have big := call_or (call_listG (X := X)) (call_listD hc)
  rw [hk] at big
  refine n_one big fun W S H v x ys Q w r e q => ?_
  unfold lstG at e
  cases hs : seqS S x with
  | some zs =>
    rw [hs] at e
    cases e
    obtain ⟨a, vs, rfl, h, t⟩ := seqS_ok w r hs
    exact .inl ⟨vs, h, fun l np => q W H l vs (.refl W) w np t⟩
  | none =>
    rw [hs] at e
    cases hd : dicS S x with
    | none => rw [hd] at e; cases e
    | some kvs =>
      rw [hd] at e
      cases e
      obtain ⟨a, vs, rfl, h, t⟩ := dicS_ok w r hd
      exact .inr ⟨a, vs, rfl, .inl h, fun l np => q W H l _ (.refl W) w np (keys_r t)⟩
end
end Pv

/-! Sorting; dicts; changes of lists and dicts; methods of built-in kinds. -/
namespace Pv
open PySem PySem.Spec PyProof.Rows L2 Tc
section
variable {X : Cx} {G : Gb} {Wx : WX} {e e2 o a b : Expr} {es : List Expr} {pos p : Pos} {ma mb mo mk md : ME PV} {ms : ME (List PV)} {x : Str} {id T : String}
/-! ### sorted -/
theorem sort_all {l ys : List Int} (hp : ys.Perm l) (hs : ys.Pairwise (· ≤ ·)) : ys = sortI l := by
  have p2 : (sortI l).Perm l := List.mergeSort_perm _ _
  have s2 : (sortI l).Pairwise (· ≤ ·) := by
    have := List.pairwise_mergeSort (le := fun a b : Int => decide (a ≤ b)) (fun a b c h1 h2 => by simp at *; omega) (fun a b => by simp; omega) l
    exact this.imp fun h => by simpa using h
  exact (hp.trans p2.symm).eq_of_pairwise (fun a b _ _ h1 h2 => Int.le_antisymm h1 h2) hs s2
theorem call_sortedDA (hcalm : X.calm = true) : CallR X (.builtin "sorted") (fun xs H Q => ∃ (a : Addr) (kvs : List (Key × V)) (ks : List Int), xs = [.ref a] ∧ Rd H a (.dK kvs) ∧ kvs.map (·.1) = ks.map Sum.inl ∧
    ∀ (ys : List Int) (p : Addr), ys.Perm ks → ys.Pairwise (· ≤ ·) → H p = none → Q (.ref p) (upd H p (.lst (ys.map V.int)))) := by
  intro pins s σ H xs us Q I r q
  obtain ⟨a, kvs, ks, ex, hd, hks, q⟩ := q
  subst ex
  obtain ⟨u, eu, rx⟩ := vals1 r
  subst eu
  cases rx
  obtain ⟨z, lo, vs, rel, dd⟩ := dk_rd I.hok hd
  obtain ⟨ep, hat⟩ := dd.dictAt
  have hkeys : vs.map (·.1) = ks.map Sum.inl := rel.keys.symm.trans hks
  have hl : vs.length = ks.length := by
    have e := congrArg List.length hkeys
    rw [List.length_map, List.length_map] at e
    exact e
  have h16 : vs.length ≤ sizeLine := by rw [← rel.length]; exact z
  refine Calls.call_function_entry PyProof.Rows.kind_sorted PyProof.Rows.plain_sorted PyProof.Rows.entry_sorted (PyProof.Rows.args_sorted1 _) ?_
  unfold Builtin.«sorted»
  refine wpAny_bind (m := checkCount "sorted" 1 1 _) (wpAny_pure ?_)
  refine wpAny_bind (PySem.W.kdu_collect (A := X.A.in1) (PySem.W.kdl_dict (knd := mixKind X.prog X.w) (kvs := vs) (ep := ep) lo) (I.ok.hd hcalm) hat h16 fun h' tk acc hk hacc => ?_)
  have hal : acc.toList.length = ks.length := by rw [Array.length_toList, hacc.1, hl]
  have hS : IntsAre acc.toList ks := ints_each hal fun j v e => by
    obtain ⟨k, x, e1, e2⟩ := hacc.2 j v (by rw [← Array.getElem?_toList]; exact e)
    have e3 : (vs.map (·.1))[j]? = some k := by rw [List.getElem?_map, e1]; rfl
    rw [hkeys, List.getElem?_map] at e3
    cases e4 : ks[j]? with
    | none => rw [e4] at e3; cases e3
    | some y =>
      rw [e4] at e3
      have e5 : Sum.inl y = k := Option.some.inj e3
      subst e5
      rcases keyIs_shape (show keyIs (Sum.inl y) v = true from e2) with ⟨i, t, ek, ev⟩ | ⟨z, t, ek, ev⟩
      · cases ek
        exact ⟨y, t, rfl, ev⟩
      · cases ek
  have hz : acc.toList.length ≤ sizeLine := by rw [hal, ← hl]; exact h16
  have I1 : Inv X pins σ H { s with heap := h', toks := tk } := I.kept hk
  refine wpAny_bind (wpAny_newList ?_ hz)
  have hoL : (h'.push (seqObj "list" acc.toList.toArray 0)).get? h'.objs.size = some (seqObj "list" acc.toList.toArray 0) := Heap.get?_push_size _ rfl
  show wpAny _ _ _ _ _ { s with heap := h'.push (seqObj "list" acc.toList.toArray 0), toks := tk }
  refine wpAny_bind (wpAny_holding (wpAny_call_entry PyProof.Rows.slot_list_sort ⟨_, hoL, rfl⟩ PyProof.Rows.entry_list_sort
    (SrtO.list_sort_ord (s := { s with heap := h'.push (seqObj "list" acc.toList.toArray 0), toks := tk }) SrtO.swo_int hoL hz (fun h2 => SrtO.ints_sortable hS h2) fun out h1 h2 => ⟨_, rfl, ?_⟩) (PyProof.Rows.args_list_sort _)))
  obtain ⟨g1, g2, g3⟩ := SrtO.ints_out hS h1 h2
  obtain ⟨e', he'⟩ := PyProof.Rows.sortedHeap_at (vs := acc.toList) (out := out.toArray) hoL
  have hlen : ((out.map SrtO.iv).map V.int).length ≤ sizeLine := by
    rw [List.length_map, g2.length_eq, ← hal]
    exact hz
  refine wpAny_pure ⟨_, rfl, .ref h'.objs.size, upd H h'.objs.size (.lst ((out.map SrtO.iv).map V.int)), I1.laid (t' := tk) (fun b u e => ?_) (Nat.le_refl _)
    (show ObjOk X.prog X.w _ _ _ (.lst ((out.map SrtO.iv).map V.int)) from ⟨hlen, out, e', vals_of_ints g1, he'⟩), rfl, q _ _ g2 g3 (I1.hok.fresh (Nat.le_refl _))⟩
  have hb : b < h'.objs.size := Heap.lt_size e
  rw [PyProof.Rows.sortedHeap_old (Nat.ne_of_lt hb) (by rw [size_push']; exact Nat.lt_succ_of_lt hb)]
  exact Heap.get?_push_of_some _ e
def keyI (kv : Key × PV) : Option Int := match kv.1 with
  | .inl i => some i
  | _ => none
theorem keysI_ok {K : PySem.W.Frag} {W : Wo} : ∀ {vs : List (Key × V)} {xs : List (Key × PV)} {ns : List Int}, KVr K W vs xs → mapO keyI xs = some ns → vs.map (·.1) = ns.map Sum.inl
  | _, _, _, .nil, e => by cases e; rfl
  | _, _, _, .cons (a := p) (b := q) (l₂ := xs) h t, e => by
    unfold mapO at e
    cases e1 : keyI q with
    | none => rw [e1] at e; cases e
    | some i =>
      cases e2 : mapO keyI xs with
      | none => rw [e1, e2] at e; cases e
      | some is =>
        rw [e1, e2] at e
        cases e
        have ih := keysI_ok t e2
        rw [List.map_cons, List.map_cons, ih, h.1]
        unfold keyI at e1
        split at e1
        · rename_i i' hq
          cases e1
          rw [hq]
        · cases e1
theorem rvs_ints {K : PySem.W.Frag} {W : Wo} : ∀ ns : List Int, RVs K W (ns.map V.int) (ns.map PV.int)
  | [] => .nil
  | n :: ns => .cons (.int n) (rvs_ints ns)
def sortG (S : Sto) (x : PV) : Option (List PV) := match (lsqS S x).bind intsP with
  | some ns => some ((sortI ns).map .int)
  | none => ((dicS S x).bind (mapO keyI)).map fun ns => (sortI ns).map .int
theorem vc_sorted (hc : X.calm = true) (hk : X.K = G.K := by rfl) : CallR X (.builtin "sorted") (nP G (oneF sortG)) := by
  have big := call_or (cr_sortedI (X := X)) (call_sortedDA hc)
  rw [hk] at big
  refine n_one big fun W S H v x ys Q w r e q => ?_
  unfold sortG at e
  cases hb : (lsqS S x).bind intsP with
  | some ns =>
    rw [hb] at e
    cases e
    cases hs : lsqS S x with
    | none => rw [hs] at hb; cases hb
    | some zs =>
      rw [hs] at hb
      obtain ⟨a, vs, rfl, h, t⟩ := lsqS_ok w r hs
      obtain ⟨rfl, _⟩ := intsP_ok t hb
      refine .inl ⟨a, ns, rfl, h, fun ns' p hp hs' np => ?_⟩
      rw [sort_all hp hs']
      exact q W H p _ (.refl W) w np (rvs_ints _)
  | none =>
    rw [hb] at e
    cases hd : dicS S x with
    | none => rw [hd] at e; cases e
    | some kvs =>
      obtain ⟨a, vs, rfl, h, t⟩ := dicS_ok w r hd
      cases hk2 : mapO keyI kvs with
      | none => rw [hd, show (some kvs).bind (mapO keyI) = none from hk2] at e; cases e
      | some ns =>
        rw [hd, show (some kvs).bind (mapO keyI) = some ns from hk2] at e
        cases e
        refine .inr ⟨a, vs, ns, rfl, .inl h, keysI_ok t hk2, fun ns' p hp hs' np => ?_⟩
        rw [sort_all hp hs']
        exact q W H p _ (.refl W) w np (rvs_ints _)
/-- the ints of a list, each once, rising -/
def dedI : List Int → List Int
  | [] => []
  | x :: l => if x ∈ l then dedI l else x :: dedI l
theorem dedI_mem {k : Int} : ∀ {l : List Int}, k ∈ dedI l ↔ k ∈ l
  | [] => Iff.rfl
  | x :: l => by
    have ih := dedI_mem (k := k) (l := l)
    unfold dedI
    split
    · rename_i hx
      rw [ih, List.mem_cons]
      constructor
      · exact .inr
      · rintro (rfl | h)
        · exact hx
        · exact h
    · rw [List.mem_cons, List.mem_cons, ih]
theorem dedI_nd : ∀ {l : List Int}, (dedI l).Nodup
  | [] => List.nodup_nil
  | x :: l => by
    unfold dedI
    split
    · exact dedI_nd
    · rename_i hx
      exact List.nodup_cons.mpr ⟨fun z => hx (dedI_mem.mp z), dedI_nd⟩
def sortU (ns : List Int) : List Int := sortI (dedI ns)
theorem sortU_mem {ns : List Int} {k : Int} : k ∈ sortU ns ↔ k ∈ ns := by
  unfold sortU sortI
  rw [List.mem_mergeSort, dedI_mem]
theorem sortU_up {ns : List Int} : (sortU ns).Pairwise (· < ·) := by
  have nd : (sortU ns).Nodup := by
    have p : (sortU ns).Perm (dedI ns) := List.mergeSort_perm _ _
    exact p.nodup_iff.mpr dedI_nd
  have s2 : (sortU ns).Pairwise (· ≤ ·) := by
    have := List.pairwise_mergeSort (le := fun a b : Int => decide (a ≤ b)) (fun a b c h1 h2 => by simp at *; omega) (fun a b => by simp; omega) (dedI ns)
    exact this.imp fun h => by simpa using h
  exact strict_of nd s2
def nSortU (m : ME (List PV)) : ME (List PV) := fun env S => (m env S).bind fun xs S => match xs with
  | [x] => optR ((((lsqS S x).bind intsP).bind fun ns => if ns.length ≤ 4000 then some ns else none).map fun ns => (sortU ns).map .int) S
  | _ => .err
theorem vn_sortU {p2 pos2 : Pos} (hc : X.calm = true) (hg : Gl X "sorted") (hm : X.mg "sorted" = none) (hg2 : Gl X "set") (hm2 : X.mg "set" = none) (ha : PA X [e] (tA G Wx ms))
    (he1 : starEach [.Call (.Name "set" p2) [e] [] pos2] X.env = [(false, eval (.Call (.Name "set" p2) [e] [] pos2) X.env)] := by rfl) (he2 : starEach [e] X.env = [(false, eval e X.env)] := by rfl) (hk : X.K = G.K := by rfl) :
    PE X (.Call (.Name "sorted" p) [.Call (.Name "set" p2) [e] [] pos2] [] pos) (tN G Wx (nSortU ms)) := by
  have inner : PE X (.Call (.Name "set" p2) [e] [] pos2) _ := pe_callTy (call_setG hc) hg2 hm2 Tc.boot_set ha (he := by rw [he2]; rfl) (hpl := by rfl)
  have outer := pe_callB (p := p) (pos := pos) (call_sortSet hc) hg hm Tc.boot_sorted (pa_cons inner pa_nil (hs := by rw [he1]; rfl)) (he := by rw [he1]; rfl) (hpl := by rfl)
  rw [hk] at outer
  refine pe_of outer fun σ H Q ⟨W, S, env, w, en, k⟩ => ⟨W, S, env, w, en, kN_bind k fun xs S1 W1 H1 v l1 w1 r1 k1 => ?_⟩
  split at k1
  · obtain ⟨y, rfl, r⟩ := r1.one
    rename_i x
    cases hs : lsqS S1 x with
    | none => rw [hs] at k1; exact k1.elim
    | some zs =>
      obtain ⟨a, vs, rfl, h, t⟩ := lsqS_ok w1 r hs
      cases hi : intsP zs with
      | none => rw [hs, show (some zs).bind intsP = none from hi] at k1; exact k1.elim
      | some ns =>
        rw [hs, show (some zs).bind intsP = some ns from hi] at k1
        obtain ⟨rfl, _⟩ := intsP_ok t hi
        by_cases hl : ns.length ≤ 4000
        · rw [show (some ns).bind (fun ns => if ns.length ≤ 4000 then some ns else none) = some ns by show (if _ then _ else _) = _; rw [if_pos hl]] at k1
          refine ⟨a, ns, rfl, h, hl, fun p c hc' np => ⟨p, _, c, rfl, upd_same, fun ks q up mem len nq => ?_⟩⟩
          have e : ks = sortU ns := rising_one up sortU_up fun k => by rw [mem, sortU_mem]; simp
          subst e
          obtain ⟨w2, l2⟩ := w1.data (o := SetO X.w p (fun j => decide (j ∈ ns)) c) np
          exact k1 _ _ q _ l2 w2 nq (rvs_ints _)
        · rw [show (some ns).bind (fun ns => if ns.length ≤ 4000 then some ns else none) = none by show (if _ then _ else _) = _; rw [if_neg hl]] at k1
          exact k1.elim
  · exact k1.elim
/-! ### dicts made -/
theorem put_r {K : PySem.W.Frag} {W : Wo} {k : Key} {v : V} {x : PV} {vs : List (Key × V)} {xs : List (Key × PV)} (h : KVr K W vs xs) (r : RV K W v x) : KVr K W (putK vs k v) (putKp xs k x) := by
  have ha : (vs.any fun kv => decide (kv.1 = k)) = xs.any fun kv => decide (kv.1 = k) := by
    induction h with
    | nil => rfl
    | cons h t ih => rw [List.any_cons, List.any_cons, ih, h.1]
  unfold putK putKp
  rw [ha]
  split
  · rename_i hc
    clear ha hc
    induction h with
    | nil => exact .nil
    | @cons p q _ _ h t ih =>
      refine .cons ?_ ih
      show (if p.1 = k then (p.1, v) else p).1 = (if q.1 = k then (q.1, x) else q).1 ∧ RV K W (if p.1 = k then (p.1, v) else p).2 (if q.1 = k then (q.1, x) else q).2
      rw [h.1]
      split
      · exact ⟨rfl, r⟩
      · exact h
  · rename_i hc
    clear ha hc
    induction h with
    | nil => exact .cons ⟨rfl, r⟩ .nil
    | cons h t ih => exact .cons h ih
theorem drop_r {K : PySem.W.Frag} {W : Wo} {k : Key} {vs : List (Key × V)} {xs : List (Key × PV)} (h : KVr K W vs xs) : KVr K W (dropK vs k) (dropKp xs k) := by
  unfold dropK dropKp
  induction h with
  | nil => exact .nil
  | @cons p q _ _ h t ih =>
    rw [List.filter_cons, List.filter_cons, h.1]
    split
    · exact .cons h ih
    · exact ih
def mergeP (kvs more : List (Key × PV)) : List (Key × PV) := more.foldl (fun acc kv => putKp acc kv.1 kv.2) kvs
theorem merge_r {K : PySem.W.Frag} {W : Wo} {vs2 : List (Key × V)} {xs2 : List (Key × PV)} (h2 : KVr K W vs2 xs2) : ∀ {vs : List (Key × V)} {xs : List (Key × PV)}, KVr K W vs xs → KVr K W (mergeK vs vs2) (mergeP xs xs2) := by
  induction h2 with
  | nil => intro vs xs h; exact h
  | @cons p q _ _ h t ih =>
    intro vs xs h0
    show KVr K W (mergeK (putK vs p.1 p.2) _) (mergeP (putKp xs q.1 q.2) _)
    rw [h.1]
    exact ih (put_r h0 h.2)
/-- a pair as key and worth -/
def pairP : PV → Option (Key × PV)
  | .tup [k, v] => (keyP k).map fun k => (k, v)
  | _ => none
theorem pairsP_ok {W : Wo} {S : Sto} {H : Hp} (w : Wd G W S H) : ∀ {vs : List V} {xs : List PV} {kvs : List (Key × PV)}, RVs G.K W vs xs → mapO pairP xs = some kvs →
    ∃ (ps : List Addr) (us : List (Key × V)), vs = ps.map V.ref ∧ Paired (fun p kv => SqT G.K H p [kV kv.1, kv.2]) ps us ∧ KVr G.K W us kvs
  | _, _, _, .nil, e => by cases e; exact ⟨[], [], rfl, .nil, .nil⟩
  | _, _, _, .cons (v := v) (x := x) (xs := xs) h t, e => by
    unfold mapO at e
    cases e1 : pairP x with
    | none => rw [e1] at e; cases e
    | some kv =>
      cases e2 : mapO pairP xs with
      | none => rw [e1, e2] at e; cases e
      | some kvs =>
        rw [e1, e2] at e
        cases e
        obtain ⟨ps, us, rfl, hp, hu⟩ := pairsP_ok w t e2
        unfold pairP at e1
        split at e1
        · rename_i k z
          cases ek : keyP k with
          | none => rw [ek] at e1; cases e1
          | some k' =>
            rw [ek] at e1
            cases e1
            obtain ⟨a, vs2, rfl, h2, t2⟩ := tup_ok w h
            obtain ⟨y1, y2, rfl, r1, r2⟩ := t2.two
            obtain rfl := keyP_ok r1 ek
            exact ⟨a :: ps, (k', y2) :: us, rfl, .cons h2.sqT hp, .cons ⟨rfl, r2⟩ hu⟩
        · cases e1
def rDictF (K : PySem.W.Frag) : List V → Hp → VK → Prop := fun xs H Q => match xs with
  | [.ref a] => ∃ (ps : List Addr) (kvs : List (Key × V)), TupD K H a (ps.map V.ref) ∧ Paired (fun p kv => SqT K H p [kV kv.1, kv.2]) ps kvs ∧ ∀ p, H p = none → Q (.ref p) (upd H p (.dK (mergeK [] kvs)))
  | _ => False
theorem call_dictF (hcalm : X.calm = true) : CallR X (.type "dict") (rDictF X.K) := by
  intro pins s σ H xs us Q I r q
  unfold rDictF at q
  split at q
  · rename_i a
    obtain ⟨ps, kvs, ht, hp, q⟩ := q
    obtain ⟨u, eu, rx⟩ := vals1 r
    subst eu
    cases rx
    obtain ⟨o, its, nT, ho, hcl, hdn, hdT, hz, rv⟩ : ∃ (o : Obj) (its : List Value) (n : Nat), s.heap.get? a = some o ∧ o.cls = .type "tuple" ∧ o.dict = none ∧ o.data = .seq its.toArray n ∧ (ps.map V.ref).length ≤ sizeLine ∧ Vals (ps.map V.ref) its := by
      rcases ht with ⟨o, ea, hcl, hdn⟩ | ⟨o, its, n, h1, h2, h3, h4, h5, h6⟩
      · have ob : ObjOk X.prog X.w H s.heap a (.frz o (.tup (ps.map V.ref))) := I.hok a _ ea
        obtain ⟨ho, hz, its, rv, oT, hoT, hcT, nT, hdT⟩ := ob
        have eo : o = oT := Option.some.inj (ho.symm.trans hoT)
        subst eo
        exact ⟨o, its, nT, ho, hcl, hdn, hdT, hz, rv⟩
      · refine ⟨o, its.toList, n, I.kIn a o h1, h2, h3, by rw [Array.toArray_toList]; exact h4, ?_, h6⟩
        rw [h6.length, Array.length_toList]
        exact h5
    have ei := refs_at rv
    subst ei
    rw [List.length_map] at hz
    obtain ⟨prs, us, rel, hl, hl2, hpr⟩ := pairs_of2 I hp
    have zl : (us.zip (prs.map (·.2))).length = ps.length := by rw [List.length_zip, List.length_map, hl, hl2, Nat.min_self]
    have PI : PairItems s.heap (ps.map Value.ref).toArray (fun j => ps.getD j 0) (us.zip (prs.map (·.2))) := by
      refine ⟨by rw [List.size_toArray, List.length_map, zl], fun j k v e => ?_⟩
      rw [List.getElem?_zip_eq_some, List.getElem?_map] at e
      obtain ⟨e1, e2⟩ := e
      cases eq : prs[j]? with
      | none => rw [eq] at e2; cases e2
      | some z =>
        rw [eq] at e2
        have e2 : z.2 = v := Option.some.inj e2
        subst e2
        obtain ⟨b, eb, ht, _⟩ := hpr j z k eq e1
        have eg : ps.getD j 0 = b := by rw [List.getD_eq_getElem?_getD, eb]; rfl
        have eg' : (fun j => ps.getD j 0) j = b := eg
        rw [eg']
        exact ⟨by rw [List.getElem?_toArray, List.getElem?_map, eb]; rfl, .inl ht⟩
    refine PySem.call_dict_pairs (knd := mixKind X.prog X.w) (kvs := prs) (PySem.PairArg.tuple a (ps.map Value.ref).toArray (fun j => ps.getD j 0) (us.zip (prs.map (·.2)))) (I.ok.hd hcalm) ⟨⟨o, nT, ho, hcl, hdn, hdT⟩, PI⟩ ⟨by rw [zl, hl], fun j key v e => ?_⟩ (by rw [zl]; exact hz) fun h' tk hd' k => ?_
    · have e : (us.zip (prs.map (·.2)))[j]? = some (key, v) := e
      rw [List.getElem?_zip_eq_some, List.getElem?_map] at e
      obtain ⟨e1, e2⟩ := e
      cases eq : prs[j]? with
      | none => rw [eq] at e2; cases e2
      | some z =>
        rw [eq] at e2
        have e2 : z.2 = v := Option.some.inj e2
        subst e2
        obtain ⟨b, eb, ht, hk⟩ := hpr j z key eq e1
        exact ⟨z.1, rfl, hk⟩
    · have hm : (s.heap.objs.size == sysModules) = false := beq_eq_false_iff_ne.mpr (Nat.ne_of_gt I.big)
      have hlen : (mergeK [] kvs).length ≤ sizeLine := by
        refine Nat.le_trans (length_mergeK kvs []) ?_
        rw [List.length_nil, Nat.zero_add, rel.length, hl]
        exact hz
      exact ⟨.ref s.heap.objs.size, upd H s.heap.objs.size (.dK (mergeK [] kvs)), I.laid (t' := tk) (fun b o' e => k b o' (by simp) e) (Nat.le_refl _) (show ObjOk X.prog X.w _ _ _ (.dK (mergeK [] kvs)) from ⟨hlen, hm, merged [] prs, KV.merge rel .nil, hd'⟩), rfl, q _ (I.hok.fresh (Nat.le_refl _))⟩
  · exact q.elim
def dictG (S : Sto) (x : PV) : Option (List (Key × PV)) := match x with
  | .tup xs => (mapO pairP xs).map (mergeP [])
  | x => dicS S x
theorem vc_dict (hc : X.calm = true) (hk : X.K = G.K := by rfl) : CallR X (.type "dict") (dP G (oneF dictG)) := by
  have big := call_or (call_dictF hc) call_dictD
  rw [hk] at big
  have ds : ∀ (W : Wo) (S : Sto) (H : Hp) (v : V) (x : PV) (ys : List (Key × PV)) (Q : VK), Wd G W S H → RV G.K W v x → dicS S x = some ys → (∀ W' H' p us, W.le W' → Wd G W' S H' → H' p = none → KVr G.K W' us ys → Q (.ref p) (upd H' p (.dK us))) → rDictF G.K [v] H Q ∨ ∃ (a : Addr) (kvs : List (Key × V)), [v] = [.ref a] ∧ Rd H a (.dK kvs) ∧ ∀ p, H p = none → Q (.ref p) (upd H p (.dK kvs)) := fun W S H v x ys Q w r e q => by
    obtain ⟨a, vs, rfl, h, t⟩ := dicS_ok w r e
    exact .inr ⟨a, vs, rfl, .inl h, fun p np => q W H p vs (.refl W) w np t⟩
  refine d_one big fun W S H v x ys Q w r e q => ?_
  cases x with
  | tup xs =>
    have e : (mapO pairP xs).map (mergeP []) = some ys := e
    cases e2 : mapO pairP xs with
    | none => rw [e2] at e; cases e
    | some kvs =>
      rw [e2] at e
      cases e
      obtain ⟨a, vs, rfl, h, t⟩ := tup_ok w r
      obtain ⟨ps, us, rfl, hp, hu⟩ := pairsP_ok w t e2
      exact .inl ⟨ps, us, h, hp, fun p np => q W H p _ (.refl W) w np (merge_r hu .nil)⟩
  | _ => exact ds W S H v _ ys Q w r e q
/-- {} -/
def eDNew : ME PV := fun _ S => .ok (.ref S.length) (S ++ [.dic []])
theorem ve_dnew (h : PE X e tDNewK) : PE X e (tE G Wx eDNew) := pe_of h fun σ H Q ⟨W, S, env, w, en, k⟩ => fun p np => by
  obtain ⟨W2, l2, w2, r2⟩ := w.newD (us := []) (kvs := []) np .nil
  exact k W2 _ _ l2 w2 r2
end
end Pv

/-! Changes of lists and dicts, their methods, texts' methods; calls of defs. -/
namespace Pv
open PySem PySem.Spec PyProof.Rows L2 Tc
section
variable {X : Cx} {G : Gb} {Wx : WX} {e e2 o a b : Expr} {es : List Expr} {pos p apos cpos : Pos} {ma mb mo mk md : ME PV} {ms : ME (List PV)} {x : Str} {id T : String}
/-! ### o[i] = v -/
def setS (S : Sto) (x y v : PV) : Option Sto := match x with
  | .ref i => match S[i]? with
    | some (.lst xs) => match y with
      | .int k => (ixN xs.length k).map fun j => S.set i (.lst (xs.set j v))
      | _ => none
    | some (.dic kvs) => (keyP y).bind fun k => if kvs.length < 100000 then some (S.set i (.dic (putKp kvs k v))) else none
    | _ => none
  | _ => none
def stP (G : Gb) : V → V → V → Hp → (Hp → Prop) → Prop := fun o i v H Q => ∃ W S x y z S', Wd G W S H ∧ RV G.K W o x ∧ RV G.K W i y ∧ RV G.K W v z ∧ setS S x y z = some S' ∧ ∀ H', Wd G W S' H' → Q H'
theorem vset (hu : X.A.units + 64 < cLine) : PSet X (stP G) := by
  intro pins s σ H o i v ov iv u Q I ro ri rv ⟨W, S, x, y, z, S', w, r1, r2, r3, e, q⟩
  unfold setS at e
  split at e
  · rename_i j
    obtain ⟨a, rfl, ha⟩ := ref_at r1
    split at e
    · rename_i xs hs
      split at e
      · rename_i k
        cases r2
        obtain ⟨vs, h1, t, ch⟩ := w.lst ha hs
        cases hj : ixN xs.length k with
        | none => rw [hj] at e; cases e
        | some j' =>
          rw [hj] at e
          cases e
          exact set_list pins s σ H _ _ v ov iv u Q I ro ri rv ⟨a, vs, k, j', rfl, rfl, h1, by rw [t.length]; exact hj, q _ (ch _ _ (t.set j' r3))⟩
      · cases e
    · rename_i kvs hs
      cases ek : keyP y with
      | none => rw [ek] at e; cases e
      | some k =>
        rw [ek] at e
        have e : (if kvs.length < 100000 then some (S.set j (.dic (putKp kvs k z))) else none) = some S' := e
        split at e
        · rename_i hl
          cases e
          obtain ⟨vs, h1, t, ch⟩ := w.dic ha hs
          obtain rfl := keyP_ok r2 ek
          cases ro
          exact d_setItem (by omega) I (DPut.k h1 (by rw [kvr_len t]; exact line_lt (by omega))) ri rv fun s' I' => ⟨_, I', q _ (ch _ _ (put_r t r3))⟩
        · cases e
    · cases e
  · cases e
def gIx (mo mi : ME PV) : MG := fun v env S => match mo env S with
  | .ok x S => match mi env S with
    | .ok y S => (setS S x y v).map fun S => (env, S)
    | _ => none
  | _ => none
theorem vg_ix {mi : ME PV} {i : Expr} (hu : X.A.units + 64 < cLine) (ho : PE X o (tE G Wx mo)) (hi : PE X i (tE G Wx mi))
    (ha : ∀ v, assign (.Subscript o i pos) X.env v = (do
      let ov ← holding [v] (eval o X.env)
      let iv ← holding [v, ov] (eval i X.env)
      standAt pos
      holding [v, ov, iv] (setItem ov iv v)
      release [v, ov, iv] []) := by intro _; rfl) : PG X (.Subscript o i pos) (gP G (gIx mo mi)) :=
  pg_of (pg_sub ho hi (vset hu) ha) fun v σ H Q ⟨W, S, env, z, env', S', w, en, r, eq, k⟩ => by
    refine ⟨W, S, env, w, en, ?_⟩
    unfold gIx at eq
    revert eq
    cases mo env S with
    | ok x S1 =>
      intro eq W1 H1 vo l1 w1 r1
      refine ⟨W1, S1, env, w1, en.mono l1, ?_⟩
      revert eq
      show (match mi env S1 with | .ok y S => (setS S x y z).map fun S => (env, S) | _ => none) = some (env', S') → _
      cases mi env S1 with
      | ok y S2 =>
        intro eq W2 H2 vi l2 w2 r2
        cases es : setS S2 x y z with
        | none => rw [show (match ER.ok y S2 with | .ok y S => (setS S x y z).map fun S => (env, S) | _ => none) = (setS S2 x y z).map fun S => (env, S) from rfl, es] at eq; cases eq
        | some S3 =>
          rw [show (match ER.ok y S2 with | .ok y S => (setS S x y z).map fun S => (env, S) | _ => none) = (setS S2 x y z).map fun S => (env, S) from rfl, es] at eq
          cases eq
          exact ⟨W2, S2, x, y, z, S', w2, r1.mono l2, r2, (r.mono l1).mono l2, es, fun H3 w3 => k W2 σ H3 (l1.trans l2) w3 ((en.mono l1).mono l2)⟩
      | ex x2 S2 => exact fun eq => by cases eq
      | err => exact fun eq => by cases eq
    | ex x2 S2 => exact fun eq => by cases eq
    | err => exact fun eq => by cases eq
/-! ### methods of lists -/
/-- a method of a list of the store -/
def mL (f : List PV → List PV → Option (PV × List PV)) (mo : ME PV) (ms : ME (List PV)) : ME PV := fun env S => (mo env S).bind fun x S => match lsqS S x with
  | none => .err
  | some _ => (ms env S).bind fun ys S => match x with
    | .ref i => match S[i]? with
      | some (.lst xs) => match f xs ys with
        | some (v, xs') => .ok v (S.set i (.lst xs'))
        | none => .err
      | _ => .err
    | _ => .err
def rL (G : Gb) (f : List PV → List PV → Option (PV × List PV)) : V → List V → Hp → VK → Prop := fun x vs H Q => ∃ (a : Addr) (W : Wo) (us : List V) (xs ys : List PV) (v : PV) (xs' : List PV), x = .ref a ∧ H a = some (.lst us) ∧ RVs G.K W us xs ∧ RVs G.K W vs ys ∧ f xs ys = some (v, xs') ∧
  ∀ v' us', RV G.K W v' v → RVs G.K W us' xs' → Q v' (upd H a (.lst us'))
theorem ve_mL {f : List PV → List PV → Option (PV × List PV)} {t : TE} (h : PE X e t) (hk : X.K = G.K := by rfl) (ht : t = tBM X.K "list" (rL G f) (tE G Wx mo) (tA G Wx ms) := by rfl) : PE X e (tE G Wx (mL f mo ms)) := by
  subst ht
  rw [hk] at h
  refine pe_of h fun σ H Q ⟨W, S, env, w, en, k⟩ => ⟨W, S, env, w, en, kR_bind k fun x S1 W1 H1 vx l1 w1 r1 k1 => ?_⟩
  cases hs : lsqS S1 x with
  | none => rw [hs] at k1; exact k1.elim
  | some zs =>
    rw [hs] at k1
    obtain ⟨a, vs, rfl, h, t⟩ := lsqS_ok w1 r1 hs
    refine ⟨.inl ⟨rfl, vs, h⟩, W1, S1, env, w1, en.mono l1, kR_bind k1 fun ys S2 W2 H2 vs2 l2 w2 r2 k2 => ?_⟩
    split at k2
    · rename_i i
      split at k2
      · rename_i xs hx
        split at k2
        · rename_i v xs' hf
          obtain ⟨a', ea, ha⟩ := ref_at (r1.mono l2)
          cases ea
          obtain ⟨us, h1, t1, ch⟩ := w2.lst ha hx
          exact ⟨a, W2, us, xs, ys, v, xs', rfl, h1, t1, r2, hf, fun v' us' rv rus => k2 W2 _ _ (.refl _) (ch _ _ rus) rv⟩
        · exact k2.elim
      · exact k2.elim
    · exact k2.elim
theorem m_of {id : String} {r u : V → List V → Hp → VK → Prop} (h : MtM X id r) (k : ∀ x vs H Q, u x vs H Q → r x vs H Q) : MtR X id u := fun pins s σ H x xs v us Q I rx rs q => h pins s σ H x xs v us Q I rx rs (k _ _ _ _ q)
def apF (xs ys : List PV) : Option (PV × List PV) := match ys with
  | [y] => if xs.length < 100000 then some (.non, xs ++ [y]) else none
  | _ => none
theorem vm_append : MtR X "list.append" (rL G apF) := m_of mt_append fun x vs H Q ⟨a, W, us, xs, ys, v, xs', ex, h1, t1, t2, e, q⟩ => by
  unfold apF at e
  split at e
  · split at e
    · cases e
      obtain ⟨y, rfl, r⟩ := t2.one
      exact ⟨a, us, y, ex, rfl, h1, by rw [t1.length]; exact line_lt (by omega), q _ _ .non (t1.snoc r)⟩
    · cases e
  · cases e
def popAtF (xs ys : List PV) : Option (PV × List PV) := match ys with
  | [.int i] => if -1000000 ≤ i ∧ i ≤ 1000000 then (match seqIndex? i xs.length with
    | some k => (xs[k]?).map fun y => (y, xs.eraseIdx k)
    | none => none) else none
  | _ => none
theorem rvs_erase {K : PySem.W.Frag} {W : Wo} : ∀ {vs : List V} {xs : List PV} (k : Nat), RVs K W vs xs → RVs K W (vs.eraseIdx k) (xs.eraseIdx k)
  | _, _, _, .nil => .nil
  | _, _, 0, .cons h t => t
  | _, _, k + 1, .cons h t => .cons h (rvs_erase k t)
theorem vm_popAt : MtR X "list.pop" (rL G popAtF) := m_of mt_popAt fun x vs H Q ⟨a, W, us, xs, ys, v, xs', ex, h1, t1, t2, e, q⟩ => by
  unfold popAtF at e
  split at e
  · rename_i i
    split at e
    · split at e
      · rename_i k hk
        cases hx : xs[k]? with
        | none => rw [hx] at e; cases e
        | some y =>
          rw [hx] at e
          cases e
          obtain ⟨y1, rfl, r⟩ := t2.one
          cases r
          obtain ⟨z, e1, r⟩ := t1.get' hx
          exact ⟨a, us, i, k, z, ex, rfl, h1, by omega, by omega, by rw [t1.length]; exact hk, e1, q _ _ r (rvs_erase k t1)⟩
      · cases e
    · cases e
  · cases e
def insF (xs ys : List PV) : Option (PV × List PV) := match ys with
  | [.int i, y] => if xs.length < 100000 ∧ 0 ≤ i ∧ i ≤ 1000000 then some (.non, xs.take i.toNat ++ [y] ++ xs.drop i.toNat) else none
  | _ => none
theorem mr_of {id : String} {r u : V → List V → Hp → VK → Prop} (h : MtR X id r) (k : ∀ x vs H Q, u x vs H Q → r x vs H Q) : MtR X id u := fun pins s σ H x xs v us Q I rx rs q => h pins s σ H x xs v us Q I rx rs (k _ _ _ _ q)
theorem vm_insert : MtR X "list.insert" (rL G insF) := mr_of mt_insert fun x vs H Q ⟨a, W, us, xs, ys, v, xs', ex, h1, t1, t2, e, q⟩ => by
  unfold insF at e
  split at e
  · split at e
    · rename_i h
      cases e
      obtain ⟨y1, y2, rfl, r1, r2⟩ := t2.two
      cases r1
      exact ⟨a, us, _, y2, ex, rfl, h1, by rw [t1.length]; exact line_lt (by omega), h.2.1, by omega, q _ _ .non (((t1.take _).snoc r2).append (t1.drop _))⟩
    · cases e
  · cases e
/-! ### methods of dicts -/
def eGet2 (mo mk md : ME PV) : ME PV := fun env S => (mo env S).bind fun x S => match dicS S x with
  | none => .err
  | some _ => (mk env S).bind fun y S => (md env S).bind fun z S => match dicS S x, keyP y with
    | some kvs, some k => .ok ((getK kvs k).getD z) S
    | _, _ => .err
def ePop2 (mo mk md : ME PV) : ME PV := fun env S => (mo env S).bind fun x S => match dicS S x with
  | none => .err
  | some _ => (mk env S).bind fun y S => (md env S).bind fun z S => match x with
    | .ref i => match S[i]?, keyP y with
      | some (.dic kvs), some k => match getK kvs k with
        | some v => .ok v (S.set i (.dic (dropKp kvs k)))
        | none => .ok z S
      | _, _ => .err
    | _ => .err
theorem ve_pop2 (ho : PE X o (tE G Wx mo)) (he : PE X e (tE G Wx mk)) (hf : PE X e2 (tE G Wx md)) (m : M2 X o "pop" apos e e2 cpos) : PE X (.Call (.Attribute o "pop" apos) [e, e2] [] cpos) (tE G Wx (ePop2 mo mk md)) :=
  pe_of (pe_dpop2 ho he hf m) fun σ H Q ⟨W, S, env, w, en, k⟩ => ⟨W, S, env, w, en, kR_bind k fun x S1 W1 H1 vx l1 w1 r1 k1 => by
    cases hs : dicS S1 x with
    | none => rw [hs] at k1; exact k1.elim
    | some zs =>
      rw [hs] at k1
      obtain ⟨a, vs, rfl, h, t⟩ := dicS_ok w1 r1 hs
      refine ⟨a, rfl, .inl ⟨vs, .inl h⟩, W1, S1, env, w1, en.mono l1, kR_bind k1 fun y S2 W2 H2 vy l2 w2 r2 k2 => ⟨W2, S2, env, w2, (en.mono l1).mono l2, kR_bind k2 fun z S3 W3 H3 vz l3 w3 r3 k3 => ?_⟩⟩
      split at k3
      · rename_i i
        split at k3
        · rename_i kvs k hd ek
          obtain ⟨a', ea, ha⟩ := ref_at ((r1.mono l2).mono l3)
          cases ea
          obtain ⟨us, h3, t3, ch⟩ := w3.dic ha hd
          obtain rfl := keyP_ok (r2.mono l3) ek
          rcases getK_r (k := k) t3 with ⟨e1, e2⟩ | ⟨v, x, e1, e2, r⟩
          · rw [e2] at k3
            exact ⟨us, k, h3, rfl, (fun v e => by rw [e1] at e; cases e), fun _ => k3 W3 H3 _ (.refl _) w3 r3⟩
          · rw [e2] at k3
            exact ⟨us, k, h3, rfl, (fun v' e => by rw [e1] at e; cases e; exact k3 W3 _ _ (.refl _) (ch _ _ (drop_r t3)) r), (fun e => by rw [e1] at e; cases e)⟩
        · exact k3.elim
      · exact k3.elim⟩
def ePop1 (mo mk : ME PV) : ME PV := fun env S => (mo env S).bind fun x S => match dicS S x with
  | none => .err
  | some _ => (mk env S).bind fun y S => match x with
    | .ref i => match S[i]?, keyP y with
      | some (.dic kvs), some k => match getK kvs k with
        | some v => .ok v (S.set i (.dic (dropKp kvs k)))
        | none => .err
      | _, _ => .err
    | _ => .err
/-! ### texts -/
/-! ### calls of defs -/
def eCall (n : Nat) (m : List PV → Sto → ER PV) (ms : ME (List PV)) : ME PV := fun env S => (ms env S).bind fun xs S => if xs.length = n then m xs S else .err
theorem ve_call {k : Nat} {f : Addr} {fd : FuncData} {ps : List Str} {n : Nat} {m : List PV → Sto → ER PV} (F : FnOk X.prog X.w X.K X.mg X.base (L2N.CX X.prog X.w) k f fd ps (spM G n m)) (hr : Room k X.A) (hg : Gl X x) (hm : X.mg x = some (.ref f)) (hk : PySem.W.keepIn X.K (.ref f) = true) (hb : Binds X.K fd ps []) (hx : ∀ σ, PassesAt (L2N.CX X.prog X.w) X σ (WE Wx σ))
    (ha : PA X (e :: es) (tA G Wx ms)) (hdb : (x == ("__debug__" : Str)) = false := by decide) (he : starEach (e :: es) X.env = (false, eval e X.env) :: starEach es X.env := by rfl) (hpl : (backTo pos (starEach es X.env)).any (·.1) = false := by rfl) :
    PE X (.Call (.Name x p) (e :: es) [] pos) (tE G Wx (eCall n m ms)) := pe_of (pe_callS F hr hg hm hk hb hx ha hdb he hpl) fun σ H Q ⟨W, S, env, w, en, k⟩ => ⟨W, S, env, w, en, kR_bind k fun xs S1 W1 H1 vs l1 w1 r1 k1 => by
    split at k1
    · exact ⟨W1, S1, xs, w1, r1, by assumption, k1⟩
    · exact k1.elim⟩
theorem passNo : Passes (L2N.CX X.prog X.w) X fun _ _ _ => False := fun _ _ _ _ _ _ _ z => by
  have ⟨_, _, _, _, _, _, _, _, _, _, _, _, h⟩ := z
  exact h.elim
/-- within a comprehension, where nothing is let out -/
theorem passN {σ : L2.St} : PassesAt (L2N.CX X.prog X.w) X σ (WE W0 σ) := fun pins H s e s' I c => passNo pins σ H s e s' I c
end
end Pv

/-! Star targets; what is never reached. -/
namespace Pv
open PySem PySem.Spec PyProof.Rows L2 Tc
section
variable {X : Cx} {G : Gb} {Wx : WX} {e : Expr} {es : List Expr} {pos : Pos} {st : Stmt}
/-- a statement that is never reached -/
def sNever : MS := fun _ _ => .err
theorem vs_never : PS X st (tS G Wx sNever) := ps_of ps_never fun D σ H ⟨W, S, env, w, en, k⟩ => k
/-- *xs, y = a tuple -/
def gSt (g : MGs) : MG := fun x env S => match x with
  | .tup ys => match ys.getLast? with
    | some y => if ys.length < 16384 then g [.fl ys.dropLast, y] env S else none
    | none => none
  | _ => none
end
end Pv

/-! At a def's end: what is no more reached is dropped, a list that is told becomes a thing that never changes. -/
namespace Pv
open PySem PySem.Spec PyProof.Rows L2 Tc
mutual
def LtP (n : Nat) : PV → Prop
  | .tup xs => LtPs n xs
  | .fl xs => LtPs n xs
  | .ro xs => LtPs n xs
  | .ref i => i < n
  | .non => True
  | .bl _ => True
  | .int _ => True
  | .str _ => True
  | .ty _ => True
def LtPs (n : Nat) : List PV → Prop
  | [] => True
  | x :: xs => LtP n x ∧ LtPs n xs
end
theorem ltPs_of {n : Nat} : ∀ {xs : List PV}, (∀ x ∈ xs, LtP n x) → LtPs n xs
  | [], _ => trivial
  | x :: xs, h => ⟨h x List.mem_cons_self, ltPs_of fun y hy => h y (List.mem_cons_of_mem _ hy)⟩
def LtO (n : Nat) : Ob → Prop
  | .lst xs => LtPs n xs
  | .dic kvs => ∀ p ∈ kvs, LtP n p.2
  | .ins _ fs => ∀ p ∈ fs, LtP n p.2
  | _ => True
def cutW (n : Nat) (W : Wo) : Wo := ⟨W.D, W.ad.take n, W.F⟩
section
variable {K : PySem.W.Frag} {G : Gb}
theorem get_cut {W : Wo} {n i : Nat} {a : Addr} (h : W.ad[i]? = some a) (l : i < n) : (cutW n W).ad[i]? = some a := by
  show (W.ad.take n)[i]? = _
  rw [List.getElem?_take, if_pos l, h]
mutual
theorem RV.cut {W : Wo} {n : Nat} : ∀ {v : V} {x : PV}, RV K W v x → LtP n x → RV K (cutW n W) v x
  | _, _, .non, _ => .non
  | _, _, .bl b, _ => .bl b
  | _, _, .int i, _ => .int i
  | _, _, .str x, _ => .str x
  | _, _, .tup h t, l => .tup h (RVs.cut t l)
  | _, _, .fl h t, l => .fl h (RVs.cut t l)
  | _, _, .ro h t, l => .ro h (RVs.cut t l)
  | _, _, .ref h, l => .ref (get_cut h l)
  | _, _, .ty n, _ => .ty n
theorem RVs.cut {W : Wo} {n : Nat} : ∀ {v : List V} {x : List PV}, RVs K W v x → LtPs n x → RVs K (cutW n W) v x
  | _, _, .nil, _ => .nil
  | _, _, .cons h t, l => .cons (RV.cut h l.1) (RVs.cut t l.2)
end
theorem paired_mem {α β : Type} {F F' : α → β → Prop} : ∀ {xs : List α} {ys : List β}, Paired F xs ys → (∀ a b, b ∈ ys → F a b → F' a b) → Paired F' xs ys
  | _, _, .nil, _ => .nil
  | _, _, .cons h t, k => .cons (k _ _ List.mem_cons_self h) (paired_mem t fun a b hb => k a b (List.mem_cons_of_mem _ hb))
theorem ObR.cut {W : Wo} {n : Nat} {a : Addr} {o : Ob} {h : Hp} (r : ObR G W a o h) (l : LtO n o) : ObR G (cutW n W) a o h := by
  cases r with
  | lst q => exact .lst (q.cut l)
  | dic q => exact .dic (paired_mem q fun a b hb z => ⟨z.1, z.2.cut (l b hb)⟩)
  | ins m q ne => exact .ins m (paired_mem q fun a b hb z => ⟨z.1, z.2.cut (l b hb)⟩) ne
  | gone => exact .gone
  | box q l1 l2 h0 hr dj al => exact .box q l1 l2 h0 hr dj al
theorem dj_take {hs : List Hp} {n : Nat} (d : Dj hs) : Dj (hs.take n) := fun i j h k x e1 e2 ne => by
  rw [List.getElem?_take] at e1 e2
  split at e1
  · split at e2
    · exact d i j h k x e1 e2 ne
    · cases e2
  · cases e1
theorem take_get {α : Type} {xs : List α} {n i : Nat} {x : α} (h : (xs.take n)[i]? = some x) : xs[i]? = some x ∧ i < n := by
  rw [List.getElem?_take] at h
  split at h
  · exact ⟨h, by assumption⟩
  · cases h
theorem wdH_cut {W : Wo} {S : Sto} {H : Hp} {hs : List Hp} {n : Nat} (w : WdH G W S H hs) (c : ∀ o ∈ S.take n, LtO n o) : WdH G (cutW n W) (S.take n) H (hs.take n) where
  len := by show (W.ad.take n).length = _; rw [List.length_take, List.length_take, w.len]
  hlen := by rw [List.length_take, List.length_take, w.hlen]
  dat := w.dat
  frm := w.frm
  offD := w.offD
  offF := fun i h x e => w.offF i h x (take_get e).1
  sub := fun i h e => w.sub i h (take_get e).1
  off := fun i h x e => w.off i h x (take_get e).1
  dj := dj_take w.dj
  rep := fun i o e => by
    obtain ⟨e1, l⟩ := take_get e
    obtain ⟨a, h, e2, e3, r⟩ := w.rep i o e1
    exact ⟨a, h, get_cut e2 l, by rw [List.getElem?_take, if_pos l, e3], r.cut (c o (List.mem_of_getElem? e))⟩
theorem Wd.cut {W : Wo} {S : Sto} {H : Hp} {n : Nat} (w : Wd G W S H) (c : ∀ o ∈ S.take n, LtO n o) : Wd G (cutW n W) (S.take n) H := let ⟨_, w⟩ := w; ⟨_, wdH_cut w c⟩
theorem le_cut {W W' : Wo} (l : W.le W') : W.le (cutW W.ad.length W') := ⟨l.d, fun i x h => get_cut (l.a i x h) (List.getElem?_eq_some_iff.mp h).1, l.f⟩
/-- a list beyond becomes a thing that never changes -/
theorem Wd.freeze {W : Wo} {S : Sto} {H : Hp} {n i : Nat} {xs : List PV} (w : Wd G W S H) (c : ∀ o ∈ S.take n, LtO n o) (e : S[i]? = some (.lst xs)) (hi : n ≤ i) (lx : LtPs n xs) :
    ∃ a vs, W.ad[i]? = some a ∧ Wd G ((cutW n W).dt a (.lst vs)) (S.take n) H ∧ (cutW n W).le ((cutW n W).dt a (.lst vs)) ∧ RV G.K ((cutW n W).dt a (.lst vs)) (.ref a) (.fl xs) := by
  obtain ⟨hs, w⟩ := w
  obtain ⟨a, h, e1, e2, r⟩ := w.rep i _ e
  cases r with
  | @lst _ _ vs _ q =>
    have na : W.D a = none := w.off i _ a e2 (by rw [one_same]; exact fun z => nomatch z)
    have sD : Same W.D (upd W.D a (.lst vs)) := same_upd na
    have le : (cutW n W).le ((cutW n W).dt a (.lst vs)) := ⟨sD, fun _ _ h => h, rfl⟩
    refine ⟨a, vs, e1, ⟨hs.take n, ?_⟩, le, .fl (by exact upd_same) ((q.cut lx).mono le)⟩
    have w2 := wdH_cut w c
    refine { len := w2.len, hlen := w2.hlen, dat := fun b o hb => ?_, frm := w2.frm, offD := fun x hx => ?_, offF := w2.offF, sub := w2.sub, off := fun j h x ej hx => ?_, dj := w2.dj, rep := fun j o ej => ?_ }
    · have hb : upd W.D a (.lst vs) b = some o := hb
      by_cases eb : b = a
      · subst eb
        rw [upd_same] at hb
        cases hb
        exact w.sub i _ e2 _ _ one_same
      · rw [upd_ne eb] at hb
        exact w.dat _ _ hb
    · show upd W.D a (.lst vs) x = none
      by_cases eb : x = a
      · subst eb
        exact absurd (w.offF i _ x e2 (by rw [one_same]; exact fun z => nomatch z)) hx
      · rw [upd_ne eb]
        exact w.offD x hx
    · show upd W.D a (.lst vs) x = none
      by_cases eb : x = a
      · subst eb
        obtain ⟨e3, lj⟩ := take_get ej
        have := w.dj i j _ _ x e2 e3 (by omega) (by rw [one_same]; exact fun z => nomatch z)
        exact absurd this hx
      · rw [upd_ne eb]
        exact w2.off j h x ej hx
    · obtain ⟨b, h, e3, e4, r⟩ := w2.rep j o ej
      exact ⟨b, h, e3, e4, r.mono le⟩
open Classical in
noncomputable def trimR (n : Nat) (r : ER PV) : ER PV := match r with
  | .ok v S => if ∀ o ∈ S.take n, LtO n o then (match v with
    | .ref i => if n ≤ i then (match S[i]? with
      | some (.lst xs) => if LtPs n xs then .ok (.fl xs) (S.take n) else .ok (.ref i) S
      | _ => .ok (.ref i) S) else .ok (.ref i) (S.take n)
    | v => if LtP n v then .ok v (S.take n) else .ok v S) else .ok v S
  | .ex e S => if LtP n e.v ∧ ∀ o ∈ S.take n, LtO n o then .ex e (S.take n) else .ex e S
  | .err => .err
open Classical in
theorem trim_ok {n : Nat} {v : PV} {S : Sto} (h : LtP n v) (c : ∀ o ∈ S.take n, LtO n o) : trimR n (.ok v S) = .ok v (S.take n) := by
  unfold trimR
  show (if ∀ o ∈ S.take n, LtO n o then _ else _) = _
  rw [if_pos c]
  cases v with
  | ref i =>
    have h : i < n := h
    show (if n ≤ i then _ else _) = _
    rw [if_neg (by omega)]
  | _ => exact if_pos h
open Classical in
theorem trim_fl {n i : Nat} {xs : List PV} {S : Sto} (e : S[i]? = some (.lst xs)) (hi : n ≤ i) (lx : LtPs n xs) (c : ∀ o ∈ S.take n, LtO n o) : trimR n (.ok (.ref i) S) = .ok (.fl xs) (S.take n) := by
  unfold trimR
  show (if ∀ o ∈ S.take n, LtO n o then _ else _) = _
  rw [if_pos c]
  show (if n ≤ i then _ else _) = _
  rw [if_pos hi, e]
  exact if_pos lx
open Classical in
theorem trim_cases (n : Nat) (v : PV) (S : Sto) : trimR n (.ok v S) = .ok v S ∨ (LtP n v ∧ (∀ o ∈ S.take n, LtO n o) ∧ trimR n (.ok v S) = .ok v (S.take n)) ∨
    ∃ i xs, v = .ref i ∧ S[i]? = some (.lst xs) ∧ n ≤ i ∧ LtPs n xs ∧ (∀ o ∈ S.take n, LtO n o) ∧ trimR n (.ok v S) = .ok (.fl xs) (S.take n) := by
  by_cases c : ∀ o ∈ S.take n, LtO n o
  · by_cases lv : LtP n v
    · exact .inr (.inl ⟨lv, c, trim_ok lv c⟩)
    · cases v with
      | ref i =>
        have hi : n ≤ i := Nat.le_of_not_lt lv
        cases e : S[i]? with
        | none =>
          left
          unfold trimR
          show (if ∀ o ∈ S.take n, LtO n o then _ else _) = _
          rw [if_pos c]
          show (if n ≤ i then _ else _) = _
          rw [if_pos hi, e]
        | some o =>
          cases o with
          | lst xs =>
            by_cases lx : LtPs n xs
            · exact .inr (.inr ⟨i, xs, rfl, e, hi, lx, c, trim_fl e hi lx c⟩)
            · left
              unfold trimR
              show (if ∀ o ∈ S.take n, LtO n o then _ else _) = _
              rw [if_pos c]
              show (if n ≤ i then _ else _) = _
              rw [if_pos hi, e]
              exact if_neg lx
          | _ =>
            left
            unfold trimR
            show (if ∀ o ∈ S.take n, LtO n o then _ else _) = _
            rw [if_pos c]
            show (if n ≤ i then _ else _) = _
            rw [if_pos hi, e]
      | _ =>
        left
        unfold trimR
        show (if ∀ o ∈ S.take n, LtO n o then _ else _) = _
        rw [if_pos c]
        exact if_neg lv
  · left
    unfold trimR
    exact if_neg c
open Classical in
theorem trim_casesE (n : Nat) (e : Ex) (S : Sto) : trimR n (.ex e S) = .ex e S ∨ (LtP n e.v ∧ (∀ o ∈ S.take n, LtO n o) ∧ trimR n (.ex e S) = .ex e (S.take n)) := by
  by_cases c : LtP n e.v ∧ ∀ o ∈ S.take n, LtO n o
  · exact .inr ⟨c.1, c.2, by unfold trimR; exact if_pos c⟩
  · exact .inl (by unfold trimR; exact if_neg c)
theorem trim_k {W : Wo} {S0 : Sto} {H0 : Hp} {Q : VK} {E : XK} {r : ER PV} (w0 : Wd G W S0 H0) (h : kR G (RV G.K) W Q E (trimR S0.length r)) : kR G (RV G.K) W Q E r := by
  have len := w0.len
  cases r with
  | err => exact h
  | ex e S =>
    rcases trim_casesE S0.length e S with q | ⟨c1, c2, q⟩
    · rw [q] at h; exact h
    · rw [q] at h
      intro W' H cls d l w r
      obtain ⟨a, h1, h2, h3, h4⟩ := r
      refine h (cutW S0.length W') H cls d (len ▸ le_cut l) (w.cut c2) ⟨a, h1, h2, fun n => ?_, h4⟩
      obtain ⟨dd, v, e1, e2, e3⟩ := h3 n
      exact ⟨dd, v, e1, e2, e3.cut c1⟩
  | ok v S =>
    rcases trim_cases S0.length v S with q | ⟨c1, c2, q⟩ | ⟨i, xs, rfl, ex, hi, lx, c, q⟩
    · rw [q] at h; exact h
    · rw [q] at h
      exact fun W' H u l w r => h (cutW S0.length W') H u (len ▸ le_cut l) (w.cut c2) (r.cut c1)
    · rw [q] at h
      intro W' H u l w r
      obtain ⟨a, vs, ea, w2, l2, r2⟩ := w.freeze c ex hi lx
      cases r with
      | ref er =>
        rw [ea] at er
        cases er
        exact h _ H _ ((len ▸ le_cut l).trans l2) w2 r2
noncomputable def runT (N : Nat) (b : MS) (xs : List PV) (S : Sto) : ER PV := trimR S.length (runB N b xs S)
theorem spT {n N : Nat} {b : MS} {vs : List V} {H : Hp} {Q : VK} {E : XK} (h : spM G n (runT N b) vs H Q E) : spM G n (runB N b) vs H Q E := by
  obtain ⟨W, S, xs, w, r, e, k⟩ := h
  exact ⟨W, S, xs, w, r, e, trim_k w k⟩
end
end Pv

/-! sorted(a tuple of ints). -/
namespace Pv
open PySem PySem.Spec PyProof.Rows L2 Tc
section
variable {X : Cx} {G : Gb}
theorem cr_sortT : CallR X (.builtin "sorted") (fun xs H Q => ∃ (a : Addr) (ns : List Int), xs = [.ref a] ∧ SqT X.K H a (ns.map V.int) ∧ ∀ (ys : List Int) (p : Addr), ys.Perm ns → ys.Pairwise (· ≤ ·) → H p = none → Q (.ref p) (upd H p (.lst (ys.map V.int)))) := by
  intro pins s σ H xs us Q I r ⟨a, ns, ex, hs, q⟩
  subst ex
  obtain ⟨u, eu, rx⟩ := vals1 r
  subst eu
  cases rx
  obtain ⟨its, rv, ⟨o, ho, hc, n, hd⟩, hz⟩ := I.tuple hs
  have hi : IntsAre its ns := rv.ints
  have hl : its.length ≤ sizeLine := by rw [← rv.length]; exact hz
  refine Calls.call_function_entry PyProof.Rows.kind_sorted PyProof.Rows.plain_sorted PyProof.Rows.entry_sorted (PyProof.Rows.args_sorted1 _) ?_
  unfold Builtin.«sorted»
  refine wpAny_bind (m := checkCount "sorted" 1 1 _) (wpAny_pure ?_)
  refine wpAny_bind (wpAny_collect_seq (A := X.A.in1) a (.inr rfl) ho hc hd (fun h1 k => ?_) (by rw [List.size_toArray]; exact hl))
  have J : Inv X pins σ H { s with heap := h1, toks := s.toks } := I.kept k
  show wpAny _ _ (newList its >>= _) _ _ _
  refine wpAny_bind (wpAny_newList ?_ hl)
  have hL : (h1.push (seqObj "list" its.toArray 0)).get? h1.objs.size = some (seqObj "list" its.toArray 0) := Heap.get?_push_size _ rfl
  show wpAny _ _ _ _ _ { s with heap := h1.push (seqObj "list" its.toArray 0) }
  refine wpAny_bind (wpAny_holding (wpAny_call_entry PyProof.Rows.slot_list_sort ⟨_, hL, rfl⟩ PyProof.Rows.entry_list_sort
    (SrtO.list_sort_ord (s := { s with heap := h1.push (seqObj "list" its.toArray 0) }) SrtO.swo_int hL hl (fun h2 => SrtO.ints_sortable hi h2) fun out e1 e2 => ⟨_, rfl, ?_⟩) (by rfl)))
  obtain ⟨g1, g2, g3⟩ := SrtO.ints_out hi e1 e2
  obtain ⟨e', he'⟩ := PyProof.Rows.sortedHeap_at (vs := its) (out := out.toArray) hL
  have hlen : ((out.map SrtO.iv).map V.int).length ≤ sizeLine := by
    rw [List.length_map, g2.length_eq, ← List.length_map (f := V.int)]
    exact hz
  refine wpAny_pure ⟨_, rfl, .ref h1.objs.size, upd H h1.objs.size (.lst ((out.map SrtO.iv).map V.int)), J.laid (t' := s.toks) (fun b u e => ?_) (Nat.le_refl _)
    (show ObjOk X.prog X.w _ _ _ (.lst ((out.map SrtO.iv).map V.int)) from ⟨hlen, out, e', vals_of_ints g1, he'⟩), rfl, q _ _ g2 g3 (J.hok.fresh (Nat.le_refl _))⟩
  have hb : b < h1.objs.size := Heap.lt_size e
  rw [PyProof.Rows.sortedHeap_old (Nat.ne_of_lt hb) (by rw [size_push']; exact Nat.lt_succ_of_lt hb)]
  exact Heap.get?_push_of_some _ e
def sortA (S : Sto) (x : PV) : Option (List PV) := match x with
  | .tup xs => (intsP xs).map fun ns => (sortI ns).map .int
  | x => sortG S x
theorem vc_sortA (hc : X.calm = true) (hk : X.K = G.K := by rfl) : CallR X (.builtin "sorted") (nP G (oneF sortA)) := by
  have big := call_or (cr_sortT (X := X)) (vc_sorted (G := G) hc hk)
  rw [hk] at big
  refine n_one big fun W S H v x ys Q w r e q => ?_
  unfold sortA at e
  split at e
  · rename_i zs
    cases r with
    | @tup a vs _ h t =>
      cases hi : intsP zs with
      | none => rw [hi] at e; cases e
      | some ns =>
        rw [hi] at e
        cases e
        obtain ⟨rfl, _⟩ := intsP_ok t hi
        refine .inl ⟨a, ns, rfl, same_tup w.dat h.sqT, fun ns' p hp hs' np => ?_⟩
        rw [sort_all hp hs']
        exact q W H p _ (.refl W) w np (rvs_ints _)
  · exact .inr ⟨W, S, [x], ys, w, .cons r .nil, e, q⟩
end
end Pv

/-! A dict made by a comprehension. -/
namespace Pv
open PySem PySem.Spec PyProof.Rows L2 Tc
section
variable {X : Cx} {G : Gb} {Wx : WX} {ι : Type} {rel : IRel ι} {kx vx tg iter : Expr} {pos : Pos} {mk me : ME PV} {mt : ME Bool} {vs : List Nat}
def dFin (r : ER (List (Key × PV))) : ER PV := r.bind fun kvs S => .ok (.ref S.length) (S ++ [.dic kvs])
end
end Pv

/-! Calls of defs with keywords. -/
namespace Pv
open PySem PySem.Spec PyProof.Rows L2 Tc
section
variable {X : Cx} {G : Gb} {Wx : WX} {e : Expr} {es : List Expr} {pos p kpos : Pos} {ma : ME PV} {ms mk : ME (List PV)} {x : Str} {kws : List Keyword} {nm : Option Str}
theorem pk_of {t u : TA} (h : PK X kws t) (k : ∀ σ H Q, u σ H Q → t σ H Q) : PK X kws u := ⟨fun pos pins s σ H Q I q => h.run pos pins s σ H Q I (k σ H Q q)⟩
theorem vk_nil : PK X [] (tA G Wx aNil) := pk_of pk_nil fun σ H Q ⟨W, S, env, w, en, k⟩ => k W H [] (.refl _) w .nil
theorem vk_cons (h : PE X e (tE G Wx ma)) (hr : PK X kws (tA G Wx ms)) : PK X (⟨nm, e, kpos⟩ :: kws) (tA G Wx (aCons ma ms)) := pk_of (pk_cons h hr) fun σ H Q ⟨W, S, env, w, en, k⟩ =>
  ⟨W, S, env, w, en, kR_bind k fun y S1 W1 H1 v l1 w1 r1 k1 => ⟨W1, S1, env, w1, en.mono l1, kR_bind k1 fun ys S2 W2 H2 vs l2 w2 r2 k2 => k2 W2 H2 (v :: vs) (.refl _) w2 (.cons (r1.mono l2) r2)⟩⟩
def eCallN (n k : Nat) (m : List PV → Sto → ER PV) (ms mk : ME (List PV)) : ME PV := fun env S => (ms env S).bind fun xs S => (mk env S).bind fun zs S => if xs.length = n ∧ zs.length = k then m (xs ++ zs) S else .err
end
end Pv

/-! dict(a list of pairs). -/
namespace Pv
open PySem PySem.Spec PyProof.Rows L2 Tc
section
variable {X : Cx} {G : Gb}
theorem cr_dictL (hcalm : X.calm = true) : CallR X (.type "dict") (fun xs H Q => ∃ (a : Addr) (ps : List Addr) (kvs : List (Key × V)), xs = [.ref a] ∧ H a = some (.lst (ps.map V.ref)) ∧ Paired (fun p kv => SqT X.K H p [kV kv.1, kv.2]) ps kvs ∧ ∀ p, H p = none → Q (.ref p) (upd H p (.dK (mergeK [] kvs)))) := by
  intro pins s σ H xs us Q I r ⟨a, ps, kvs, ex, ha, hp, q⟩
  subst ex
  obtain ⟨u, eu, rx⟩ := vals1 r
  subst eu
  cases rx
  have ob : ObjOk X.prog X.w H s.heap a (.lst (ps.map V.ref)) := I.hok a _ ha
  obtain ⟨hz, its, nT, rv, ho⟩ := ob
  have ei := refs_at rv
  subst ei
  rw [List.length_map] at hz
  obtain ⟨prs, us, rel, hl, hl2, hpr⟩ := pairs_of2 I hp
  have zl : (us.zip (prs.map (·.2))).length = ps.length := by rw [List.length_zip, List.length_map, hl, hl2, Nat.min_self]
  have split : ∀ (j : Nat) (k v : Value), (us.zip (prs.map (·.2)))[j]? = some (k, v) → ∃ z, prs[j]? = some z ∧ z.2 = v ∧ us[j]? = some k := fun j k v e => by
    rw [List.getElem?_zip_eq_some, List.getElem?_map] at e
    cases eq : prs[j]? with
    | none => rw [eq] at e; cases e.2
    | some z => rw [eq] at e; exact ⟨z, rfl, Option.some.inj e.2, e.1⟩
  have items : PairItems s.heap (ps.map Value.ref).toArray (fun j => ps.getD j 0) (us.zip (prs.map (·.2))) := by
    refine ⟨by rw [List.size_toArray, List.length_map, zl], fun j k v e => ?_⟩
    obtain ⟨z, eq, rfl, e1⟩ := split j k v e
    obtain ⟨b, eb, ht, _⟩ := hpr j z k eq e1
    have eg : (fun j => ps.getD j 0) j = b := by show ps.getD j 0 = b; rw [List.getD_eq_getElem?_getD, eb]; rfl
    rw [eg]
    exact ⟨by rw [List.getElem?_toArray, List.getElem?_map, eb]; rfl, .inl ht⟩
  refine PySem.call_dict_pairs (knd := mixKind X.prog X.w) (kvs := prs) (PySem.PairArg.list a (ps.map Value.ref).toArray (fun j => ps.getD j 0) (us.zip (prs.map (·.2)))) (I.ok.hd hcalm) ⟨⟨_, nT, ho, rfl, rfl, rfl⟩, items⟩ ⟨by rw [zl, hl], fun j key v e => ?_⟩ (by rw [zl]; exact hz) fun h' tk hd' k => ?_
  · obtain ⟨z, eq, rfl, e1⟩ := split j key v e
    obtain ⟨b, eb, ht, hk⟩ := hpr j z key eq e1
    exact ⟨z.1, eq, hk⟩
  · have hm : (s.heap.objs.size == sysModules) = false := beq_eq_false_iff_ne.mpr (Nat.ne_of_gt I.big)
    have hlen : (mergeK [] kvs).length ≤ sizeLine := by
      have := length_mergeK kvs []
      rw [List.length_nil, Nat.zero_add, rel.length, hl] at this
      exact Nat.le_trans this hz
    exact ⟨.ref s.heap.objs.size, upd H s.heap.objs.size (.dK (mergeK [] kvs)), I.laid (t' := tk) (fun b o' e => k b o' (by simp) e) (Nat.le_refl _) (show ObjOk X.prog X.w _ _ _ (.dK (mergeK [] kvs)) from ⟨hlen, hm, merged [] prs, KV.merge rel .nil, hd'⟩), rfl, q _ (I.hok.fresh (Nat.le_refl _))⟩
def dictA (S : Sto) (x : PV) : Option (List (Key × PV)) := match x with
  | .fl xs => (mapO pairP xs).map (mergeP [])
  | x => dictG S x
theorem vc_dictA (hc : X.calm = true) (hk : X.K = G.K := by rfl) : CallR X (.type "dict") (dP G (oneF dictA)) := by
  have big := call_or (cr_dictL (X := X) hc) (vc_dict (G := G) hc hk)
  rw [hk] at big
  refine d_one big fun W S H v x ys Q w r e q => ?_
  unfold dictA at e
  split at e
  · rename_i zs
    cases r with
    | @fl a vs _ h t =>
      cases e2 : mapO pairP zs with
      | none => rw [e2] at e; cases e
      | some kvs =>
        rw [e2] at e
        cases e
        obtain ⟨ps, us, rfl, hp, hu⟩ := pairsP_ok w t e2
        exact .inl ⟨a, ps, us, rfl, w.dat _ _ h, hp, fun p np => q W H p _ (.refl W) w np (merge_r hu .nil)⟩
  · exact .inr ⟨W, S, [x], ys, w, .cons r .nil, e, q⟩
end
end Pv

/-! Refusals that are made and raised. -/
namespace Pv
open PySem PySem.Spec PyProof.Rows L2 Tc
section
variable {X : Cx} {G : Gb} {Wx : WX} {e : Expr} {es : List Expr} {ta : TA} {ma : ME PV} {ms : ME (List PV)} {p pos : Pos}
/-- a refusal without a field -/
def eOwn (c : Str) : ME Ex := fun _ S => .ok ⟨c, "", .non⟩ S
/-- one with a field -/
def eOex (c f : Str) (m : ME PV) : ME Ex := fun env S => (m env S).bind fun x S => .ok ⟨c, f, x⟩ S
end
end Pv

/-! An exception's own __init__; try with a suite that looks at what was raised. -/
namespace Pv
open PySem PySem.Spec PyProof.Rows L2 Tc
end Pv

/-! try: body, except C as e: suite. -/
namespace Pv
open PySem PySem.Spec PyProof.Rows L2 Tc
/-- readings in such a suite: slot i holds the exception at a, of which ex is told -/
def Hx (G : Gb) (i : Nat) (a : Addr) (cls : Value) (d : Option Addr) (σ : L2.St) (W : Wo) (ex : Ex) : Prop := σ[i]? = some (some (.ref a)) ∧ ExR G W cls d ex
/-- a statement there: the slot stays -/
def kSh (G : Gb) (i : Nat) (a : Addr) (W : Wo) (D : Ends) : SR → Prop
  | .nx env S => ∀ W' σ H, W.le W' → Wd G W' S H → EnR G.K W' σ env → σ[i]? = some (some (.ref a)) → D.nx σ H
  | .rt v S => ∀ W' H u, W.le W' → Wd G W' S H → RV G.K W' u v → D.rt u H
  | _ => False
theorem kSh.mono {G : Gb} {i : Nat} {a : Addr} {W W' : Wo} {D : Ends} {r : SR} (h : kSh G i a W D r) (l : W.le W') : kSh G i a W' D r := by
  cases r with
  | nx env S => exact fun W2 σ H l2 => h W2 σ H (l.trans l2)
  | rt v S => exact fun W2 H u l2 => h W2 H u (l.trans l2)
  | _ => exact h
theorem Hx.mono {G : Gb} {i : Nat} {a : Addr} {cls : Value} {d : Option Addr} {σ : L2.St} {W W' : Wo} {ex : Ex} (h : Hx G i a cls d σ W ex) (l : W.le W') : Hx G i a cls d σ W' ex := ⟨h.1, h.2.mono l⟩
section
variable {X : Cx} {G : Gb} {i : Nat} {a : Addr} {cls : Value} {d : Option Addr} {e : Expr} {es : List Expr} {ma : Ex → ME PV} {ms : Ex → ME (List PV)} {pos : Pos} {st : Stmt} {mst mst2 : Ex → MS}
end
/-- a try: tab tells which classes are taken -/
def sTry (i : Nat) (tab : Str → Option Bool) (b : MS) (h : Ex → MS) : MS := fun env S => match b env S with
  | .ex e env S => match tab e.c, env[i]? with
    | some true, some _ => match h e (env.set i none) S with
      | .nx env S => .nx (env.set i none) S
      | .rt v S => .rt v S
      | _ => .err
    | some false, _ => .ex e env S
    | _, _ => .err
  | r => r
section
variable {X : Cx} {G : Gb} {Wx : WX} {x n : Str} {cv : Value} {i : Nat} {body suite : List Stmt} {b₀ : Stmt} {np pos pos' : Pos} {b : MS} {h : Ex → MS} {tab : Str → Option Bool}
end
end Pv

/-! A list comprehension over a range while an exception is handled. -/
namespace Pv
open PySem PySem.Spec PyProof.Rows L2 Tc
section
variable {X : Cx}
end
end Pv

/-! Defs that are handed the exception that is handled; isinstance of it, its field. -/
namespace Pv
open PySem PySem.Spec PyProof.Rows L2 Tc L2H
/-! ### such defs -/
structure FnE (P : Program) (w : World) (K : PySem.W.Frag) (mg : Str → Option Value) (base : Heap) (ct : CXT) (k : Nat) (f : Addr) (fd : FuncData) (ps : List Str) (sp : Addr × Obj → Sp) : Prop where
  len : ∀ p vs H Q E, sp p vs H Q E → vs.length = ps.length
  run : ∀ (A : Around) (outer : List Env) (s : Shared) (H : Hp) (args : Args) (us : List Value) (vs : List V) (Q : VK) (E : XK) (p : Addr × Obj), RoomH k A → Hot1 A p → PinOk outer H s p → Env0 P w K mg base A outer s H → BindsTo s fd args (ps.zip us) → Vals vs us → sp p vs H Q E →
    codeAny (model P w) A (.call (.ref f) args) (CR ct outer P w H s Q E) s
theorem FnE.mono {P : Program} {w : World} {K : PySem.W.Frag} {mg : Str → Option Value} {base : Heap} {ct : CXT} {j k : Nat} {f : Addr} {fd : FuncData} {ps : List Str} {sp : Addr × Obj → Sp} (F : FnE P w K mg base ct j f fd ps sp) (h : j ≤ k) : FnE P w K mg base ct k f fd ps sp :=
  ⟨F.len, fun A outer s H args us vs Q E p r => F.run A outer s H args us vs Q E p (r.mono h)⟩
/-! ### the mirror of one that is handed the exception alone -/
/-! ### isinstance, fields -/
structure ExcF (K : PySem.W.Frag) (C : Addr) : Prop where
  xf : XfC K C
  ha : PySem.W.findIn K (.ref C) "__class__" = some (some (.builtin "object.__class__"))
  hn : PySem.W.specialIn K (.builtin "object.__class__") "__get__" = some (some (.builtin "getset_descriptor.__get__"))
  ht : PySem.W.takesIn K (.builtin "object.__class__") = some true
  hm : PySem.W.mroIn K C (.type "object") = some true
section
variable {X : Cx} {p : Addr × Obj} {cls : Value} {d : Option Addr}
end
end Pv

/-! What is written of the classes of refusals, as a table; the readings of isinstance(e, C), e.f, f(e) by it. -/
namespace Pv
open PySem PySem.Spec PyProof.Rows L2 Tc L2H
structure KT (K : PySem.W.Frag) (mg : Str → Option Value) (rows : List KRow) (ds : List Value) : Prop where
  all : ∀ r ∈ rows, ∃ aC, mg r.c = some (.ref aC) ∧ ExcF K aC ∧ (r.f ≠ "" → PySem.W.findIn K (.ref aC) r.f = some none) ∧ ds.map (fun c => (PySem.W.kitOne K (.ref aC) c, PySem.W.exmOne K (.ref aC) c)) = r.bs.map fun b => (some b, some b)
def kget (rows : List KRow) (c : Str) : Option KRow := rows.find? fun r => decide (r.c = c)
def kis (rows : List KRow) (j : Nat) (c : Str) : Option Bool := (kget rows c).bind fun r => r.bs[j]?
def kany (rows : List KRow) (c : Str) : List Nat → Option Bool
  | [] => some false
  | j :: js => match kis rows j c with
    | some true => some true
    | some false => kany rows c js
    | none => none
section
variable {K : PySem.W.Frag} {mg : Str → Option Value} {rows : List KRow} {ds : List Value} {c : Str} {aC : Addr} {b : Bool}
theorem kget_mem {r : KRow} (h : kget rows c = some r) : r ∈ rows ∧ r.c = c := ⟨List.mem_of_find?_eq_some h, of_decide_eq_true (List.find?_some (p := fun r : KRow => decide (r.c = c)) h)⟩
theorem KT.row {r : KRow} (T : KT K mg rows ds) (h : kget rows c = some r) (hm : mg c = some (.ref aC)) : ExcF K aC ∧ (r.f ≠ "" → PySem.W.findIn K (.ref aC) r.f = some none) ∧ ds.map (fun c => (PySem.W.kitOne K (.ref aC) c, PySem.W.exmOne K (.ref aC) c)) = r.bs.map fun b => (some b, some b) := by
  have ⟨hr, e⟩ := kget_mem h
  have ⟨a, h1, h2⟩ := T.all r hr
  rw [e, hm] at h1
  cases h1
  exact h2
theorem KT.is {j : Nat} {cv : Value} (T : KT K mg rows ds) (h : kis rows j c = some b) (hj : ds[j]? = some cv) (hm : mg c = some (.ref aC)) : ExcF K aC ∧ PySem.W.kitOne K (.ref aC) cv = some b ∧ PySem.W.exmOne K (.ref aC) cv = some b := by
  unfold kis at h
  cases e : kget rows c with
  | none => rw [e] at h; cases h
  | some r =>
    rw [e] at h
    have h : r.bs[j]? = some b := h
    have ⟨h1, _, h3⟩ := T.row e hm
    have := congrArg (·[j]?) h3
    simp only [List.getElem?_map, hj, h, Option.map_some] at this
    have z := Prod.mk.inj (Option.some.inj this)
    exact ⟨h1, z.1, z.2⟩
theorem KT.any (T : KT K mg rows ds) (hm : mg c = some (.ref aC)) : ∀ {js : List Nat} {cvs : List Value} {b : Bool}, kany rows c js = some b → js.map (ds[·]?) = cvs.map some → PySem.W.kitAny K (.ref aC) cvs = some b
  | [], [], b, h, _ => h
  | [], _ :: _, _, _, e => by cases e
  | _ :: _, [], _, _, e => by cases e
  | j :: js, cv :: cvs, b, h, e => by
    have e1 : ds[j]? = some cv := (List.cons.inj e).1
    have e2 := (List.cons.inj e).2
    unfold kany at h
    unfold PySem.W.kitAny
    cases hk : kis rows j c with
    | none => rw [hk] at h; cases h
    | some x =>
      rw [hk] at h
      rw [(T.is hk e1 hm).2.1]
      cases x with
      | true => exact h
      | false => exact T.any hm (js := js) h e2
end
/-! ### readings -/
def eIs (rows : List KRow) (j : Nat) (ex : Ex) : ME PV := fun _ S => match kis rows j ex.c with
  | some b => .ok (.bl b) S
  | none => .err
def eIsT (rows : List KRow) (js : List Nat) (ex : Ex) : ME PV := fun _ S => match kany rows ex.c js with
  | some b => .ok (.bl b) S
  | none => .err
def eFld (rows : List KRow) (f : Str) (ex : Ex) : ME PV := fun _ S => match kget rows ex.c with
  | some r => if r.f = f ∧ ex.f = f ∧ f ≠ "" then .ok ex.v S else .err
  | none => .err
section
variable {X : Cx} {G : Gb} {i : Nat} {p : Addr × Obj} {cls : Value} {d : Option Addr} {rows : List KRow} {ds : List Value} {n : Str} {p1 p2 p3 pos : Pos} {e : Expr} {es : List Expr} {ma mb : Ex → ME PV} {ms : Ex → ME (List PV)}
/-! ### walks over a range there -/
end
theorem _root_.L2H.RoomH.units {k : Nat} {A : Around} (r : L2H.RoomH k A) : A.units + 64 < cLine := by have := r.un; omega
end Pv

/-! a, b = x, y while an exception is handled. -/
namespace PySem.PvHot
open PySem PySem.Spec PyProof.Rows HotX
section
variable {prog : Program} {w : World} {A : Around} {E : Value → Shared → Prop} {s : Shared}
end
end PySem.PvHot
namespace Pv
open PySem PySem.Spec PyProof.Rows L2 Tc L2H
section
variable {X : Cx}
end
end Pv

/-! What is wanted of a mirror's end: a form that simp works through. -/
namespace Pv
open PySem PySem.Spec PyProof.Rows L2 Tc
abbrev WXE := Ex → Sto → Prop
def wE0 {α : Type} (m : ER α) (Q : α → Sto → Prop) (X : WXE) : Prop := match m with
  | .ok a S => Q a S
  | .ex e S => X e S
  | .err => False
def wO {α : Type} (o : Option α) (Q : α → Prop) : Prop := match o with
  | some a => Q a
  | none => False
def wB (x : PV) (Q : Bool → Prop) : Prop := match x with
  | .bl b => Q b
  | _ => False
structure Po where
  N : En → Sto → Prop
  R : PV → Sto → Prop
  B : En → Sto → Prop
  C : En → Sto → Prop
  X : WXE
def wS0 (r : SR) (P : Po) : Prop := match r with
  | .nx env S => P.N env S
  | .rt v S => P.R v S
  | .bk env S => P.B env S
  | .ct env S => P.C env S
  | .ex e _ S => P.X e S
  | .err => False
def never : WXE := fun _ _ => False
section
variable {α β ι : Type} {Q : α → Sto → Prop} {X : WXE} {P : Po} {env : En} {S : Sto} {a b c : ME PV} {ms : ME (List PV)} {t u : ME Bool} {s1 s2 : MS} {x y z : PV} {i j n : Nat}
theorem w_ok0 {v : α} : wE0 (.ok v S) Q X = Q v S := rfl
theorem w_err0 : wE0 .err Q X = False := rfl
theorem w_bind0 {m : ER β} {f : β → Sto → ER α} : wE0 (m.bind f) Q X = wE0 m (fun b S => wE0 (f b S) Q X) X := by cases m <;> rfl
theorem o_some {v : α} {Q : α → Prop} : wO (some v) Q = Q v := rfl
theorem o_none {Q : α → Prop} : wO none Q = False := rfl
theorem o_map {o : Option β} {f : β → α} {Q : α → Prop} : wO (o.map f) Q = wO o fun b => Q (f b) := by cases o <;> rfl
theorem o_bind {o : Option β} {f : β → Option α} {Q : α → Prop} : wO (o.bind f) Q = wO o fun b => wO (f b) Q := by cases o <;> rfl
theorem o_if {v : α} {p : Prop} [Decidable p] {Q : α → Prop} : wO (if p then some v else none) Q = (p ∧ Q v) := by
  split
  · exact propext ⟨fun h => ⟨by assumption, h⟩, fun h => h.2⟩
  · exact propext ⟨fun h => h.elim, fun h => absurd h.1 (by assumption)⟩
theorem b_bl {v : Bool} {Q : Bool → Prop} : wB (.bl v) Q = Q v := rfl
theorem w_optR0 {o : Option α} : wE0 (optR o S) Q X = wO o fun v => Q v S := by cases o <;> rfl
theorem w_asB0 {Q : Bool → Sto → Prop} : wE0 (asB x S) Q X = wB x fun b => Q b S := by cases x <;> rfl
theorem w_ite0 {p : Prop} [Decidable p] {m m' : ER α} : wE0 (if p then m else m') Q X = (if p then wE0 m Q X else wE0 m' Q X) := by split <;> rfl
theorem w_guard0 {p : Prop} [Decidable p] {m : ER α} : wE0 (if p then m else .err) Q X = (p ∧ wE0 m Q X) := by
  split
  · exact propext ⟨fun h => ⟨by assumption, h⟩, fun h => h.2⟩
  · exact propext ⟨fun h => h.elim, fun h => absurd h.1 (by assumption)⟩
theorem w_few0 {xs : List β} {m : ER α} : wE0 (few xs m) Q X = (xs.length ≤ 100000 ∧ wE0 m Q X) := by unfold few; exact w_guard0
/-! ### expressions -/
theorem w_var0 {Q : PV → Sto → Prop} : wE0 (eVar i env S) Q X = wO (env[i]?) fun o => wO o fun x => Q x S := by
  unfold eVar
  cases env[i]? with
  | none => rfl
  | some o => cases o <;> rfl
theorem w_c0 {Q : PV → Sto → Prop} : wE0 (eC x env S) Q X = Q x S := rfl
theorem w_fl0 {Q : PV → Sto → Prop} : wE0 (eFl ms env S) Q X = wE0 (ms env S) (fun xs S => Q (.fl xs) S) X := by unfold eFl; rw [w_bind0]; rfl
theorem w_new0 {Q : PV → Sto → Prop} : wE0 (eNew ms env S) Q X = wE0 (ms env S) (fun xs S => Q (.ref S.length) (S ++ [.lst xs])) X := by unfold eNew; rw [w_bind0]; rfl
theorem w_nil0 {Q : List PV → Sto → Prop} : wE0 (aNil env S) Q X = Q [] S := rfl
theorem w_cons0 {Q : List PV → Sto → Prop} : wE0 (aCons a ms env S) Q X = wE0 (a env S) (fun x S => wE0 (ms env S) (fun xs S => Q (x :: xs) S) X) X := by unfold aCons; simp only [w_bind0, w_ok0]
theorem w_tup0 {Q : PV → Sto → Prop} : wE0 (eTup ms env S) Q X = wE0 (ms env S) (fun xs S => xs.length ≤ 100000 ∧ Q (.tup xs) S) X := by unfold eTup; simp only [w_bind0, w_few0, w_ok0]
theorem w_lst0 {Q : List PV → Sto → Prop} : wE0 (nLst ms env S) Q X = wE0 (ms env S) (fun xs S => xs.length ≤ 100000 ∧ Q xs S) X := by unfold nLst; simp only [w_bind0, w_few0, w_ok0]
theorem w_op0 {f : Sto → PV → PV → Option PV} {Q : PV → Sto → Prop} : wE0 (eOp f a b env S) Q X = wE0 (a env S) (fun x S => wE0 (b env S) (fun y S => wO (f S x y) fun z => Q z S) X) X := by unfold eOp; simp only [w_bind0, w_optR0]
theorem w_tOf0 {Q : Bool → Sto → Prop} : wE0 (tOf a env S) Q X = wE0 (a env S) (fun x S => wB x fun b => Q b S) X := by unfold tOf; simp only [w_bind0, w_asB0]
theorem w_chain0 {f g : Sto → PV → PV → Option PV} {Q : PV → Sto → Prop} : wE0 (eChain f g a b c env S) Q X = wE0 (a env S) (fun x S => wE0 (b env S) (fun y S => wO (f S x y) fun z => wB z fun k => if k = true then wE0 (c env S) (fun w S => wO (g S y w) fun z => Q z S) X else Q (.bl false) S) X) X := by
  unfold eChain; simp only [w_bind0, w_optR0, w_asB0, w_ite0, w_ok0]
theorem w_tTru0 {Q : Bool → Sto → Prop} : wE0 (tTru a env S) Q X = wE0 (a env S) (fun x S => wO (truS S x) fun b => Q b S) X := by unfold tTru; simp only [w_bind0, w_optR0]
theorem w_tNot0 {Q : Bool → Sto → Prop} : wE0 (tNotP t env S) Q X = wE0 (t env S) (fun b S => Q (!b) S) X := by unfold tNotP; simp only [w_bind0, w_ok0]
theorem w_tAnd0 {Q : Bool → Sto → Prop} : wE0 (tAndP t u env S) Q X = wE0 (t env S) (fun b S => if b = true then wE0 (u env S) Q X else Q false S) X := by unfold tAndP; simp only [w_bind0, w_ite0, w_ok0]
theorem w_tOr0 {Q : Bool → Sto → Prop} : wE0 (tOrP t u env S) Q X = wE0 (t env S) (fun b S => if b = true then Q true S else wE0 (u env S) Q X) X := by unfold tOrP; simp only [w_bind0, w_ite0, w_ok0]
theorem w_and0 {Q : PV → Sto → Prop} : wE0 (eAndP a b env S) Q X = wE0 (a env S) (fun x S => wB x fun k => if k = true then wE0 (b env S) Q X else Q (.bl false) S) X := by unfold eAndP; simp only [w_bind0, w_asB0, w_ite0, w_ok0]
theorem w_or0 {Q : PV → Sto → Prop} : wE0 (eOrP a b env S) Q X = wE0 (a env S) (fun x S => wB x fun k => if k = true then Q (.bl true) S else wE0 (b env S) Q X) X := by unfold eOrP; simp only [w_bind0, w_asB0, w_ite0, w_ok0]
theorem w_not0 {Q : PV → Sto → Prop} : wE0 (eNotP a env S) Q X = wE0 (a env S) (fun x S => wB x fun k => Q (.bl (!k)) S) X := by unfold eNotP; simp only [w_bind0, w_asB0, w_ok0]
theorem w_if0 {Q : PV → Sto → Prop} : wE0 (eIf t a b env S) Q X = wE0 (t env S) (fun k S => if k = true then wE0 (a env S) Q X else wE0 (b env S) Q X) X := by unfold eIf; simp only [w_bind0, w_ite0]
def asI (x : PV) (Q : Int → Prop) : Prop := match x with
  | .int i => Q i
  | _ => False
theorem asI_int {k : Int} {Q : Int → Prop} : asI (.int k) Q = Q k := rfl
theorem w_neg0 {Q : PV → Sto → Prop} : wE0 (eNegP a env S) Q X = wE0 (a env S) (fun x S => asI x fun i => Q (.int (-i)) S) X := by
  unfold eNegP; simp only [w_bind0]; congr 1; funext x S; cases x <;> rfl
theorem w_oN0 {Q : Option Int → Sto → Prop} : wE0 (oNone env S) Q X = Q none S := rfl
theorem w_oS0 {Q : Option Int → Sto → Prop} : wE0 (oSome a env S) Q X = wE0 (a env S) (fun x S => asI x fun i => Q (some i) S) X := by
  unfold oSome; simp only [w_bind0]; congr 1; funext x S; cases x <;> rfl
theorem w_sl0 {lo hi : MO} {Q : PV → Sto → Prop} : wE0 (eSl a lo hi env S) Q X = wE0 (a env S) (fun x S => wE0 (lo env S) (fun l S => wE0 (hi env S) (fun h S => wO (slP S x l h) fun z => Q z S) X) X) X := by unfold eSl; simp only [w_bind0, w_optR0]
theorem w_eCB0 {f : Sto → List PV → Option PV} {Q : PV → Sto → Prop} : wE0 (eCB f ms env S) Q X = wE0 (ms env S) (fun xs S => wO (f S xs) fun z => Q z S) X := by unfold eCB; simp only [w_bind0, w_optR0]
theorem w_nCB0 {f : Sto → List PV → Option (List PV)} {Q : List PV → Sto → Prop} : wE0 (nCB f ms env S) Q X = wE0 (ms env S) (fun xs S => wO (f S xs) fun z => Q z S) X := by unfold nCB; simp only [w_bind0, w_optR0]
theorem w_eDB0 {f : Sto → List PV → Option (List (Key × PV))} {Q : PV → Sto → Prop} : wE0 (eDB f ms env S) Q X = wE0 (ms env S) (fun xs S => wO (f S xs) fun kvs => Q (.ref S.length) (S ++ [.dic kvs])) X := by unfold eDB; simp only [w_bind0, w_optR0, w_ok0]
theorem w_dnew0 {Q : PV → Sto → Prop} : wE0 (eDNew env S) Q X = Q (.ref S.length) (S ++ [.dic []]) := rfl
theorem w_call0 {m : List PV → Sto → ER PV} {Q : PV → Sto → Prop} : wE0 (eCall n m ms env S) Q X = wE0 (ms env S) (fun xs S => xs.length = n ∧ wE0 (m xs S) Q X) X := by unfold eCall; simp only [w_bind0, w_guard0]
theorem w_nSortU0 {Q : List PV → Sto → Prop} : wE0 (nSortU ms env S) Q X = wE0 (ms env S) (fun xs S => wO (match xs with | [x] => ((lsqS S x).bind intsP).bind fun ns => if ns.length ≤ 4000 then some ns else none | _ => none) fun ns => Q ((sortU ns).map .int) S) X := by
  unfold nSortU
  rw [w_bind0]
  congr 1
  funext xs S
  cases xs with
  | nil => rfl
  | cons x r =>
    cases r with
    | nil =>
      show wE0 (optR (Option.map _ _) S) Q X = _
      rw [w_optR0, o_map]
    | cons _ _ => rfl
theorem w_iSeq0 {Q : Src PV → Sto → Prop} : wE0 (iSeq a env S) Q X = wE0 (a env S) (fun x S => wO (itS S x) fun z => Q z S) X := by unfold iSeq; simp only [w_bind0, w_optR0]
theorem w_iRng10 {Q : Src PV → Sto → Prop} : wE0 (iRng1 ms env S) Q X = wE0 (ms env S) (fun xs S => ∃ j : Int, xs = [.int j] ∧ -1000000000 ≤ j ∧ j ≤ 1000000000 ∧ Q (fun _ => True, rngL 0 j.toNat) S) X := by
  unfold iRng1
  rw [w_bind0]
  congr 1
  funext xs S
  split
  · rename_i j
    rw [w_guard0, w_ok0]
    exact propext ⟨fun h => ⟨j, rfl, h.1.1, h.1.2, h.2⟩, fun ⟨k, e, h1, h2, h⟩ => by cases e; exact ⟨⟨h1, h2⟩, h⟩⟩
  · rename_i h
    exact propext ⟨fun h => h.elim, fun ⟨k, e, _⟩ => absurd e (h k)⟩
theorem w_iRng20 {Q : Src PV → Sto → Prop} : wE0 (iRng2 ms env S) Q X = wE0 (ms env S) (fun xs S => ∃ i j : Int, xs = [.int i, .int j] ∧ (-1000000000 ≤ i ∧ i ≤ 1000000000 ∧ -1000000000 ≤ j ∧ j ≤ 1000000000) ∧ Q (fun _ => True, rngL i (j - i).toNat) S) X := by
  unfold iRng2
  rw [w_bind0]
  congr 1
  funext xs S
  split
  · rename_i i j
    rw [w_guard0, w_ok0]
    exact propext ⟨fun h => ⟨i, j, rfl, h.1, h.2⟩, fun ⟨k, l, e, h1, h⟩ => by cases e; exact ⟨h1, h⟩⟩
  · rename_i h
    exact propext ⟨fun h => h.elim, fun ⟨k, l, e, _⟩ => absurd e (h k l)⟩
theorem w_nLc0 {m : ME (Src ι)} {bd : ι → En → Option En} {vs : List Nat} {Q : List PV → Sto → Prop} : wE0 (nLc m bd t a vs env S) Q X = wE0 (m env S) (fun p S => wE0 (lcI p.1 bd t a (wipeP env vs) p.2 [] S) Q X) X := by unfold nLc; simp only [w_bind0]
/-! ### statements -/
theorem w_then0 {m : ER α} {f : α → Sto → SR} : wS0 (m.then env f) P = wE0 m (fun a S => wS0 (f a S) P) P.X := by cases m <;> rfl
theorem s_nil0 : wS0 (sNil env S) P = P.N env S := rfl
theorem s_seq0 : wS0 (sSeq s1 s2 env S) P = wS0 (s1 env S) ⟨fun env S => wS0 (s2 env S) P, P.R, P.B, P.C, P.X⟩ := by unfold sSeq; cases s1 env S <;> rfl
theorem s_expr0 : wS0 (sExpr a env S) P = wE0 (a env S) (fun _ S => P.N env S) P.X := by unfold sExpr; rw [w_then0]; rfl
theorem s_ret0 : wS0 (sRet a env S) P = wE0 (a env S) P.R P.X := by unfold sRet; rw [w_then0]; rfl
theorem s_retN0 : wS0 (sRetN env S) P = P.R .non S := rfl
theorem s_brk0 : wS0 (sBreak env S) P = P.B env S := rfl
theorem s_cnt0 : wS0 (sCont env S) P = P.C env S := rfl
theorem s_if0 : wS0 (sIf t s1 s2 env S) P = wE0 (t env S) (fun k S => if k = true then wS0 (s1 env S) P else wS0 (s2 env S) P) P.X := by
  unfold sIf
  rw [w_then0]
  congr 1
  funext k S
  split <;> rfl
theorem s_set0 : wS0 (sSet i a env S) P = wE0 (a env S) (fun x S => P.N (env.set i (some x)) S) P.X := by unfold sSet; rw [w_then0]; rfl
theorem s_asg0 {g : MG} : wS0 (sAsg a g env S) P = wE0 (a env S) (fun x S => wO (g x env S) fun p => P.N p.1 p.2) P.X := by
  unfold sAsg
  rw [w_then0]
  congr 1
  funext x S
  cases g x env S <;> rfl
theorem s_par0 : wS0 (sPar i j ms env S) P = wE0 (ms env S) (fun xs S => wO (match xs with | [x, y] => some (x, y) | _ => none) fun p => P.N ((env.set i (some p.1)).set j (some p.2)) S) P.X := by
  unfold sPar
  rw [w_then0]
  congr 1
  funext xs S
  cases xs with
  | nil => rfl
  | cons x r =>
    cases r with
    | nil => rfl
    | cons y r => cases r <;> rfl
theorem s_aug0 : wS0 (sAug i a env S) P = wO (env[i]?) fun o => wO o fun x => asI x fun k => wE0 (a env S) (fun y S => asI y fun l => P.N (env.set i (some (.int (k + l)))) S) P.X := by
  unfold sAug
  cases env[i]? with
  | none => rfl
  | some o =>
    cases o with
    | none => rfl
    | some x =>
      cases x with
      | int k =>
        show wS0 ((a env S).then env _) P = wE0 (a env S) _ _
        rw [w_then0]
        congr 1
        funext y S
        cases y <;> rfl
      | _ => rfl
theorem s_for0 {m : ME (Src ι)} {g : ι → En → Sto → Option (En × Sto)} : wS0 (sFor m g s1 env S) P = wE0 (m env S) (fun p S => wS0 (forI p.1 g s1 p.2 env S) P) P.X := by unfold sFor; rw [w_then0]
theorem g_nm {Q : En × Sto → Prop} : wO (gNm i x env S) Q = Q (env.set i (some x), S) := rfl
theorem g_n0 {Q : En × Sto → Prop} : wO (gN0 [] env S) Q = Q (env, S) := rfl
theorem g_cn {g : MG} {r : MGs} {xs : List PV} {Q : En × Sto → Prop} : wO (gCn g r (x :: xs) env S) Q = wO (g x env S) fun p => wO (r xs p.1 p.2) Q := by
  show wO ((g x env S).bind _) Q = _
  rw [o_bind]
theorem g_tp {g : MGs} {xs : List PV} {Q : En × Sto → Prop} : wO (gTp n g (.tup xs) env S) Q = (xs.length = n ∧ wO (g xs env S) Q) := by
  show wO (if xs.length = n then g xs env S else none) Q = _
  split
  · exact propext ⟨fun h => ⟨by assumption, h⟩, fun h => h.2⟩
  · exact propext ⟨fun h => h.elim, fun h => absurd h.1 (by assumption)⟩
theorem g_pr {gs : MGs} {p : PV × PV} {Q : En × Sto → Prop} : wO (gPr gs p env S) Q = wO (gs [p.1, p.2] env S) Q := rfl
theorem g_st {g : MGs} {xs : List PV} {Q : En × Sto → Prop} : wO (gSt g (.tup (xs ++ [y])) env S) Q = ((xs ++ [y]).length < 16384 ∧ wO (g [.fl xs, y] env S) Q) := by
  show wO (match (xs ++ [y]).getLast? with | some z => if (xs ++ [y]).length < 16384 then g [.fl (xs ++ [y]).dropLast, z] env S else none | none => none) Q = _
  rw [List.getLast?_concat, List.dropLast_concat]
  show wO (if (xs ++ [y]).length < 16384 then g [.fl xs, y] env S else none) Q = _
  split
  · exact propext ⟨fun h => ⟨by assumption, h⟩, fun h => h.2⟩
  · exact propext ⟨fun h => h.elim, fun h => absurd h.1 (by assumption)⟩
theorem w_mL0 {f : List PV → List PV → Option (PV × List PV)} {Q : PV → Sto → Prop} : wE0 (mL f a ms env S) Q X = wE0 (a env S) (fun x S => wO (lsqS S x) fun _ => wE0 (ms env S) (fun ys S => match x with
    | .ref i => wO (S[i]?) fun o => match o with
      | .lst xs => wO (f xs ys) fun p => Q p.1 (S.set i (.lst p.2))
      | _ => False
    | _ => False) X) X := by
  unfold mL
  rw [w_bind0]
  congr 1
  funext x S
  cases lsqS S x with
  | none => rfl
  | some zs =>
    show wE0 ((ms env S).bind _) Q X = wE0 (ms env S) _ X
    rw [w_bind0]
    congr 1
    funext ys S
    cases x with
    | ref i =>
      show wE0 (match S[i]? with | some (.lst xs) => (match f xs ys with | some (v, xs') => ER.ok v (S.set i (.lst xs')) | none => .err) | _ => .err) Q X = wO (S[i]?) _
      cases S[i]? with
      | none => rfl
      | some o =>
        cases o with
        | lst xs =>
          show wE0 (match f xs ys with | some (v, xs') => ER.ok v (S.set i (.lst xs')) | none => .err) Q X = wO (f xs ys) _
          cases f xs ys <;> rfl
        | _ => rfl
    | _ => rfl
theorem w_pop20 {md : ME PV} {Q : PV → Sto → Prop} : wE0 (ePop2 a b md env S) Q X = wE0 (a env S) (fun x S => wO (dicS S x) fun _ => wE0 (b env S) (fun y S => wE0 (md env S) (fun z S => match x with
    | .ref i => wO (S[i]?) fun o => wO (keyP y) fun k => match o with
      | .dic kvs => wO (some (getK kvs k)) fun v => match v with
        | some v => Q v (S.set i (.dic (dropKp kvs k)))
        | none => Q z S
      | _ => False
    | _ => False) X) X) X := by
  unfold ePop2
  rw [w_bind0]
  congr 1
  funext x S
  cases dicS S x with
  | none => rfl
  | some zs =>
    show wE0 ((b env S).bind _) Q X = wE0 (b env S) _ X
    rw [w_bind0]
    congr 1
    funext y S
    rw [w_bind0]
    congr 1
    funext z S
    cases x with
    | ref i =>
      dsimp only
      cases S[i]? with
      | none => rfl
      | some o =>
        cases keyP y with
        | none => cases o <;> rfl
        | some k =>
          cases o with
          | dic kvs =>
            dsimp only [o_some]
            cases getK kvs k <;> rfl
          | _ => rfl
    | _ => rfl
/-! ### defs -/
theorem w_runB0 {N : Nat} {bd : MS} {xs : List PV} {Q : PV → Sto → Prop} (h : wS0 (bd (xs.map some ++ List.replicate (N - xs.length) none) S) ⟨fun _ S => Q .non S, Q, fun _ _ => False, fun _ _ => False, X⟩) : wE0 (runB N bd xs S) Q X := by
  unfold runB
  revert h
  cases bd (xs.map some ++ List.replicate (N - xs.length) none) S <;> exact id
/-- the store's things name things of the store -/
def Cl (n : Nat) (S : Sto) : Prop := ∀ o ∈ S.take n, LtO n o
open Classical in
theorem trim_ex {n : Nat} {e : Ex} {S : Sto} (h : LtP n e.v) (c : ∀ o ∈ S.take n, LtO n o) : trimR n (.ex e S) = .ex e (S.take n) := by
  unfold trimR
  exact if_pos ⟨h, c⟩
theorem w_runT0 {N : Nat} {bd : MS} {xs : List PV} {Q : PV → Sto → Prop} (h : wE0 (runB N bd xs S) (fun v S' => Cl S.length S' ∧ ((LtP S.length v ∧ Q v (S'.take S.length)) ∨ ∃ i ys, v = .ref i ∧ S'[i]? = some (.lst ys) ∧ S.length ≤ i ∧ LtPs S.length ys ∧ Q (.fl ys) (S'.take S.length))) fun e S' => Cl S.length S' ∧ LtP S.length e.v ∧ X e (S'.take S.length)) : wE0 (runT N bd xs S) Q X := by
  unfold runT
  revert h
  cases runB N bd xs S with
  | ok v S' =>
    rintro ⟨c, ⟨l, q⟩ | ⟨i, ys, rfl, e, hi, ly, q⟩⟩
    · rw [trim_ok l c]; exact q
    · rw [trim_fl e hi ly c]; exact q
  | ex e S' =>
    rintro ⟨c, l, q⟩
    rw [trim_ex l c]; exact q
  | err => exact id
theorem w_imp0 {m : ER α} {Q' : α → Sto → Prop} (h : wE0 m Q X) (k : ∀ a S, Q a S → Q' a S) : wE0 m Q' X := by
  cases m with
  | ok a S => exact k a S h
  | ex e S => exact h
  | err => exact h
theorem w_impN0 {m : ER α} {Q' : α → Sto → Prop} (h : wE0 m Q never) (k : ∀ a S, Q a S → Q' a S) : wE0 m Q' X := by
  cases m with
  | ok a S => exact k a S h
  | ex e S => exact h.elim
  | err => exact h
/-! ### walks -/
theorem wFor0 {C : Sto → Prop} {g : ι → En → Sto → Option (En × Sto)} {bd : MS} (I : Nat → En → Sto → Prop) : ∀ {xs : List ι} {env : En} {S : Sto} (k : Nat), I k env S → (∀ i env S, I i env S → C S) →
    (∀ i x env S, xs[i]? = some x → I (k + i) env S → wO (g x env S) fun p => wS0 (bd p.1 p.2) ⟨I (k + i + 1), P.R, P.N, I (k + i + 1), P.X⟩) → (∀ env S, I (k + xs.length) env S → P.N env S) → wS0 (forI C g bd xs env S) P
  | [], env, S, k, h0, hC, _, fin => by
    unfold forI
    rw [if_pos (hC k env S h0)]
    exact fin env S h0
  | x :: xs, env, S, k, h0, hC, step, fin => by
    have st := step 0 x env S rfl h0
    unfold forI
    rw [if_pos (hC k env S h0)]
    revert st
    cases g x env S with
    | none => exact fun h => h.elim
    | some p =>
      show wS0 (bd p.1 p.2) _ → wS0 (match bd p.1 p.2 with | .nx env S => forI C g bd xs env S | .ct env S => forI C g bd xs env S | .bk env S => .nx env S | r => r) P
      have rest : ∀ env S, I (k + 0 + 1) env S → wS0 (forI C g bd xs env S) P := fun env S h => wFor0 I (k + 1) h hC (fun i y env S e hi => by
        have := step (i + 1) y env S (by simpa using e) (by rw [show k + (i + 1) = k + 1 + i by omega]; exact hi)
        rw [show k + (i + 1) + 1 = k + 1 + i + 1 by omega] at this
        exact this) (fun env S hi => fin env S (by rw [List.length_cons, show k + (xs.length + 1) = k + 1 + xs.length by omega]; exact hi))
      cases bd p.1 p.2 with
      | nx env2 S2 => exact rest env2 S2
      | ct env2 S2 => exact rest env2 S2
      | bk env2 S2 => exact id
      | rt v S2 => exact id
      | ex e env2 S2 => exact id
      | err => exact id
theorem w_noEx0 {m : ER α} : wE0 (noEx m) Q X = wE0 m Q never := by cases m <;> rfl
/-- a comprehension: what is known after k of the items -/
theorem wLc0 {C : Sto → Prop} {bd : ι → En → Option En} {e : ME PV} {Q : List PV → Sto → Prop} (I : Nat → List PV → Sto → Prop) : ∀ {xs : List ι} {acc : List PV} {S : Sto} (k : Nat), I k acc S → (∀ i acc S, I i acc S → C S) →
    (∀ i x acc S, xs[i]? = some x → I (k + i) acc S → wO (bd x env) fun env1 => wE0 (t env1 S) (fun b S => if b = true then wE0 (e env1 S) (fun y S => acc.length < 100000 ∧ I (k + i + 1) (acc ++ [y]) S) never else I (k + i + 1) acc S) never) →
    (∀ acc S, I (k + xs.length) acc S → Q acc S) → wE0 (lcI C bd t e env xs acc S) Q X
  | [], acc, S, k, h0, hC, _, fin => by
    unfold lcI
    rw [if_pos (hC k acc S h0)]
    exact fin acc S h0
  | x :: xs, acc, S, k, h0, hC, step, fin => by
    have st := step 0 x acc S rfl h0
    unfold lcI
    rw [if_pos (hC k acc S h0)]
    have rest : ∀ acc S, I (k + 0 + 1) acc S → wE0 (lcI C bd t e env xs acc S) Q X := fun acc S h => wLc0 I (k + 1) h hC (fun i y acc S e hi => by
      have := step (i + 1) y acc S (by simpa using e) (by rw [show k + (i + 1) = k + 1 + i by omega]; exact hi)
      rw [show k + (i + 1) + 1 = k + 1 + i + 1 by omega] at this
      exact this) (fun acc S hi => fin acc S (by rw [List.length_cons, show k + (xs.length + 1) = k + 1 + xs.length by omega]; exact hi))
    revert st
    cases bd x env with
    | none => exact fun h => h.elim
    | some env1 =>
      show wE0 (t env1 S) _ never → wE0 ((noEx (t env1 S)).bind _) Q X
      rw [w_bind0, w_noEx0]
      intro h
      refine w_impN0 h fun b S1 h1 => ?_
      revert h1
      cases b with
      | true =>
        show wE0 (e env1 S1) _ never → wE0 ((noEx (e env1 S1)).bind _) Q X
        rw [w_bind0, w_noEx0]
        intro h2
        refine w_impN0 h2 fun y S2 h3 => ?_
        rw [if_pos h3.1]
        exact rest _ _ h3.2
      | false => exact rest _ _
end

structure wE {α : Type} (m : ER α) (Q : α → Sto → Prop) (X : WXE) : Prop where
  h : wE0 m Q X
structure wS (r : SR) (P : Po) : Prop where
  h : wS0 r P
theorem wE_eq {α : Type} {m : ER α} {Q : α → Sto → Prop} {X : WXE} : wE m Q X = wE0 m Q X := propext ⟨fun h => h.h, fun h => ⟨h⟩⟩
theorem wS_eq {r : SR} {P : Po} : wS r P = wS0 r P := propext ⟨fun h => h.h, fun h => ⟨h⟩⟩
section
variable {α β ι : Type} {Q : α → Sto → Prop} {X : WXE} {P : Po} {env : En} {S : Sto} {a b c : ME PV} {ms : ME (List PV)} {t u : ME Bool} {s1 s2 : MS} {x y z : PV} {i j n : Nat}
theorem w_ok {v : α} : wE (.ok v S) Q X = Q v S := by
  simp only [wE_eq, wS_eq]
  exact w_ok0
theorem w_err : wE .err Q X = False := by
  simp only [wE_eq, wS_eq]
  exact w_err0
theorem w_bind {m : ER β} {f : β → Sto → ER α} : wE (m.bind f) Q X = wE m (fun b S => wE (f b S) Q X) X := by
  simp only [wE_eq, wS_eq]
  exact w_bind0
theorem w_optR {o : Option α} : wE (optR o S) Q X = wO o fun v => Q v S := by
  simp only [wE_eq, wS_eq]
  exact w_optR0
theorem w_asB {Q : Bool → Sto → Prop} : wE (asB x S) Q X = wB x fun b => Q b S := by
  simp only [wE_eq, wS_eq]
  exact w_asB0
theorem w_ite {p : Prop} [Decidable p] {m m' : ER α} : wE (if p then m else m') Q X = (if p then wE m Q X else wE m' Q X) := by
  simp only [wE_eq, wS_eq]
  exact w_ite0
theorem w_guard {p : Prop} [Decidable p] {m : ER α} : wE (if p then m else .err) Q X = (p ∧ wE m Q X) := by
  simp only [wE_eq, wS_eq]
  exact w_guard0
theorem w_var {Q : PV → Sto → Prop} : wE (eVar i env S) Q X = wO (env[i]?) fun o => wO o fun x => Q x S := by
  simp only [wE_eq, wS_eq]
  exact w_var0
theorem w_c {Q : PV → Sto → Prop} : wE (eC x env S) Q X = Q x S := by
  simp only [wE_eq, wS_eq]
  exact w_c0
theorem w_fl {Q : PV → Sto → Prop} : wE (eFl ms env S) Q X = wE (ms env S) (fun xs S => Q (.fl xs) S) X := by
  simp only [wE_eq, wS_eq]
  exact w_fl0
theorem w_new {Q : PV → Sto → Prop} : wE (eNew ms env S) Q X = wE (ms env S) (fun xs S => Q (.ref S.length) (S ++ [.lst xs])) X := by
  simp only [wE_eq, wS_eq]
  exact w_new0
theorem w_nil {Q : List PV → Sto → Prop} : wE (aNil env S) Q X = Q [] S := by
  simp only [wE_eq, wS_eq]
  exact w_nil0
theorem w_cons {Q : List PV → Sto → Prop} : wE (aCons a ms env S) Q X = wE (a env S) (fun x S => wE (ms env S) (fun xs S => Q (x :: xs) S) X) X := by
  simp only [wE_eq, wS_eq]
  exact w_cons0
theorem w_tup {Q : PV → Sto → Prop} : wE (eTup ms env S) Q X = wE (ms env S) (fun xs S => xs.length ≤ 100000 ∧ Q (.tup xs) S) X := by
  simp only [wE_eq, wS_eq]
  exact w_tup0
theorem w_lst {Q : List PV → Sto → Prop} : wE (nLst ms env S) Q X = wE (ms env S) (fun xs S => xs.length ≤ 100000 ∧ Q xs S) X := by
  simp only [wE_eq, wS_eq]
  exact w_lst0
theorem w_op {f : Sto → PV → PV → Option PV} {Q : PV → Sto → Prop} : wE (eOp f a b env S) Q X = wE (a env S) (fun x S => wE (b env S) (fun y S => wO (f S x y) fun z => Q z S) X) X := by
  simp only [wE_eq, wS_eq]
  exact w_op0
theorem w_tOf {Q : Bool → Sto → Prop} : wE (tOf a env S) Q X = wE (a env S) (fun x S => wB x fun b => Q b S) X := by
  simp only [wE_eq, wS_eq]
  exact w_tOf0
theorem w_chain {f g : Sto → PV → PV → Option PV} {Q : PV → Sto → Prop} : wE (eChain f g a b c env S) Q X = wE (a env S) (fun x S => wE (b env S) (fun y S => wO (f S x y) fun z => wB z fun k => if k = true then wE (c env S) (fun w S => wO (g S y w) fun z => Q z S) X else Q (.bl false) S) X) X := by
  simp only [wE_eq, wS_eq]
  exact w_chain0
theorem w_tTru {Q : Bool → Sto → Prop} : wE (tTru a env S) Q X = wE (a env S) (fun x S => wO (truS S x) fun b => Q b S) X := by
  simp only [wE_eq, wS_eq]
  exact w_tTru0
theorem w_tNot {Q : Bool → Sto → Prop} : wE (tNotP t env S) Q X = wE (t env S) (fun b S => Q (!b) S) X := by
  simp only [wE_eq, wS_eq]
  exact w_tNot0
theorem w_tAnd {Q : Bool → Sto → Prop} : wE (tAndP t u env S) Q X = wE (t env S) (fun b S => if b = true then wE (u env S) Q X else Q false S) X := by
  simp only [wE_eq, wS_eq]
  exact w_tAnd0
theorem w_tOr {Q : Bool → Sto → Prop} : wE (tOrP t u env S) Q X = wE (t env S) (fun b S => if b = true then Q true S else wE (u env S) Q X) X := by
  simp only [wE_eq, wS_eq]
  exact w_tOr0
theorem w_and {Q : PV → Sto → Prop} : wE (eAndP a b env S) Q X = wE (a env S) (fun x S => wB x fun k => if k = true then wE (b env S) Q X else Q (.bl false) S) X := by
  simp only [wE_eq, wS_eq]
  exact w_and0
theorem w_or {Q : PV → Sto → Prop} : wE (eOrP a b env S) Q X = wE (a env S) (fun x S => wB x fun k => if k = true then Q (.bl true) S else wE (b env S) Q X) X := by
  simp only [wE_eq, wS_eq]
  exact w_or0
theorem w_not {Q : PV → Sto → Prop} : wE (eNotP a env S) Q X = wE (a env S) (fun x S => wB x fun k => Q (.bl (!k)) S) X := by
  simp only [wE_eq, wS_eq]
  exact w_not0
theorem w_if {Q : PV → Sto → Prop} : wE (eIf t a b env S) Q X = wE (t env S) (fun k S => if k = true then wE (a env S) Q X else wE (b env S) Q X) X := by
  simp only [wE_eq, wS_eq]
  exact w_if0
theorem w_neg {Q : PV → Sto → Prop} : wE (eNegP a env S) Q X = wE (a env S) (fun x S => asI x fun i => Q (.int (-i)) S) X := by
  simp only [wE_eq, wS_eq]
  exact w_neg0
theorem w_oN {Q : Option Int → Sto → Prop} : wE (oNone env S) Q X = Q none S := by
  simp only [wE_eq, wS_eq]
  exact w_oN0
theorem w_oS {Q : Option Int → Sto → Prop} : wE (oSome a env S) Q X = wE (a env S) (fun x S => asI x fun i => Q (some i) S) X := by
  simp only [wE_eq, wS_eq]
  exact w_oS0
theorem w_sl {lo hi : MO} {Q : PV → Sto → Prop} : wE (eSl a lo hi env S) Q X = wE (a env S) (fun x S => wE (lo env S) (fun l S => wE (hi env S) (fun h S => wO (slP S x l h) fun z => Q z S) X) X) X := by
  simp only [wE_eq, wS_eq]
  exact w_sl0
theorem w_eCB {f : Sto → List PV → Option PV} {Q : PV → Sto → Prop} : wE (eCB f ms env S) Q X = wE (ms env S) (fun xs S => wO (f S xs) fun z => Q z S) X := by
  simp only [wE_eq, wS_eq]
  exact w_eCB0
theorem w_nCB {f : Sto → List PV → Option (List PV)} {Q : List PV → Sto → Prop} : wE (nCB f ms env S) Q X = wE (ms env S) (fun xs S => wO (f S xs) fun z => Q z S) X := by
  simp only [wE_eq, wS_eq]
  exact w_nCB0
theorem w_eDB {f : Sto → List PV → Option (List (Key × PV))} {Q : PV → Sto → Prop} : wE (eDB f ms env S) Q X = wE (ms env S) (fun xs S => wO (f S xs) fun kvs => Q (.ref S.length) (S ++ [.dic kvs])) X := by
  simp only [wE_eq, wS_eq]
  exact w_eDB0
theorem w_dnew {Q : PV → Sto → Prop} : wE (eDNew env S) Q X = Q (.ref S.length) (S ++ [.dic []]) := by
  simp only [wE_eq, wS_eq]
  exact w_dnew0
theorem w_call {m : List PV → Sto → ER PV} {Q : PV → Sto → Prop} : wE (eCall n m ms env S) Q X = wE (ms env S) (fun xs S => xs.length = n ∧ wE (m xs S) Q X) X := by
  simp only [wE_eq, wS_eq]
  exact w_call0
theorem w_nSortU {Q : List PV → Sto → Prop} : wE (nSortU ms env S) Q X = wE (ms env S) (fun xs S => wO (match xs with | [x] => ((lsqS S x).bind intsP).bind fun ns => if ns.length ≤ 4000 then some ns else none | _ => none) fun ns => Q ((sortU ns).map .int) S) X := by
  simp only [wE_eq, wS_eq]
  exact w_nSortU0
theorem w_iSeq {Q : Src PV → Sto → Prop} : wE (iSeq a env S) Q X = wE (a env S) (fun x S => wO (itS S x) fun z => Q z S) X := by
  simp only [wE_eq, wS_eq]
  exact w_iSeq0
theorem w_iRng1 {Q : Src PV → Sto → Prop} : wE (iRng1 ms env S) Q X = wE (ms env S) (fun xs S => ∃ j : Int, xs = [.int j] ∧ -1000000000 ≤ j ∧ j ≤ 1000000000 ∧ Q (fun _ => True, rngL 0 j.toNat) S) X := by
  simp only [wE_eq, wS_eq]
  exact w_iRng10
theorem w_iRng2 {Q : Src PV → Sto → Prop} : wE (iRng2 ms env S) Q X = wE (ms env S) (fun xs S => ∃ i j : Int, xs = [.int i, .int j] ∧ (-1000000000 ≤ i ∧ i ≤ 1000000000 ∧ -1000000000 ≤ j ∧ j ≤ 1000000000) ∧ Q (fun _ => True, rngL i (j - i).toNat) S) X := by
  simp only [wE_eq, wS_eq]
  exact w_iRng20
theorem w_nLc {m : ME (Src ι)} {bd : ι → En → Option En} {vs : List Nat} {Q : List PV → Sto → Prop} : wE (nLc m bd t a vs env S) Q X = wE (m env S) (fun p S => wE (lcI p.1 bd t a (wipeP env vs) p.2 [] S) Q X) X := by
  simp only [wE_eq, wS_eq]
  exact w_nLc0
theorem w_then {m : ER α} {f : α → Sto → SR} : wS (m.then env f) P = wE m (fun a S => wS (f a S) P) P.X := by
  simp only [wE_eq, wS_eq]
  exact w_then0
theorem s_nil : wS (sNil env S) P = P.N env S := by
  simp only [wE_eq, wS_eq]
  exact s_nil0
theorem s_seq : wS (sSeq s1 s2 env S) P = wS (s1 env S) ⟨fun env S => wS (s2 env S) P, P.R, P.B, P.C, P.X⟩ := by
  simp only [wE_eq, wS_eq]
  exact s_seq0
theorem s_expr : wS (sExpr a env S) P = wE (a env S) (fun _ S => P.N env S) P.X := by
  simp only [wE_eq, wS_eq]
  exact s_expr0
theorem s_ret : wS (sRet a env S) P = wE (a env S) P.R P.X := by
  simp only [wE_eq, wS_eq]
  exact s_ret0
theorem s_retN : wS (sRetN env S) P = P.R .non S := by
  simp only [wE_eq, wS_eq]
  exact s_retN0
theorem s_brk : wS (sBreak env S) P = P.B env S := by
  simp only [wE_eq, wS_eq]
  exact s_brk0
theorem s_cnt : wS (sCont env S) P = P.C env S := by
  simp only [wE_eq, wS_eq]
  exact s_cnt0
theorem s_if : wS (sIf t s1 s2 env S) P = wE (t env S) (fun k S => if k = true then wS (s1 env S) P else wS (s2 env S) P) P.X := by
  simp only [wE_eq, wS_eq]
  exact s_if0
theorem s_set : wS (sSet i a env S) P = wE (a env S) (fun x S => P.N (env.set i (some x)) S) P.X := by
  simp only [wE_eq, wS_eq]
  exact s_set0
theorem s_asg {g : MG} : wS (sAsg a g env S) P = wE (a env S) (fun x S => wO (g x env S) fun p => P.N p.1 p.2) P.X := by
  simp only [wE_eq, wS_eq]
  exact s_asg0
theorem s_par : wS (sPar i j ms env S) P = wE (ms env S) (fun xs S => wO (match xs with | [x, y] => some (x, y) | _ => none) fun p => P.N ((env.set i (some p.1)).set j (some p.2)) S) P.X := by
  simp only [wE_eq, wS_eq]
  exact s_par0
theorem s_aug : wS (sAug i a env S) P = wO (env[i]?) fun o => wO o fun x => asI x fun k => wE (a env S) (fun y S => asI y fun l => P.N (env.set i (some (.int (k + l)))) S) P.X := by
  simp only [wE_eq, wS_eq]
  exact s_aug0
theorem s_for {m : ME (Src ι)} {g : ι → En → Sto → Option (En × Sto)} : wS (sFor m g s1 env S) P = wE (m env S) (fun p S => wS (forI p.1 g s1 p.2 env S) P) P.X := by
  simp only [wE_eq, wS_eq]
  exact s_for0
theorem w_mL {f : List PV → List PV → Option (PV × List PV)} {Q : PV → Sto → Prop} : wE (mL f a ms env S) Q X = wE (a env S) (fun x S => wO (lsqS S x) fun _ => wE (ms env S) (fun ys S => match x with
    | .ref i => wO (S[i]?) fun o => match o with
      | .lst xs => wO (f xs ys) fun p => Q p.1 (S.set i (.lst p.2))
      | _ => False
    | _ => False) X) X := by
  simp only [wE_eq, wS_eq]
  exact w_mL0
theorem w_pop2 {md : ME PV} {Q : PV → Sto → Prop} : wE (ePop2 a b md env S) Q X = wE (a env S) (fun x S => wO (dicS S x) fun _ => wE (b env S) (fun y S => wE (md env S) (fun z S => match x with
    | .ref i => wO (S[i]?) fun o => wO (keyP y) fun k => match o with
      | .dic kvs => wO (some (getK kvs k)) fun v => match v with
        | some v => Q v (S.set i (.dic (dropKp kvs k)))
        | none => Q z S
      | _ => False
    | _ => False) X) X) X := by
  simp only [wE_eq, wS_eq]
  exact w_pop20
theorem w_noEx {m : ER α} : wE (noEx m) Q X = wE m Q never := by
  simp only [wE_eq, wS_eq]
  exact w_noEx0
theorem w_runB {N : Nat} {bd : MS} {xs : List PV} {Q : PV → Sto → Prop} (h : wS (bd (xs.map some ++ List.replicate (N - xs.length) none) S) ⟨fun _ S => Q .non S, Q, fun _ _ => False, fun _ _ => False, X⟩) : wE (runB N bd xs S) Q X := ⟨w_runB0 h.h⟩
theorem w_runT {N : Nat} {bd : MS} {xs : List PV} {Q : PV → Sto → Prop} (h : wE (runB N bd xs S) (fun v S' => Cl S.length S' ∧ ((LtP S.length v ∧ Q v (S'.take S.length)) ∨ ∃ i ys, v = .ref i ∧ S'[i]? = some (.lst ys) ∧ S.length ≤ i ∧ LtPs S.length ys ∧ Q (.fl ys) (S'.take S.length))) fun e S' => Cl S.length S' ∧ LtP S.length e.v ∧ X e (S'.take S.length)) : wE (runT N bd xs S) Q X := ⟨w_runT0 h.h⟩
theorem w_imp {m : ER α} {Q' : α → Sto → Prop} (h : wE m Q X) (k : ∀ a S, Q a S → Q' a S) : wE m Q' X := ⟨w_imp0 h.h k⟩
theorem w_impN {m : ER α} {Q' : α → Sto → Prop} (h : wE m Q never) (k : ∀ a S, Q a S → Q' a S) : wE m Q' X := ⟨w_impN0 h.h k⟩
theorem wFor {C : Sto → Prop} {g : ι → En → Sto → Option (En × Sto)} {bd : MS} (I : Nat → En → Sto → Prop) {xs : List ι} {env : En} {S : Sto} (k : Nat) (h0 : I k env S) (hC : ∀ i env S, I i env S → C S)
    (step : ∀ i x env S, xs[i]? = some x → I (k + i) env S → wO (g x env S) fun p => wS (bd p.1 p.2) ⟨I (k + i + 1), P.R, P.N, I (k + i + 1), P.X⟩) (fin : ∀ env S, I (k + xs.length) env S → P.N env S) : wS (forI C g bd xs env S) P := by
  simp only [wE_eq, wS_eq] at step ⊢
  exact wFor0 I k h0 hC step fin
theorem wLc {C : Sto → Prop} {bd : ι → En → Option En} {e : ME PV} {Q : List PV → Sto → Prop} (I : Nat → List PV → Sto → Prop) {xs : List ι} {acc : List PV} {S : Sto} (k : Nat) (h0 : I k acc S) (hC : ∀ i acc S, I i acc S → C S)
    (step : ∀ i x acc S, xs[i]? = some x → I (k + i) acc S → wO (bd x env) fun env1 => wE (t env1 S) (fun b S => if b = true then wE (e env1 S) (fun y S => acc.length < 100000 ∧ I (k + i + 1) (acc ++ [y]) S) never else I (k + i + 1) acc S) never)
    (fin : ∀ acc S, I (k + xs.length) acc S → Q acc S) : wE (lcI C bd t e env xs acc S) Q X := by
  simp only [wE_eq, wS_eq] at step ⊢
  exact wLc0 I k h0 hC step fin
end
end Pv

/-! What the operators tell of known values; the draws' list. -/
namespace Pv
open PySem PySem.Spec PyProof.Rows L2 Tc
section
variable {S : Sto} {a b : ME PV} {env : En}
theorem add_int {i j : Int} : addP S (.int i) (.int j) = some (.int (i + j)) := rfl
theorem add_bl {i : Bool} {j : Int} : addP S (.bl i) (.int j) = some (.int (bN i + j)) := rfl
theorem add_tup {xs ys : List PV} : addP S (.tup xs) (.tup ys) = if xs.length + ys.length ≤ 100000 then some (.tup (xs ++ ys)) else none := rfl
theorem add_fl {xs ys : List PV} : addP S (.fl xs) (.fl ys) = if xs.length + ys.length ≤ 100000 then some (.fl (xs ++ ys)) else none := rfl
theorem sub_int {i j : Int} : subP S (.int i) (.int j) = some (.int (i - j)) := rfl
theorem mul_int {i j : Int} : mulP S (.int i) (.int j) = if i.natAbs.log2 + j.natAbs.log2 < 1000000 then some (.int (i * j)) else none := rfl
theorem div_int {i j : Int} : divP S (.int i) (.int j) = if 0 < j ∧ j.natAbs.log2 < 9000 then some (.int (i / j)) else none := rfl
theorem mod_int {i j : Int} : modP S (.int i) (.int j) = if 0 < j then some (.int (i % j)) else none := rfl
theorem lt_int {i j : Int} : ltP S (.int i) (.int j) = some (.bl (decide (i < j))) := rfl
theorem le_int {i j : Int} : leP S (.int i) (.int j) = some (.bl (decide (i ≤ j))) := rfl
theorem gt_int {i j : Int} : gtP S (.int i) (.int j) = some (.bl (decide (j < i))) := rfl
theorem ge_int {i j : Int} : geP S (.int i) (.int j) = some (.bl (decide (j ≤ i))) := rfl
theorem eq_int {i j : Int} : eqP S (.int i) (.int j) = some (.bl (decide (i = j))) := rfl
theorem eq_str {i j : Str} : eqP S (.str i) (.str j) = some (.bl (decide (i = j))) := rfl
theorem ne_int {i j : Int} : neP S (.int i) (.int j) = some (.bl (!decide (i = j))) := rfl
theorem ne_str {i j : Str} : neP S (.str i) (.str j) = some (.bl (!decide (i = j))) := rfl
theorem is_nn : isP S .non .non = some (.bl true) := rfl
theorem isnt_nn : isntP S .non .non = some (.bl false) := rfl
theorem g_ixE {env : En} {v : PV} {Q : En × Sto → Prop} : wO (gIx a b v env S) Q = wE (a env S) (fun x S => wE (b env S) (fun y S => wO (setS S x y v) fun S => Q (env, S)) never) never := by
  simp only [wE_eq]
  unfold gIx
  cases a env S with
  | ok x S1 =>
    show wO (match b env S1 with | .ok y S => (setS S x y v).map fun S => (env, S) | _ => none) Q = wE0 (b env S1) _ never
    cases b env S1 with
    | ok y S2 =>
      show wO ((setS S2 x y v).map fun S => (env, S)) Q = wO (setS S2 x y v) _
      rw [o_map]
    | ex e S2 => rfl
    | err => rfl
  | ex e S1 => rfl
  | err => rfl
theorem log_small {x : Nat} (h : x < 2 ^ 64) : x.log2 < 64 := by
  by_cases e : x = 0
  · subst e; decide
  · exact (Nat.log2_lt e).mpr h
mutual
theorem LtP.up {n m : Nat} (h : n ≤ m) : ∀ {x : PV}, LtP n x → LtP m x
  | .tup xs, l => LtPs.up (xs := xs) h l
  | .fl xs, l => LtPs.up (xs := xs) h l
  | .ro xs, l => LtPs.up (xs := xs) h l
  | .ref i, l => Nat.lt_of_lt_of_le (show i < n from l) h
  | .non, _ => trivial
  | .bl _, _ => trivial
  | .int _, _ => trivial
  | .str _, _ => trivial
  | .ty _, _ => trivial
theorem LtPs.up {n m : Nat} (h : n ≤ m) : ∀ {xs : List PV}, LtPs n xs → LtPs m xs
  | [], _ => trivial
  | x :: xs, l => ⟨LtP.up (x := x) h l.1, LtPs.up (xs := xs) h l.2⟩
end
theorem LtO.up {n m : Nat} (h : n ≤ m) {o : Ob} (l : LtO n o) : LtO m o := by
  cases o with
  | lst xs => exact LtPs.up (xs := xs) h l
  | dic kvs => exact fun p hp => LtP.up h (l p hp)
  | ins c fs => exact fun p hp => LtP.up h (l p hp)
  | _ => trivial
def Clo (S : Sto) : Prop := ∀ o ∈ S, LtO S.length o
theorem Clo.app {S : Sto} {o : Ob} (h : Clo S) (l : LtO (S.length + 1) o) : Clo (S ++ [o]) := fun u hu => by
  have hl : (S ++ [o]).length = S.length + 1 := by rw [List.length_append]; rfl
  rw [hl]
  rcases List.mem_append.mp hu with z | z
  · exact (h u z).up (Nat.le_succ _)
  · cases List.mem_singleton.mp z; exact l
/-- two ints: what is yet to be drawn -/
def Bg (b : Nat) (S : Sto) : Prop := (∃ x y : Int, S[b]? = some (.lst [.int x, .int y]) ∧ 0 ≤ x ∧ 0 ≤ y ∧ y < 2147483647) ∧ Clo S
/-- all but the draws' list is as it was -/
def St (b : Nat) (S S' : Sto) : Prop := S'.length = S.length ∧ ∀ i, i ≠ b → S'[i]? = S[i]?
theorem St.refl {b : Nat} (S : Sto) : St b S S := ⟨rfl, fun _ _ => rfl⟩
theorem St.trans {b : Nat} {S S1 S2 : Sto} (h : St b S S1) (k : St b S1 S2) : St b S S2 := ⟨k.1.trans h.1, fun i n => (k.2 i n).trans (h.2 i n)⟩
theorem Bg.lt {b : Nat} {S : Sto} (h : Bg b S) : b < S.length := by obtain ⟨⟨x, y, e, _⟩, _⟩ := h; exact (List.getElem?_eq_some_iff.mp e).1
theorem st_set {b : Nat} {S : Sto} {o : Ob} : St b S (S.set b o) := ⟨List.length_set, fun i n => by rw [List.getElem?_set_ne (fun e => n e.symm)]⟩
theorem get_set {b : Nat} {S : Sto} {o u : Ob} (h : S[b]? = some u) : (S.set b o)[b]? = some o := List.getElem?_set_self (List.getElem?_eq_some_iff.mp h).1
theorem get_app {S : Sto} {o : Ob} : (S ++ [o])[S.length]? = some o := by rw [List.getElem?_append_right (Nat.le_refl _), Nat.sub_self]; rfl
theorem get_old {S : Sto} {o u : Ob} {i : Nat} (h : S[i]? = some u) : (S ++ [o])[i]? = some u := by rw [List.getElem?_append_left (List.getElem?_eq_some_iff.mp h).1]; exact h
theorem Bg.put {b : Nat} {S : Sto} {x y : Int} (h : Bg b S) (hx : 0 ≤ x) (hy : 0 ≤ y) (hy2 : y < 2147483647) : Bg b (S.set b (.lst [.int x, .int y])) := by
  obtain ⟨⟨x0, y0, e, _⟩, c⟩ := h
  refine ⟨⟨x, y, get_set e, hx, hy, hy2⟩, fun o ho => ?_⟩
  rw [List.length_set]
  rcases List.mem_or_eq_of_mem_set ho with z | z
  · exact c o z
  · subst z; exact ⟨trivial, trivial, trivial⟩
theorem Bg.new {S : Sto} {x y : Int} (h : Clo S) (hx : 0 ≤ x) (hy : 0 ≤ y) (hy2 : y < 2147483647) : Bg S.length (S ++ [.lst [.int x, .int y]]) := ⟨⟨x, y, get_app, hx, hy, hy2⟩, h.app ⟨trivial, trivial, trivial⟩⟩
theorem Bg.app {b : Nat} {S : Sto} {o : Ob} (h : Bg b S) (l : LtO (S.length + 1) o) : Bg b (S ++ [o]) := by
  obtain ⟨⟨x, y, e, z⟩, c⟩ := h
  exact ⟨⟨x, y, get_old e, z⟩, c.app l⟩
/-- the draws go on beside another thing -/
theorem Bg.off {b : Nat} {S S2 : Sto} {o : Ob} (h : Bg b S) (st : St b (S ++ [o]) S2) (h2 : Bg b S2) : ∃ S1, S2 = S1 ++ [o] ∧ Bg b S1 ∧ St b S S1 := by
  have hb := h.lt
  have hl : S2.length = S.length + 1 := by rw [st.1, List.length_append]; rfl
  have e : S2 = S2.take S.length ++ [o] := by
    have e1 : S2[S.length]? = some o := by rw [st.2 _ (by omega)]; exact get_app
    obtain ⟨l1, e2⟩ := List.getElem?_eq_some_iff.mp e1
    have := List.take_append_getElem l1
    rw [e2] at this
    rw [this, List.take_of_length_le (by omega)]
  have l1 : (S2.take S.length).length = S.length := by rw [List.length_take]; omega
  refine ⟨S2.take S.length, e, ?_, l1, fun i n => ?_⟩
  · obtain ⟨⟨x, y, e1, z⟩, c⟩ := h2
    refine ⟨⟨x, y, by rw [List.getElem?_take, if_pos hb, e1], z⟩, fun u hu => ?_⟩
    rw [l1]
    obtain ⟨i, hi⟩ := List.mem_iff_getElem?.mp hu
    obtain ⟨hi, li⟩ := take_get hi
    by_cases eb : i = b
    · subst eb
      rw [e1] at hi
      cases hi
      exact ⟨trivial, trivial, trivial⟩
    · rw [st.2 _ eb, List.getElem?_append_left li] at hi
      exact h.2 u (List.mem_of_getElem? hi)
  · by_cases li : i < S.length
    · rw [List.getElem?_take, if_pos li, st.2 _ n, List.getElem?_append_left li]
    · rw [List.getElem?_take, if_neg li, List.getElem?_eq_none_iff.mpr (by omega)]
theorem take_app {S : Sto} {o : Ob} : (S ++ [o]).take S.length = S := by rw [List.take_left]
theorem st_take {b : Nat} {S S1 : Sto} {o : Ob} (st : St b S S1) : (S1 ++ [o]).take S.length = S1 := by rw [← st.1, List.take_left]
theorem Clo.cl {b : Nat} {S S1 : Sto} {o : Ob} (st : St b S S1) (h : Clo S1) : Cl S.length (S1 ++ [o]) := fun u hu => by
  rw [st_take st] at hu
  rw [← st.1]
  exact h u hu
theorem at_nat {xs : List PV} {k : Nat} (h : k < xs.length) : atI xs (k : Int) = xs[k]? := by
  unfold atI ixN
  rw [if_pos (by omega), if_pos (by omega)]
  rfl
theorem at_int {xs : List PV} {k : Int} (h0 : 0 ≤ k) (h : k.toNat < xs.length) : atI xs k = xs[k.toNat]? := by
  unfold atI ixN
  rw [if_pos (by omega), if_pos (by omega)]
  rfl
theorem at0 {x : PV} {xs : List PV} : atI (x :: xs) 0 = some x := at_int (k := 0) (by decide) (by show 0 < xs.length + 1; omega)
theorem at1 {x y : PV} {xs : List PV} : atI (x :: y :: xs) 1 = some y := at_int (k := 1) (by decide) (by show 1 < xs.length + 1 + 1; omega)
theorem at2 {x y z : PV} {xs : List PV} : atI (x :: y :: z :: xs) 2 = some z := at_int (k := 2) (by decide) (by show 2 < xs.length + 1 + 1 + 1; omega)
theorem at3 {x y z w : PV} {xs : List PV} : atI (x :: y :: z :: w :: xs) 3 = some w := at_int (k := 3) (by decide) (by show 3 < xs.length + 1 + 1 + 1 + 1; omega)
theorem ix20 : ixN 2 0 = some 0 := rfl
theorem ix21 : ixN 2 1 = some 1 := rfl
theorem ix_tup {xs : List PV} {k : Int} : ixP S (.tup xs) (.int k) = atI xs k := rfl
theorem ix_fl {xs : List PV} {k : Int} : ixP S (.fl xs) (.int k) = atI xs k := rfl
theorem ix_ro {xs : List PV} {k : Int} : ixP S (.ro xs) (.int k) = atI xs k := rfl
theorem ix_lst {i : Nat} {xs : List PV} {k : Int} (h : S[i]? = some (.lst xs)) : ixP S (.ref i) (.int k) = atI xs k := by
  unfold ixP dicS seqS
  simp only [h]
  rfl
theorem ix_dic {i : Nat} {kvs : List (Key × PV)} {y : PV} (h : S[i]? = some (.dic kvs)) : ixP S (.ref i) y = (keyP y).bind (getK kvs) := by
  unfold ixP dicS
  simp only [h]
theorem set_lst {i : Nat} {xs : List PV} {k : Int} {v : PV} (h : S[i]? = some (.lst xs)) : setS S (.ref i) (.int k) v = (ixN xs.length k).map fun j => S.set i (.lst (xs.set j v)) := by
  unfold setS
  simp only [h]
theorem set_dic {i : Nat} {kvs : List (Key × PV)} {y v : PV} (h : S[i]? = some (.dic kvs)) : setS S (.ref i) y v = (keyP y).bind fun k => if kvs.length < 100000 then some (S.set i (.dic (putKp kvs k v))) else none := by
  unfold setS
  simp only [h]
theorem pow_18 : powP S (.int 10) (.int 18) = some (.int 1000000000000000000) := rfl
theorem key_int {i : Int} : keyP (.int i) = some (.inl i) := rfl
theorem one_f {α : Type} {g : Sto → PV → Option α} {x : PV} : oneF g S [x] = g S x := rfl
theorem two_f {α : Type} {g : Sto → PV → PV → Option α} {x y : PV} : twoF g S [x, y] = g S x y := rfl
theorem len_tup {xs : List PV} : lenG S (.tup xs) = some (.int (xs.length : Nat)) := rfl
theorem len_fl {xs : List PV} : lenG S (.fl xs) = some (.int (xs.length : Nat)) := rfl
theorem len_ro {xs : List PV} : lenG S (.ro xs) = some (.int (xs.length : Nat)) := rfl
theorem len_lst {i : Nat} {xs : List PV} (h : S[i]? = some (.lst xs)) : lenG S (.ref i) = some (.int (xs.length : Nat)) := by
  unfold lenG sizeS seqS
  simp only [h]
theorem abs_int {i : Int} : absG S (.int i) = some (.int (if i < 0 then -i else i)) := rfl
theorem it_tup {xs : List PV} : itS S (.tup xs) = some (fun _ => True, xs) := rfl
theorem it_fl {xs : List PV} : itS S (.fl xs) = some (fun _ => True, xs) := rfl
theorem it_ro {xs : List PV} : itS S (.ro xs) = some (fun _ => True, xs) := rfl
theorem sl_tup {xs : List PV} {lo hi : Option Int} : slP S (.tup xs) lo hi = some (.tup (cutP xs lo hi)) := rfl
theorem sl_fl {xs : List PV} {lo hi : Option Int} : slP S (.fl xs) lo hi = some (.fl (cutP xs lo hi)) := rfl
theorem b1 {i : Nat} {x : PV} {env : En} {Q : En → Prop} : wO (bN1 i x env) Q = Q (env.set i (some x)) := rfl
theorem b2 {i j : Nat} {p : PV × PV} {env : En} {Q : En → Prop} : wO (bPr i j p env) Q = Q ((env.set i (some p.1)).set j (some p.2)) := rfl
theorem wipe_nil {env : En} : wipeP env [] = env := rfl
theorem wipe_cons {env : En} {v : Nat} {vs : List Nat} : wipeP env (v :: vs) = (wipeP env vs).set v none := rfl
theorem yes_t {Q : Bool → Sto → Prop} {X : WXE} : wE (yesT env S) Q X = Q true S := w_ok
theorem ite_w {p : Prop} [Decidable p] {A B : Prop} (h : p → A) (k : ¬ p → B) : if p then A else B := by split; exact h (by assumption); exact k (by assumption)
theorem lsq_lst {i : Nat} {xs : List PV} (h : S[i]? = some (.lst xs)) : lsqS S (.ref i) = some xs := by
  unfold lsqS
  simp only [h]
theorem dic_dic {i : Nat} {kvs : List (Key × PV)} (h : S[i]? = some (.dic kvs)) : dicS S (.ref i) = some kvs := by
  unfold dicS
  simp only [h]
end
end Pv

/-! Walks over encoded lists; encoded tables, entries, logs. -/
namespace Pv
open PySem PySem.Spec PyProof.Rows L2 Tc
section
variable {α β ι κ : Type} {X : WXE} {P : Po} {env : En} {S : Sto} {t : ME Bool}
/-- a comprehension that changes nothing -/
theorem lcP {C : Sto → Prop} {bd : ι → En → Option En} {e : ME PV} {Q : List PV → Sto → Prop} (g : κ → ι) (tv : κ → Bool) (ev : κ → PV) (hC : C S) : ∀ {ks : List κ} {acc : List PV}, acc.length + ks.length ≤ 100000 →
    (∀ x ∈ ks, wO (bd (g x) env) fun env1 => wE (t env1 S) (fun b S' => b = tv x ∧ S' = S) never ∧ (tv x = true → wE (e env1 S) (fun y S' => y = ev x ∧ S' = S) never)) → Q (acc ++ (ks.filter tv).map ev) S → wE (lcI C bd t e env (ks.map g) acc S) Q X
  | [], acc, _, _, q => by
    rw [List.filter_nil, List.map_nil, List.append_nil] at q
    rw [List.map_nil]
    unfold lcI
    rw [if_pos hC, w_ok]
    exact q
  | x :: ks, acc, hl, h, q => by
    have st := h x List.mem_cons_self
    rw [List.length_cons] at hl
    rw [List.map_cons]
    unfold lcI
    rw [if_pos hC]
    revert st
    cases bd (g x) env with
    | none => exact fun h => h.elim
    | some env1 =>
      show _ ∧ _ → wE ((noEx (t env1 S)).bind _) Q X
      rw [w_bind, w_noEx]
      intro h1
      refine w_impN h1.1 fun b S1 h2 => ?_
      rw [h2.1, h2.2]
      cases ht : tv x with
      | true =>
        show wE ((noEx (e env1 S)).bind _) Q X
        rw [w_bind, w_noEx]
        refine w_impN (h1.2 ht) fun y S2 h3 => ?_
        rw [h3.1, h3.2]
        rw [if_pos (by omega)]
        refine lcP g tv ev hC (by rw [List.length_append, List.length_singleton]; omega) (fun y hy => h y (List.mem_cons_of_mem _ hy)) ?_
        rw [List.filter_cons_of_pos ht, List.map_cons] at q
        rw [List.append_assoc]
        exact q
      | false =>
        show wE (lcI C bd t e env (ks.map g) acc S) Q X
        refine lcP g tv ev hC (by omega) (fun y hy => h y (List.mem_cons_of_mem _ hy)) ?_
        rw [List.filter_cons_of_neg (by rw [ht]; decide)] at q
        exact q
/-- a comprehension, what is known when so many are done -/
theorem lcI_w {C : Sto → Prop} {bd : ι → En → Option En} {e : ME PV} {Q : List PV → Sto → Prop} (g : κ → ι) (I : List κ → List PV → Sto → Prop) {ks : List κ} (hC : ∀ i acc S, I i acc S → C S) (h0 : I [] [] S)
    (step : ∀ pre x post acc S, ks = pre ++ x :: post → I pre acc S → wO (bd (g x) env) fun env1 => wE (t env1 S) (fun b S => if b = true then wE (e env1 S) (fun y S => acc.length < 100000 ∧ I (pre ++ [x]) (acc ++ [y]) S) never else I (pre ++ [x]) acc S) never)
    (fin : ∀ acc S, I ks acc S → Q acc S) : wE (lcI C bd t e env (ks.map g) [] S) Q X := by
  have gen : ∀ (i : Nat) (x : ι), (ks.map g)[i]? = some x → ∃ k, ks = ks.take i ++ k :: ks.drop (i + 1) ∧ x = g k ∧ ks.take (i + 1) = ks.take i ++ [k] := fun i x hx => by
    rw [List.getElem?_map] at hx
    cases hk : ks[i]? with
    | none => rw [hk] at hx; cases hx
    | some k =>
      rw [hk] at hx
      cases hx
      obtain ⟨hi, e⟩ := List.getElem?_eq_some_iff.mp hk
      have e1 : ks.take (i + 1) = ks.take i ++ [k] := by rw [List.take_succ, hk]; rfl
      refine ⟨k, ?_, rfl, e1⟩
      have : ks = ks.take (i + 1) ++ ks.drop (i + 1) := (List.take_append_drop _ _).symm
      rw [e1, List.append_assoc] at this
      exact this
  refine wLc (fun k acc S => I (ks.take k) acc S) 0 h0 (fun i acc S h => hC _ acc S h) (fun i x acc S hx h => ?_) fun acc S h => fin acc S (by rw [Nat.zero_add, List.length_map, List.take_length] at h; exact h)
  obtain ⟨k, e1, rfl, e2⟩ := gen i x hx
  rw [Nat.zero_add] at h ⊢
  have := step _ k _ acc S e1 h
  rw [e2]
  exact this
/-- a loop, what is known when so many are done -/
theorem forI_w {C : Sto → Prop} {gt : ι → En → Sto → Option (En × Sto)} {bd : MS} (g : κ → ι) (I : List κ → En → Sto → Prop) {ks : List κ} (hC : ∀ i env S, I i env S → C S) (h0 : I [] env S)
    (step : ∀ pre x post env S, ks = pre ++ x :: post → I pre env S → wO (gt (g x) env S) fun p => wS (bd p.1 p.2) ⟨I (pre ++ [x]), P.R, P.N, I (pre ++ [x]), P.X⟩)
    (fin : ∀ env S, I ks env S → P.N env S) : wS (forI C gt bd (ks.map g) env S) P := by
  refine wFor (fun k env S => I (ks.take k) env S) 0 h0 (fun i acc S h => hC _ acc S h) (fun i x acc S hx h => ?_) fun acc S h => fin acc S (by rw [Nat.zero_add, List.length_map, List.take_length] at h; exact h)
  rw [List.getElem?_map] at hx
  cases hk : ks[i]? with
  | none => rw [hk] at hx; cases hx
  | some k =>
    rw [hk] at hx
    cases hx
    have e2 : ks.take (i + 1) = ks.take i ++ [k] := by rw [List.take_succ, hk]; rfl
    have e1 : ks = ks.take i ++ k :: ks.drop (i + 1) := by
      have : ks = ks.take (i + 1) ++ ks.drop (i + 1) := (List.take_append_drop _ _).symm
      rw [e2, List.append_assoc] at this
      exact this
    rw [Nat.zero_add] at h ⊢
    have := step _ k _ acc S e1 h
    rw [e2]
    exact this
theorem lcM {C : Sto → Prop} {bd : ι → En → Option En} {e : ME PV} {Q : List PV → Sto → Prop} (g : κ → ι) (ev : κ → PV) {ks : List κ} (hC : C S) (hl : ks.length ≤ 100000)
    (h : ∀ x ∈ ks, wO (bd (g x) env) fun env1 => wE (e env1 S) (fun y S' => y = ev x ∧ S' = S) never) (q : Q (ks.map ev) S) : wE (lcI C bd yesT e env (ks.map g) [] S) Q X :=
  lcP g (fun _ => true) ev hC (by simpa using hl) (fun x hx => by
    have := h x hx
    revert this
    cases bd (g x) env with
    | none => exact id
    | some env1 => exact fun h => ⟨⟨rfl, rfl⟩, fun _ => h⟩) (by rw [List.nil_append, List.filter_eq_self.mpr fun _ _ => rfl]; exact q)
theorem lcI_m {C : Sto → Prop} {bd : ι → En → Option En} {e : ME PV} {Q : List PV → Sto → Prop} (g : κ → ι) (I : List κ → List PV → Sto → Prop) {ks : List κ} (hC : ∀ i acc S, I i acc S → C S) (h0 : I [] [] S)
    (step : ∀ pre x post acc S, ks = pre ++ x :: post → I pre acc S → wO (bd (g x) env) fun env1 => wE (e env1 S) (fun y S => acc.length < 100000 ∧ I (pre ++ [x]) (acc ++ [y]) S) never)
    (fin : ∀ acc S, I ks acc S → Q acc S) : wE (lcI C bd yesT e env (ks.map g) [] S) Q X :=
  lcI_w g I hC h0 (fun pre x post acc S e h => by
    have := step pre x post acc S e h
    revert this
    cases bd (g x) env with
    | none => exact id
    | some env1 =>
      intro h
      rw [o_some, yes_t, if_pos rfl]
      exact h) fin
/-- range -/
def iP (n : Nat) : PV := .int (n : Int)
theorem rng0 {n : Nat} : rngL 0 n = (List.range n).map iP := by
  unfold rngL
  exact List.map_congr_left fun k _ => by show PV.int (0 + (k : Nat)) = .int (k : Nat); rw [Int.zero_add]
end
theorem dedI_len : ∀ {l : List Int}, (dedI l).length ≤ l.length
  | [] => Nat.le_refl _
  | x :: l => by
    have ih := dedI_len (l := l)
    unfold dedI
    split
    · rw [List.length_cons]; omega
    · rw [List.length_cons, List.length_cons]; omega
theorem sortU_len {l : List Int} : (sortU l).length ≤ l.length := by
  unfold sortU sortI
  rw [List.length_mergeSort]
  exact dedI_len
/-! ### encodings -/
def rowP (r : Rw) : PV := .tup [.int r.1, .int r.2]
def tabP (rows : List Rw) : PV := .tup (rows.map rowP)
def chP : Ch → PV
  | .drop k => .tup [.str "drop", .int k]
  | .put k w => .tup [.str "put", .int k, .int w]
def chsP (cs : List Ch) : PV := .tup (cs.map chP)
def entP : Ent → PV
  | .group cs => .tup [.str "group", chsP cs]
  | .mark lo l n => .tup [.str (mkS lo), .int l, .int n]
def logP (es : List Ent) : PV := .fl (es.map entP)
theorem lt_row {n : Nat} (r : Rw) : LtP n (rowP r) := ⟨trivial, trivial, trivial⟩
theorem lt_map {α : Type} {n : Nat} {f : α → PV} (h : ∀ a, LtP n (f a)) {xs : List α} : LtPs n (xs.map f) := ltPs_of fun x hx => by
  obtain ⟨a, _, rfl⟩ := List.mem_map.mp hx
  exact h a
theorem lt_tab {n : Nat} (rows : List Rw) : LtP n (tabP rows) := lt_map (n := n) (f := rowP) lt_row
theorem lt_ch {n : Nat} (c : Ch) : LtP n (chP c) := by
  cases c
  · exact ⟨trivial, trivial, trivial⟩
  · exact ⟨trivial, trivial, trivial, trivial⟩
theorem lt_chs {n : Nat} (cs : List Ch) : LtP n (chsP cs) := lt_map (n := n) (f := chP) lt_ch
theorem tup_g {S : Sto} {x : PV} : tupG S x = (seqS S x).map .tup := by
  unfold tupG
  split
  · rfl
  · rename_i h
    cases x with
    | tup ys => exact absurd rfl (h ys)
    | _ => rfl
theorem seq_fl {S : Sto} {xs : List PV} : seqS S (.fl xs) = some xs := rfl
theorem seq_tup {S : Sto} {xs : List PV} : seqS S (.tup xs) = some xs := rfl
theorem lsq_fl {S : Sto} {xs : List PV} : lsqS S (.fl xs) = some xs := rfl
theorem lsq_ro {S : Sto} {xs : List PV} : lsqS S (.ro xs) = some xs := rfl
theorem seq_lst {S : Sto} {i : Nat} {xs : List PV} (h : S[i]? = some (.lst xs)) : seqS S (.ref i) = some xs := by
  unfold seqS
  simp only [h]
end Pv

/-! Dicts of ints. -/
namespace Pv
open PySem PySem.Spec PyProof.Rows L2 Tc
def kvP (M : List Rw) : List (Key × PV) := M.map fun r => (Sum.inl r.1, PV.int r.2)
theorem kvp_any (M : List Rw) (k : Int) : ((kvP M).any fun kv => decide (kv.1 = Sum.inl k)) = M.any fun r => decide (r.1 = k) := by
  unfold kvP
  rw [List.any_map]
  congr 1
  funext r
  exact decide_eq_decide.mpr ⟨fun h => Sum.inl.inj h, fun h => congrArg _ h⟩
theorem put_kvp (M : List Rw) (k w : Int) : putKp (kvP M) (Sum.inl k) (.int w) = kvP (putM M k w) := by
  unfold putKp putM
  rw [kvp_any]
  split
  · unfold kvP
    rw [List.map_map, List.map_map]
    refine List.map_congr_left fun r _ => ?_
    by_cases h : r.1 = k
    · subst h
      simp only [Function.comp, if_true]
    · simp only [Function.comp, if_neg h, Sum.inl.injEq]
  · unfold kvP
    rw [List.map_append]; rfl
theorem drop_kvp (M : List Rw) (k : Int) : dropKp (kvP M) (Sum.inl k) = kvP (dropM M k) := by
  unfold dropKp dropM kvP
  rw [List.filter_map]
  congr 1
  refine List.filter_congr fun r _ => ?_
  exact decide_eq_decide.mpr ⟨fun h z => h (congrArg _ z), fun h z => h (Sum.inl.inj z)⟩
theorem get_kvp (M : List Rw) (k : Int) : getK (kvP M) (Sum.inl k) = (getM M k).map PV.int := by
  unfold getK getM kvP
  rw [List.find?_map, Option.map_map, Option.map_map]
  congr 1
  congr 1
  funext r
  exact decide_eq_decide.mpr ⟨fun h => Sum.inl.inj h, fun h => congrArg _ h⟩
theorem get_none {M : List Rw} {k : Int} (h : getM M k = none) : dropM M k = M := by
  unfold getM at h
  rw [Option.map_eq_none_iff, List.find?_eq_none] at h
  exact List.filter_eq_self.mpr fun r hr => decide_eq_true fun z => h r hr (decide_eq_true z)
theorem keys_kvp (M : List Rw) : mapO keyI (kvP M) = some (M.map (·.1)) := mapO_map (f := keyI) (g := fun r : Rw => ((Sum.inl r.1 : Key), PV.int r.2)) (h := fun r => r.1) fun _ _ => rfl
theorem pairs_kvp (rows : List Rw) : mapO pairP (rows.map rowP) = some (kvP rows) := mapO_map (f := pairP) (g := rowP) (h := fun r : Rw => ((Sum.inl r.1 : Key), PV.int r.2)) fun _ _ => rfl
theorem merge_kvp (rows : List Rw) : mergeP [] (kvP rows) = kvP (normM rows) := by
  have key : ∀ (rows M : List Rw), mergeP (kvP M) (kvP rows) = kvP (rows.foldl (fun M r => putM M r.1 r.2) M) := by
    intro rows
    induction rows with
    | nil => intro M; rfl
    | cons r rows ih =>
      intro M
      show mergeP (putKp (kvP M) (Sum.inl r.1) (PV.int r.2)) (kvP rows) = _
      rw [put_kvp]
      exact ih _
  exact key rows []
theorem dict_tab {S : Sto} {rows : List Rw} : dictG S (tabP rows) = some (kvP (normM rows)) := by
  show (mapO pairP (rows.map rowP)).map (mergeP []) = _
  rw [pairs_kvp, Option.map_some, merge_kvp]
theorem sort_dic {S : Sto} {i : Nat} {M : List Rw} (h : S[i]? = some (.dic (kvP M))) : sortG S (.ref i) = some ((sortI (M.map (·.1))).map .int) := by
  unfold sortG lsqS dicS
  simp only [h]
  show ((some (kvP M)).bind (mapO keyI)).map _ = _
  rw [Option.bind_some, keys_kvp]
  rfl
theorem set_self {S : Sto} {i : Nat} {o : Ob} (h : S[i]? = some o) : S.set i o = S := by
  obtain ⟨hi, rfl⟩ := List.getElem?_eq_some_iff.mp h
  exact List.set_getElem_self hi
theorem dp_ne : (("drop" : Str) = ("put" : Str)) = False := eq_false (by decide)
theorem lg_ne {b : Bool} : (mkS b = ("group" : Str)) = False := eq_false (by cases b <;> decide)
theorem set_app {S : Sto} {o u : Ob} : (S ++ [o]).set S.length u = S ++ [u] := by rw [List.set_append_right _ _ (Nat.le_refl _), Nat.sub_self]; rfl
theorem Clo.take {S : Sto} {o : Ob} (h : Clo S) : Cl S.length (S ++ [o]) := fun u hu => by rw [List.take_left] at hu; exact h u hu
theorem cut_take {α : Type} (xs : List α) (n : Nat) : cutP xs none (some (n : Int)) = xs.take n := by
  unfold cutP
  rw [HT.sIx_none, HT.sIx_nat, List.drop_zero, Nat.sub_zero]
  by_cases h : n ≤ xs.length
  · rw [Nat.min_eq_left h]
  · rw [Nat.min_eq_right (by omega), List.take_length, List.take_of_length_le (by omega)]
theorem cut_both {α : Type} (xs : List α) (n m : Nat) : cutP xs (some (n : Int)) (some (m : Int)) = (xs.take m).drop n := by
  unfold cutP
  rw [HT.sIx_nat, HT.sIx_nat, List.drop_take]
  by_cases h : m ≤ xs.length
  · rw [Nat.min_eq_left h]
    by_cases h2 : n ≤ xs.length
    · rw [Nat.min_eq_left h2]
    · rw [Nat.min_eq_right (by omega), List.drop_length, List.drop_of_length_le (by omega), List.take_nil, List.take_nil]
  · rw [Nat.min_eq_right (by omega : xs.length ≤ m)]
    by_cases h2 : n ≤ xs.length
    · rw [Nat.min_eq_left h2, List.take_of_length_le (by rw [List.length_drop]; omega), List.take_of_length_le (by rw [List.length_drop]; omega)]
    · rw [Nat.min_eq_right (by omega), List.drop_length, List.drop_of_length_le (by omega), List.take_nil, List.take_nil]
end Pv

/-! Equalities of rows, tables, ints; two things beside the store. -/
namespace Pv
open PySem PySem.Spec PyProof.Rows L2 Tc
section
variable {S : Sto} {a b u : Ob} {k : Nat}
theorem get_a1 : ((S ++ [a]) ++ [b])[S.length]? = some a := get_old get_app
theorem get_a2 : ((S ++ [a]) ++ [b])[S.length + 1]? = some b := by
  have := get_app (S := S ++ [a]) (o := b)
  rw [List.length_append, List.length_singleton] at this
  exact this
theorem set_a1 : ((S ++ [a]) ++ [b]).set S.length u = (S ++ [u]) ++ [b] := by
  rw [List.set_append_left _ _ (by rw [List.length_append, List.length_singleton]; omega), set_app]
theorem set_a2 : ((S ++ [a]) ++ [b]).set (S.length + 1) u = (S ++ [a]) ++ [u] := by
  have := set_app (S := S ++ [a]) (o := b) (u := u)
  rw [List.length_append, List.length_singleton] at this
  exact this
theorem take_a2 : ((S ++ [a]) ++ [b]).take S.length = S := by rw [List.append_assoc, List.take_left]
theorem len_a1 : (S ++ [a]).length = S.length + 1 := by rw [List.length_append]; rfl
theorem Clo.take2 (h : Clo S) : Cl S.length ((S ++ [a]) ++ [b]) := fun u hu => by rw [take_a2] at hu; exact h u hu
end
theorem min_int {S : Sto} {i j : Int} : min2 S (.int i) (.int j) = some (.int (if j < i then j else i)) := rfl
theorem w_defB {m : List PV → Sto → ER PV} {N : Nat} {bd : MS} {xs : List PV} {S : Sto} {Q : PV → Sto → Prop} {X : WXE} (e : m = runB N bd) (h : wS (bd (xs.map some ++ List.replicate (N - xs.length) none) S) ⟨fun _ S => Q .non S, Q, fun _ _ => False, fun _ _ => False, X⟩) : wE (m xs S) Q X := by
  subst e
  exact w_runB h
theorem w_defT {m : List PV → Sto → ER PV} {N : Nat} {bd : MS} {xs : List PV} {S : Sto} {Q : PV → Sto → Prop} {X : WXE} (e : m = runT N bd) (h : wS (bd (xs.map some ++ List.replicate (N - xs.length) none) S) ⟨fun _ S' => Cl S.length S' ∧ ((LtP S.length PV.non ∧ Q .non (S'.take S.length)) ∨ ∃ i ys, PV.non = .ref i ∧ S'[i]? = some (.lst ys) ∧ S.length ≤ i ∧ LtPs S.length ys ∧ Q (.fl ys) (S'.take S.length)), fun v S' => Cl S.length S' ∧ ((LtP S.length v ∧ Q v (S'.take S.length)) ∨ ∃ i ys, v = .ref i ∧ S'[i]? = some (.lst ys) ∧ S.length ≤ i ∧ LtPs S.length ys ∧ Q (.fl ys) (S'.take S.length)), fun _ _ => False, fun _ _ => False, fun e S' => Cl S.length S' ∧ LtP S.length e.v ∧ X e (S'.take S.length)⟩) : wE (m xs S) Q X := by
  subst e
  exact w_runT (w_runB h)
theorem w_runBE {N : Nat} {bd : MS} {xs : List PV} {S : Sto} {Q : PV → Sto → Prop} {X : WXE} : wE (runB N bd xs S) Q X = wS (bd (xs.map some ++ List.replicate (N - xs.length) none) S) ⟨fun _ S => Q .non S, Q, fun _ _ => False, fun _ _ => False, X⟩ := by
  simp only [wE_eq, wS_eq]
  unfold runB
  cases bd (xs.map some ++ List.replicate (N - xs.length) none) S <;> rfl
theorem w_startD {m : List PV → Sto → ER PV} {N : Nat} {bd : MS} {xs : List PV} {S : Sto} {Q : PV → Sto → Prop} {X : WXE} (e : m = runT N bd) (h : wE (runB N bd xs S) (fun v S' => ∃ i kvs, v = .ref i ∧ S'[i]? = some (.dic kvs) ∧ S.length ≤ i ∧ Q v S') never) : wE (m xs S) Q X := by
  subst e
  simp only [wE_eq] at h ⊢
  unfold runT
  revert h
  cases runB N bd xs S with
  | ok v S' =>
    rintro ⟨i, kvs, rfl, e, hi, q⟩
    rcases trim_cases S.length (.ref i) S' with z | ⟨l, _, _⟩ | ⟨j, ys, ej, e2, _⟩
    · rw [z]; exact q
    · exact absurd (show i < S.length from l) (by omega)
    · cases ej
      rw [e] at e2
      cases e2
  | ex e S' => exact fun h => h.elim
  | err => exact id
end Pv

/-! sorted, of known values; a law by its mirror. -/
namespace Pv
open PySem PySem.Spec PyProof.Rows L2 Tc
theorem dict_tabA {S : Sto} {rows : List Rw} : dictA S (tabP rows) = some (kvP (normM rows)) := dict_tab (S := S)
theorem sort_dicA {S : Sto} {i : Nat} {M : List Rw} (h : S[i]? = some (.dic (kvP M))) : sortA S (.ref i) = some ((sortI (M.map (·.1))).map .int) := sort_dic h
/-- the law's def, where its mirror tells True of every script -/
theorem law_of {P : Program} {w : World} {K : PySem.W.Frag} {mg : Str → Option Value} {base : Heap} {k N : Nat} {f : Addr} {fd : FuncData} {b : MS}
    (F : FnOk P w K mg base CX0 k f fd ["script"] (fun vs H Q _ => ∃ W S xs, Wd ⟨K, mg, fun _ _ _ => False⟩ W S H ∧ RVs K W vs xs ∧ xs.length = 1 ∧ kR ⟨K, mg, fun _ _ _ => False⟩ (RV K) W Q (fun _ _ _ => False) (runB N b xs S)))
    (h : ∀ ns : List Int, ns.length ≤ 63 → wE (runB N b [.ro (ns.map .int)] []) (fun v _ => v = .bl true) never) : FnOk P w K mg base CX0 k f fd ["script"] (Tc.spLaw K) :=
  F.imp fun vs H Q E ⟨a, ns, e1, hs, hl, q⟩ => by
    subst e1
    refine ⟨⟨H, [], fun _ => none⟩, [], [.ro (ns.map .int)], ⟨[], ⟨rfl, rfl, fun _ _ e => e, fun _ _ e => (by cases e), fun x h => absurd rfl h, fun i h x e => (by simp at e), fun i h e => (by simp at e), fun i h x e => (by simp at e), fun i j h k x e => (by simp at e), fun i o e => (by simp at e)⟩⟩, .cons (.ro hs (rvs_ints ns)) .nil, rfl, ?_⟩
    have hm := (h ns hl).h
    revert hm
    cases runB N b [.ro (ns.map .int)] [] with
    | ok v S =>
      intro e
      have e : v = .bl true := e
      subst e
      intro W' H' u l w' r
      cases r
      exact q H'
    | ex e S => exact fun h => h.elim
    | err => exact fun h => h.elim
end Pv

/-! Plain facts of readings and tables; enumerate. -/
namespace Pv
open PySem PySem.Spec PyProof.Rows L2 Tc
section
variable {ks : List Int} {rows : List Rw} {es : List Ent} {n m : Nat}
theorem at_ok (hr : ∀ r ∈ rows, r.1 ∈ ks ∧ 0 ≤ r.2 ∧ r.2 ≤ 999) (he : ∀ e ∈ es, Ent.In ks m e) : Tc.Mok ks (logM (normM rows) (es.take n)) := (Tc.Mok.norm hr).log (m := m) fun z hz => he z (List.mem_of_mem_take hz)
end
theorem w_iEnu {ms : ME (List PV)} {env : En} {S : Sto} {Q : Src (PV × PV) → Sto → Prop} {X : WXE} : wE (iEnu ms env S) Q X = wE (ms env S) (fun xs S => ∃ x ys, xs = [x] ∧ seqS S x = some ys ∧ Q (fun S => seqS S x = some ys, enumL ys) S) X := by
  unfold iEnu
  rw [w_bind]
  congr 1
  funext xs S
  cases xs with
  | nil => rw [w_err]; exact propext ⟨fun h => h.elim, fun ⟨x, ys, e, _⟩ => (by cases e)⟩
  | cons x r =>
    cases r with
    | nil =>
      show wE (match seqS S x with | some xs => ER.ok (fun S => seqS S x = some xs, enumL xs) S | _ => .err) Q X = _
      cases e : seqS S x with
      | none => rw [w_err]; exact propext ⟨fun h => h.elim, fun ⟨y, ys, e1, e2, _⟩ => (by cases e1; rw [e] at e2; cases e2)⟩
      | some ys => rw [w_ok]; exact propext ⟨fun h => ⟨x, ys, rfl, e, h⟩, fun ⟨y, zs, e1, e2, h⟩ => (by cases e1; rw [e] at e2; cases e2; exact h)⟩
    | cons _ _ => rw [w_err]; exact propext ⟨fun h => h.elim, fun ⟨x, ys, e, _⟩ => (by cases e)⟩
theorem tru_bl {S : Sto} {b : Bool} : truS S (.bl b) = some b := rfl
theorem notin_dic {S : Sto} {d : Nat} {k : Int} {kvs : List (Key × PV)} (h : S[d]? = some (.dic kvs)) : notinP S (.int k) (.ref d) = some (.bl (!(getK kvs (Sum.inl k)).isSome)) := by
  unfold notinP inB dicS
  simp only [h]
  rfl
end Pv

/-! Dicts that are used as sets of ints. -/
namespace Pv
open PySem PySem.Spec PyProof.Rows L2 Tc
def kbP (ks : List Int) : List (Key × PV) := ks.map fun k => (Sum.inl k, .bl true)
def addK (ks : List Int) (k : Int) : List Int := if k ∈ ks then ks else ks ++ [k]
theorem kbp_any {ks : List Int} {k : Int} : ((kbP ks).any fun kv => decide (kv.1 = Sum.inl k)) = decide (k ∈ ks) := by
  rw [Bool.eq_iff_iff, List.any_eq_true, decide_eq_true_eq]
  constructor
  · rintro ⟨p, hp, e⟩
    obtain ⟨j, hj, rfl⟩ := List.mem_map.mp hp
    rw [← Sum.inl.inj (of_decide_eq_true e)]
    exact hj
  · exact fun h => ⟨_, List.mem_map.mpr ⟨k, h, rfl⟩, decide_eq_true rfl⟩
theorem put_kbp {ks : List Int} {k : Int} : putKp (kbP ks) (Sum.inl k) (.bl true) = kbP (addK ks k) := by
  unfold putKp addK
  rw [kbp_any]
  by_cases h : k ∈ ks
  · rw [if_pos (decide_eq_true h), if_pos h]
    unfold kbP
    rw [List.map_map]
    refine List.map_congr_left fun j hj => ?_
    show (if (Sum.inl j : Key) = Sum.inl k then ((Sum.inl j : Key), PV.bl true) else (Sum.inl j, PV.bl true)) = _
    split <;> rfl
  · rw [if_neg (fun z => h (of_decide_eq_true z)), if_neg h]
    unfold kbP
    rw [List.map_append]; rfl
theorem addK_mem {ks : List Int} {k j : Int} : j ∈ addK ks k ↔ j ∈ ks ∨ j = k := by
  unfold addK
  split
  · rename_i h
    exact ⟨.inl, fun z => z.elim id fun e => e ▸ h⟩
  · rw [List.mem_append, List.mem_singleton]
theorem addK_nd {ks : List Int} {k : Int} (h : ks.Nodup) : (addK ks k).Nodup := by
  unfold addK
  split
  · exact h
  · rename_i n
    exact List.nodup_append.mpr ⟨h, List.pairwise_singleton _ _, fun a ha b hb e => by cases List.mem_singleton.mp hb; exact n (e ▸ ha)⟩
theorem get_kbp {ks : List Int} {k : Int} : (getK (kbP ks) (Sum.inl k)).isSome = decide (k ∈ ks) := by
  rw [← kbp_any]
  unfold getK
  rw [Option.isSome_map, Bool.eq_iff_iff, List.find?_isSome, List.any_eq_true]
theorem notin_kbp {S : Sto} {d : Nat} {k : Int} {ks : List Int} (h : S[d]? = some (.dic (kbP ks))) : notinP S (.int k) (.ref d) = some (.bl (!decide (k ∈ ks))) := by
  rw [notin_dic h, get_kbp]
theorem in_kbp {S : Sto} {d : Nat} {k : Int} {ks : List Int} (h : S[d]? = some (.dic (kbP ks))) : inP S (.int k) (.ref d) = some (.bl (decide (k ∈ ks))) := by
  unfold inP inB dicS
  simp only [h]
  show some (PV.bl (getK (kbP ks) (Sum.inl k)).isSome) = _
  rw [get_kbp]
theorem len_kbp {ks : List Int} : (kbP ks).length = ks.length := List.length_map _
theorem lt_kbp {n : Nat} {ks : List Int} : LtO n (.dic (kbP ks)) := fun p hp => by
  obtain ⟨k, _, rfl⟩ := List.mem_map.mp hp
  trivial
theorem nd_len {ks all : List Int} (h : ks.Nodup) (s : ∀ k ∈ ks, k ∈ all) : ks.length ≤ all.length := by
  have m : Tc.Mok all (ks.map fun k => (k, 0)) := ⟨by rw [List.map_map]; simpa [Function.comp_def] using h, fun r hr => by obtain ⟨k, hk, rfl⟩ := List.mem_map.mp hr; exact ⟨s k hk, Int.le_refl 0, by show (0 : Int) ≤ 999; decide⟩⟩
  have := m.len
  rw [List.length_map] at this
  exact this
/-- the keys that entries change, in the order in which they are first met -/
def chsK (ks : List Int) (cs : List Ch) : List Int := cs.foldl (fun ks c => addK ks c.key) ks
def movedK (es : List Ent) : List Int := es.foldl (fun ks e => chsK ks (chsOf e)) []
theorem chsK_mem {j : Int} : ∀ {cs : List Ch} {ks : List Int}, j ∈ chsK ks cs ↔ j ∈ ks ∨ ∃ c ∈ cs, Ch.key c = j
  | [], ks => ⟨.inl, fun h => h.elim id fun ⟨c, h, _⟩ => (by cases h)⟩
  | c :: cs, ks => by
    show j ∈ chsK (addK ks c.key) cs ↔ _
    rw [chsK_mem, addK_mem]
    constructor
    · rintro ((h | h) | ⟨d, hd, e⟩)
      · exact .inl h
      · exact .inr ⟨c, List.mem_cons_self, h.symm⟩
      · exact .inr ⟨d, List.mem_cons_of_mem _ hd, e⟩
    · rintro (h | ⟨d, hd, e⟩)
      · exact .inl (.inl h)
      · rcases List.mem_cons.mp hd with rfl | hd
        · exact .inl (.inr e.symm)
        · exact .inr ⟨d, hd, e⟩
theorem chsK_nd : ∀ {cs : List Ch} {ks : List Int}, ks.Nodup → (chsK ks cs).Nodup
  | [], _, h => h
  | c :: cs, _, h => chsK_nd (cs := cs) (addK_nd h)
theorem moved_fold {j : Int} : ∀ {es : List Ent} {ks : List Int}, j ∈ es.foldl (fun ks e => chsK ks (chsOf e)) ks ↔ j ∈ ks ∨ ∃ e ∈ es, ∃ c ∈ chsOf e, Ch.key c = j
  | [], ks => ⟨.inl, fun h => h.elim id fun ⟨c, h, _⟩ => (by cases h)⟩
  | e :: es, ks => by
    rw [List.foldl_cons, moved_fold, chsK_mem]
    constructor
    · rintro ((h | ⟨c, hc, q⟩) | ⟨d, hd, q⟩)
      · exact .inl h
      · exact .inr ⟨e, List.mem_cons_self, c, hc, q⟩
      · exact .inr ⟨d, List.mem_cons_of_mem _ hd, q⟩
    · rintro (h | ⟨d, hd, q⟩)
      · exact .inl (.inl h)
      · rcases List.mem_cons.mp hd with rfl | hd
        · exact .inl (.inr q)
        · exact .inr ⟨d, hd, q⟩
theorem movedK_mem {j : Int} {es : List Ent} : j ∈ movedK es ↔ ∃ e ∈ es, ∃ c ∈ chsOf e, Ch.key c = j := by
  unfold movedK
  rw [moved_fold]
  exact ⟨fun h => h.elim (fun z => by cases z) id, .inr⟩
theorem moved_nd2 : ∀ {es : List Ent} {ks : List Int}, ks.Nodup → (es.foldl (fun ks e => chsK ks (chsOf e)) ks).Nodup
  | [], _, h => h
  | e :: es, _, h => moved_nd2 (es := es) (chsK_nd h)
theorem movedK_nd {es : List Ent} : (movedK es).Nodup := moved_nd2 List.Pairwise.nil
theorem chIn_key {ks : List Int} {c : Ch} (h : c.In ks) : c.key ∈ ks := by
  cases c with
  | drop k => exact h
  | put k w => exact h.1
end Pv

/-! Stretches of keys. -/
namespace Pv
open PySem PySem.Spec PyProof.Rows L2 Tc
section
variable {S : Sto} {i : Nat}
end
end Pv

/-! Dicts made as sets of keys. -/
namespace Pv
open PySem PySem.Spec PyProof.Rows L2 Tc
def addAll (acc xs : List Int) : List Int := xs.foldl addK acc
section
variable {ι κ : Type} {X : WXE} {env : En} {S : Sto} {t : ME Bool} {ek ev : ME PV}
end
end Pv

/-! Plain: keys that entries change; a reading tells every row that stays. -/
namespace Pv
open PySem PySem.Spec PyProof.Rows L2 Tc
end Pv

/-! Plain: what a piece tells of a key that no entry changes. -/
namespace Pv
open PySem PySem.Spec PyProof.Rows L2 Tc
end Pv

/-! What is wanted of what raises, of a try. -/
namespace Pv
open PySem PySem.Spec PyProof.Rows L2 Tc
/-- as wS, what is raised with the names as they stand -/
def wSx (r : SR) (P : Po) (Y : Ex → En → Sto → Prop) : Prop := match r with
  | .ex e env S => Y e env S
  | r => wS r P
section
variable {α : Type} {P : Po} {Y : Ex → En → Sto → Prop} {env : En} {S : Sto} {m : ME PV} {t : ME Bool} {s1 s2 : MS} {i : Nat} {X : WXE} {c f : Str}
theorem wx_nx : wSx (.nx env S) P Y = P.N env S := by show wS _ _ = _; rw [wS_eq]; rfl
theorem wx_rt {v : PV} : wSx (.rt v S) P Y = P.R v S := by show wS _ _ = _; rw [wS_eq]; rfl
theorem wx_then {r : ER α} {g : α → Sto → SR} : wSx (r.then env g) P Y = wE r (fun a S => wSx (g a S) P Y) fun e S => Y e env S := by
  cases r with
  | ok a S1 => rw [wE_eq]; rfl
  | ex e S1 => rw [wE_eq]; rfl
  | err => rw [wE_eq]; show wS _ _ = _; rw [wS_eq]; rfl
theorem wx_sNil : wSx (sNil env S) P Y = P.N env S := wx_nx
theorem wx_sSeq : wSx (sSeq s1 s2 env S) P Y = wSx (s1 env S) { P with N := fun env S => wSx (s2 env S) P Y } Y := by
  unfold sSeq
  cases s1 env S with
  | nx env1 S1 =>
    refine Eq.trans ?_ wx_nx.symm
    rfl
  | rt v S1 =>
    show wSx (.rt v S1) P Y = wSx (.rt v S1) _ Y
    rw [wx_rt, wx_rt]
  | bk env1 S1 => show wS _ _ = wS _ _; rw [wS_eq, wS_eq]; rfl
  | ct env1 S1 => show wS _ _ = wS _ _; rw [wS_eq, wS_eq]; rfl
  | ex e1 env1 S1 => rfl
  | err => show wS _ _ = wS _ _; rw [wS_eq, wS_eq]; rfl
theorem wx_sSet : wSx (sSet i m env S) P Y = wE (m env S) (fun x S => P.N (env.set i (some x)) S) fun e S => Y e env S := by
  unfold sSet
  rw [wx_then]
  simp only [wx_nx]
theorem wx_sExpr : wSx (sExpr m env S) P Y = wE (m env S) (fun _ S => P.N env S) fun e S => Y e env S := by
  unfold sExpr
  rw [wx_then]
  simp only [wx_nx]
theorem wx_sRet : wSx (sRet m env S) P Y = wE (m env S) P.R fun e S => Y e env S := by
  unfold sRet
  rw [wx_then]
  simp only [wx_rt]
theorem wx_sIf : wSx (sIf t s1 s2 env S) P Y = wE (t env S) (fun b S => if b = true then wSx (s1 env S) P Y else wSx (s2 env S) P Y) fun e S => Y e env S := by
  unfold sIf
  rw [wx_then]
  congr 1
  funext b S1
  cases b <;> rfl
/-- what is wanted of the suite -/
def wTry (i : Nat) (o : Option Bool) (h : Ex → MS) (P : Po) (e : Ex) (env : En) (S : Sto) : Prop := match o with
  | some true => wO env[i]? fun _ => wS (h e (env.set i none) S) ⟨fun env S => P.N (env.set i none) S, P.R, fun _ _ => False, fun _ _ => False, fun _ _ => False⟩
  | some false => P.X e S
  | none => False
theorem wTry_t {h : Ex → MS} {e : Ex} : wTry i (some true) h P e env S = wO env[i]? fun _ => wS (h e (env.set i none) S) ⟨fun env S => P.N (env.set i none) S, P.R, fun _ _ => False, fun _ _ => False, fun _ _ => False⟩ := rfl
theorem wTry_f {h : Ex → MS} {e : Ex} : wTry i (some false) h P e env S = P.X e S := rfl
theorem w_sTry {tab : Str → Option Bool} {b : MS} {h : Ex → MS} : wS (sTry i tab b h env S) P = wSx (b env S) P fun e env S => wTry i (tab e.c) h P e env S := by
  unfold sTry
  cases b env S with
  | nx env1 S1 => rfl
  | rt v S1 => rfl
  | bk env1 S1 => rfl
  | ct env1 S1 => rfl
  | err => rfl
  | ex e env1 S1 =>
    show wS (match tab e.c, env1[i]? with | some true, some _ => _ | some false, _ => _ | _, _ => _) P = wTry i (tab e.c) h P e env1 S1
    cases tab e.c with
    | none => rw [wS_eq]; rfl
    | some r =>
      cases r with
      | false => rw [wS_eq]; rfl
      | true =>
        rw [wTry_t]
        cases env1[i]? with
        | none => rw [wS_eq]; rfl
        | some o =>
          show wS (match h e (env1.set i none) S1 with | .nx env S => .nx (env.set i none) S | .rt v S => .rt v S | _ => .err) P = wS (h e (env1.set i none) S1) _
          cases h e (env1.set i none) S1 <;> (rw [wS_eq, wS_eq]; rfl)
theorem w_raiseF : wS (sRaise (eOex c f m) env S) P = wE (m env S) (fun x S => P.X ⟨c, f, x⟩ S) P.X := by
  unfold sRaise eOex
  cases m env S <;> (rw [wS_eq, wE_eq]; rfl)
theorem w_raiseO : wS (sRaise (eOwn c) env S) P = P.X ⟨c, "", .non⟩ S := by
  rw [wS_eq]; rfl
theorem w_fld {rows : List KRow} {ex : Ex} {Q : PV → Sto → Prop} : wE (eFld rows f ex env S) Q X = wO (kget rows ex.c) fun r => (r.f = f ∧ ex.f = f ∧ f ≠ "") ∧ Q ex.v S := by
  unfold eFld
  cases kget rows ex.c with
  | none => rw [wE_eq]; rfl
  | some r =>
    show wE (if r.f = f ∧ ex.f = f ∧ f ≠ "" then _ else _) Q X = (_ ∧ _)
    split
    · rename_i h
      rw [wE_eq]
      exact propext ⟨fun q => ⟨h, q⟩, fun q => q.2⟩
    · rename_i h
      rw [wE_eq]
      exact propext ⟨fun q => q.elim, fun q => absurd q.1 h⟩
theorem w_is {rows : List KRow} {ex : Ex} {j : Nat} {Q : PV → Sto → Prop} : wE (eIs rows j ex env S) Q X = wO (kis rows j ex.c) fun b => Q (.bl b) S := by
  unfold eIs
  cases kis rows j ex.c <;> (rw [wE_eq]; rfl)
theorem w_isT {rows : List KRow} {ex : Ex} {js : List Nat} {Q : PV → Sto → Prop} : wE (eIsT rows js ex env S) Q X = wO (kany rows ex.c js) fun b => Q (.bl b) S := by
  unfold eIsT
  cases kany rows ex.c js <;> (rw [wE_eq]; rfl)
end
section
variable {S : Sto} {Q : PV → Sto → Prop} {X : WXE} {env : En} {mo ma : ME PV}
end
end Pv

/-! Comprehensions with two fors, whatever they gather. -/
namespace Pv
open PySem PySem.Spec PyProof.Rows L2 Tc
section
variable {prog : Program} {w : World} {A : Around} {R : Result → Shared → Prop} {s : Shared} {env : Env}
/-- what an exception of a turn asks -/
abbrev noted (prog : Program) (w : World) (A : Around) (R : Result → Shared → Prop) (env : Env) : Value → Shared → Prop := notedBy (model prog w) A env fun e s' => R (.error e) s'
abbrev asks (ifs : List Expr) (env : Env) : Sem Bool := forIn ifs true fun c r => if r = true then do let ok ← isTrue c env (eval c env); pure (ForInStep.yield ok) else pure (ForInStep.yield r)
/-- a clause's loop, of any comprehension: body is what a turn does where the tests hold -/
theorem loopG {cx tg : Expr} {ifs : List Expr} {lvl : Nat} {it acc : Value} {p0 : Pos} {body : Sem Fin → Sem Fin} (un : A.under (.compLoop cx lvl it acc env) = A) (dn : (model prog w).den (.compLoop cx lvl it acc env) = (compTurn cx lvl it acc env).onRaise (fun x => do noteFrame x env; theTreesLotGoes x)) (eq : compTurn cx lvl it acc env = (do
      standAt p0
      match ← pyNext it with
      | none => pure (.done .next)
      | some v =>
        letOwnedTupleGo tg it v; assign tg env v
        let mut ok := true
        for c in ifs do
          if ok then ok ← isTrue c env (eval c env)
        if ok then body (again (.compLoop cx lvl it acc env)) else again (.compLoop cx lvl it acc env))) (I : Nat → Shared → Prop)
    (turn : ∀ n s, I n s → wpAny (model prog w) A (pyNext it) (fun r t => match r with
      | none => R (.ok .next) t
      | some v => wpAny (model prog w) A (letOwnedTupleGo tg it v) (fun _ t => wpAny (model prog w) A (assign tg env v) (fun _ t => wpAny (model prog w) A (asks ifs env) (fun ok t =>
            if ok = true then (∀ (k : Sem Fin) (Q : Fin → Shared → Prop) (Er : Value → Shared → Prop), (∀ e s', notedBy (model prog w) A env (fun e s' => R (.error e) s') e s' → Er e s') → (∀ m t, m < n → I m t → wpAny (model prog w) A k Q Er t) → wpAny (model prog w) A (body k) Q Er t) else ∃ m, m < n ∧ I m t) (noted prog w A R env) t) (noted prog w A R env) t) (noted prog w A R env) t) (noted prog w A R env) s)
    (n : Nat) (h : I n s) : codeAny (model prog w) A (.compLoop cx lvl it acc env) R s := by
  refine codeAny_loop rfl I (fun n s hI => ?_) n h
  rw [un, dn]
  refine wpAny_noted ?_
  rw [eq]
  refine wpAny_bind (wpAny_standAt (wpAny_bind (wpAny_mono (turn n s hI) (fun r t1 h1 => ?_) fun _ _ z => z)))
  cases r with
  | none => exact wpAny_pure h1
  | some v =>
    refine wpAny_bind (wpAny_mono h1 (fun _ t2 h2 => wpAny_bind (wpAny_mono h2 (fun _ t3 h3 => wpAny_bind (wpAny_mono h3 (fun ok t4 h4 => ?_) fun _ _ z => z)) fun _ _ z => z)) fun _ _ z => z)
    cases ok with
    | false => exact wpAny_pure ⟨rfl, h4⟩
    | true => exact h4 _ _ _ (fun _ _ z => z) fun m t lt q => wpAny_pure ⟨rfl, m, lt, q⟩
/-- the body of the outer clause: the inner one is gone through -/
abbrev inner (cx i1 : Expr) (acc : Value) (env : Env) (k : Sem Fin) : Sem Fin := do
  let x ← eval i1 env
  standAt i1.pos
  let x ← foldedSetIterable i1 env x
  let _ ← runOwn (.compStart cx 1 (← holding [x] (pyIter x)) acc env) env
  k
theorem inner_ok {cx i1 : Expr} {acc : Value} {k : Sem Fin} {Q : Fin → Shared → Prop} {Er : Value → Shared → Prop} {J : Shared → Prop} (hs : ∀ x, foldedSetIterable i1 env x = pure x)
    (h : wpAny (model prog w) A (eval i1 env) (fun x t => wpAny (model prog w) A (pyIter x) (fun it1 t => codeAny (model prog w) A (.compStart cx 1 it1 acc env) (fun r t => match r with
      | .ok _ => J t
      | .error _ => False) t) Er t) Er s) (hk : ∀ t, J t → wpAny (model prog w) A k Q Er t) : wpAny (model prog w) A (inner cx i1 acc env k) Q Er s := by
  refine wpAny_bind (wpAny_mono h (fun x t1 h1 => ?_) fun _ _ z => z)
  refine wpAny_bind (wpAny_standAt (wpAny_bind (wpAny_of_eq (hs x) (wpAny_bind (wpAny_holding (wpAny_mono h1 (fun it1 t2 h2 => ?_) fun _ _ z => z))))))
  refine wpAny_bind (wpAny_runOwn ?_)
  rw [Around.mark_none]
  refine codeAny_mono h2 fun r t3 hr => ?_
  cases r with
  | ok f => exact hk _ hr
  | error e => exact hr.elim
end
section
variable {X : Cx}
/-- what a turn of the inner clause does with its element: ts from the slots, the heap and where it is gathered -/
abbrev TAdd := L2.St → Hp → Addr → (Hp → Prop) → Prop
structure PAdd (X : Cx) (add : Value → Env → Sem Unit) (ts : TAdd) : Prop where
  run : ∀ (D : Addr) (pins : List (Addr × Obj)) (s : Shared) (σ : L2.St) (H : Hp) (Nx : Hp → Prop), Inv X pins σ H s → ts σ H D Nx → wpAny (model X.prog X.w) X.A (add (.ref D) X.env) (fun _ s' => ∃ H', Inv X pins σ H' s' ∧ Nx H') X.xe s
/-- .. for .. in .. if .. for .. in .. if ..: o0 D what stands at D ahead of all -/
def tC2 (o0 : Addr → HO) (wi : TI) (g : TG) (tt : TT) (wi1 : TI) (g1 : TG) (tt1 : TT) (ts : TAdd) (vs vs1 : List Nat) : TE := fun σ H Q => wi σ H fun J H1 => ∀ D, H1 D = none → ∃ W : Nat → Nat → Hp → Prop, (∃ m, W 0 m (upd H1 D (o0 D))) ∧ ∀ i m H, W i m H →
  (J.stop i H ∧ Q (.ref D) H) ∨ (J.go i H ∧ ∃ Nx : Hp → Prop, (∀ H', Nx H' → ∃ m', m' < m ∧ W (i + 1) m' H') ∧ ∀ x H', J.yld i H x H' → g x (wipe σ vs) H' fun σ2 H2 => wipe σ2 vs = wipe σ vs ∧ tt σ2 H2 fun b H3 =>
    if b = true then wi1 σ2 H3 fun J1 H4 => ∃ W1 : Nat → Nat → Hp → Prop, (∃ m, W1 0 m H4) ∧ ∀ j k H, W1 j k H →
      (J1.stop j H ∧ Nx H) ∨ (J1.go j H ∧ ∃ Nx1 : Hp → Prop, (∀ H', Nx1 H' → ∃ k', k' < k ∧ W1 (j + 1) k' H') ∧ ∀ x H', J1.yld j H x H' → g1 x (wipe σ2 vs1) H' fun σ3 H5 => wipe σ3 vs1 = wipe σ2 vs1 ∧ tt1 σ3 H5 fun b H6 => if b = true then ts σ3 H6 D Nx1 else Nx1 H6)
    else Nx H3)
theorem c2_core {cx tg iter tg1 iter1 : Expr} {ifs ifs1 : List Expr} {scope : Scope} {own : List (Str × Nat)} {vs1 : List Nat} {pos' p0 p1 : Pos} {wi wi1 : TI} {g g1 : TG} {tt tt1 : TT} {ts : TAdd} {mk : Sem Value} {O0 : Obj} {o0 : Addr → HO} {add : Value → Env → Sem Unit} {gg : Comprehension} {gs : List Comprehension}
    {pins : List (Addr × Obj)} {s : Shared} {σ : L2.St} {H : Hp} {Q : VK} {use : Option (Value → Sem Unit)} {Qf : Value → Shared → Prop} (hcl : clausesOf cx = gg :: gs) (hgi : gg.iter = iter)
    (e0 : ∀ (D : Addr) it env, compTurn cx 0 it (.ref D) env = (do
      standAt p0
      match ← pyNext it with
      | none => pure (.done .next)
      | some v =>
        letOwnedTupleGo tg it v; assign tg env v
        let mut ok := true
        for c in ifs do
          if ok then ok ← isTrue c env (eval c env)
        if ok then inner cx iter1 (.ref D) env (again (.compLoop cx 0 it (.ref D) env)) else again (.compLoop cx 0 it (.ref D) env)))
    (e1 : ∀ (D : Addr) it env, compTurn cx 1 it (.ref D) env = (do
      standAt p1
      match ← pyNext it with
      | none => pure (.done .next)
      | some v =>
        letOwnedTupleGo tg1 it v; assign tg1 env v
        let mut ok := true
        for c in ifs1 do
          if ok then ok ← isTrue c env (eval c env)
        if ok then (do add (.ref D) env; again (.compLoop cx 1 it (.ref D) env)) else again (.compLoop cx 1 it (.ref D) env)))
    (un : ∀ (A : Around) (lvl : Nat) (it acc : Value) (env : Env), A.under (.compLoop cx lvl it acc env) = A)
    (dn : ∀ (lvl : Nat) (it acc : Value) (env : Env), (model X.prog X.w).den (.compLoop cx lvl it acc env) = (compTurn cx lvl it acc env).onRaise (fun x => do noteFrame x env; theTreesLotGoes x))
    (st0 : ∀ (R : Result → Shared → Prop) (it acc : Value) (env : Env) (s : Shared), codeAny (model X.prog X.w) X.A (.compLoop cx 0 it acc env) R s → wpAny (model X.prog X.w) X.A (pyIter it) (fun it' s' => codeAny (model X.prog X.w) X.A (.compLoop cx 0 it' acc env) R s') (noted X.prog X.w X.A R env) s → codeAny (model X.prog X.w) X.A (.compStart cx 0 it acc env) R s)
    (st1 : ∀ (R : Result → Shared → Prop) (it acc : Value) (env : Env) (s : Shared), codeAny (model X.prog X.w) X.A (.compLoop cx 1 it acc env) R s → wpAny (model X.prog X.w) X.A (pyIter it) (fun it' s' => codeAny (model X.prog X.w) X.A (.compLoop cx 1 it' acc env) R s') (noted X.prog X.w X.A R env) s → codeAny (model X.prog X.w) X.A (.compStart cx 1 it acc env) R s)
    (hmk : ∀ {E : Value → Shared → Prop} {Q : Value → Shared → Prop} {s : Shared}, Q (.ref s.heap.objs.size) { s with heap := s.heap.push O0 } → wpAny (model X.prog X.w) X.A mk Q E s)
    (hO : ∀ (t : Shared) (H : Hp), Inv X pins σ H t → ObjOk X.prog X.w (upd H t.heap.objs.size (o0 t.heap.objs.size)) (t.heap.push O0) t.heap.objs.size (o0 t.heap.objs.size))
    (hc : X.calm = true) (hN : X.N.Nodup) (I : Inv X pins σ H s) (hi : PI X tg iter wi) (ok : BlkOk X.N X.env.scope scope own) (hv : ∀ i ∈ vs1, i ∈ own.map (·.2))
    (hg : ∀ (s : Shared) (H : Hp) (C : Addr) (cl : List (Str × Addr)) (fp : List Addr), PG (X.blk s H scope (compEnvC scope cl C X.env) fp) tg g) (ht : ∀ (s : Shared) (H : Hp) (C : Addr) (cl : List (Str × Addr)) (fp : List Addr), PTs (X.blk s H scope (compEnvC scope cl C X.env) fp) ifs tt)
    (hi1 : ∀ (s : Shared) (H : Hp) (C : Addr) (cl : List (Str × Addr)) (fp : List Addr), PI (X.blk s H scope (compEnvC scope cl C X.env) fp) tg1 iter1 wi1) (hg1 : ∀ (s : Shared) (H : Hp) (C : Addr) (cl : List (Str × Addr)) (fp : List Addr), PG (X.blk s H scope (compEnvC scope cl C X.env) fp) tg1 g1)
    (ht1 : ∀ (s : Shared) (H : Hp) (C : Addr) (cl : List (Str × Addr)) (fp : List Addr), PTs (X.blk s H scope (compEnvC scope cl C X.env) fp) ifs1 tt1) (he : ∀ (s : Shared) (H : Hp) (C : Addr) (cl : List (Str × Addr)) (fp : List Addr), PAdd (X.blk s H scope (compEnvC scope cl C X.env) fp) add ts)
    (hs : ∀ x, foldedSetIterable iter X.env x = pure x) (hs1 : ∀ env x, foldedSetIterable iter1 env x = pure x) (h : tC2 o0 wi g tt wi1 g1 tt1 ts (own.map (·.2)) vs1 σ H Q)
    (back : ∀ D C s' m H', Inv X pins σ H' s' → Q (.ref D) H' → s'.heap.Ns C m → FpOk X pins H' C → compPost (model X.prog X.w) X.A X.xe use Qf (.ref D) C (.ok .next) s') :
    wpAny (model X.prog X.w) X.A (comprehension cx scope X.env pos' mk false (eval iter X.env) use) Qf X.xe s := by
  have cells : ∀ y ∈ scope.names, y.2 = .free → ∃ c, X.env.cells.lookup y.1 = some c := fun y hy e => I.ok.has _ (ok.free y hy e)
  refine wpAny_comprehension_free (use := use) hcl (by rw [hgi]; exact hs) (closure_ok cells) ok.kind (fun y hy e => (ok.uniq y hy).trans (congrArg some e)) (thn (hi.run pins s σ H _ I h) fun xv s1 z1 => thn z1 fun itv s2 z2 => ?_)
  have ⟨it, fp, tn, J, H2, e, I2, T, st2, f2, want⟩ := z2
  subst e
  refine hmk (newEnv_comp ?_)
  have noD0 : H2 s2.heap.objs.size = none := I2.hok.fresh (Nat.le_refl _)
  have ok0 := hO s2 H2 I2
  obtain ⟨D, eD⟩ : ∃ D, D = s2.heap.objs.size := ⟨_, rfl⟩
  rw [← eD] at noD0 ok0 ⊢
  have ⟨Wn, ⟨m0, w0⟩, turn⟩ := want D noD0
  obtain ⟨s3, e3⟩ : ∃ s3 : Shared, s3 = { s2 with heap := s2.heap.push O0 } := ⟨_, rfl⟩
  have I3 : Inv X pins σ (upd H2 D (o0 D)) s3 := by
    subst e3
    exact I2.laid (t' := s2.toks) (fun _ _ => Heap.get?_push_of_some _) (Nat.le_of_eq eD.symm) ok0
  have h3 : s3.heap = s2.heap.push O0 := by rw [e3]
  rw [← e3]
  have small : ∀ b ∈ fp, b < s2.heap.objs.size := fun b hb => have ⟨_, z, _⟩ := T.obj _ _ st2 b hb; Heap.lt_size z
  have f3 : ∀ b ∈ fp, FpOk X pins (upd H2 D (o0 D)) b ∧ b < s3.heap.objs.size := fun b hb => by
    have lt := small b hb
    refine ⟨⟨(upd_ne (by rw [eD]; exact Nat.ne_of_lt lt)).trans (f2 b hb).1, (f2 b hb).2⟩, ?_⟩
    rw [h3, Heap.size_push]; exact Nat.lt_succ_of_lt lt
  have st3 : tn 0 s3.heap := T.keep _ _ _ st2 fun b _ o z => by rw [h3]; exact Heap.get?_push_of_some _ z
  have I4 := block_start I3 ok hN f3
  show codeAny _ _ (.compStart cx 0 (.ref it) (.ref D) (compEnvC scope (cellsFrom (s3.heap.objs.size + 1) scope.names (cloFrom X.env.cells scope.names [])) s3.heap.objs.size X.env)) (compPost (model X.prog X.w) X.A X.xe use Qf (.ref D) s3.heap.objs.size) { s3 with heap := pushCells (s3.heap.push { cls := .type "dict", data := .dict #[] }) scope.names }
  have pg := hg s3 (upd H2 D (o0 D)) s3.heap.objs.size (cellsFrom (s3.heap.objs.size + 1) scope.names (cloFrom X.env.cells scope.names [])) fp
  have pt := ht s3 (upd H2 D (o0 D)) s3.heap.objs.size (cellsFrom (s3.heap.objs.size + 1) scope.names (cloFrom X.env.cells scope.names [])) fp
  have pi1 := hi1 s3 (upd H2 D (o0 D)) s3.heap.objs.size (cellsFrom (s3.heap.objs.size + 1) scope.names (cloFrom X.env.cells scope.names [])) fp
  have pg1 := hg1 s3 (upd H2 D (o0 D)) s3.heap.objs.size (cellsFrom (s3.heap.objs.size + 1) scope.names (cloFrom X.env.cells scope.names [])) fp
  have pt1 := ht1 s3 (upd H2 D (o0 D)) s3.heap.objs.size (cellsFrom (s3.heap.objs.size + 1) scope.names (cloFrom X.env.cells scope.names [])) fp
  have pe := he s3 (upd H2 D (o0 D)) s3.heap.objs.size (cellsFrom (s3.heap.objs.size + 1) scope.names (cloFrom X.env.cells scope.names [])) fp
  have nfp : ∀ b ∈ fp, (upd H2 D (o0 D)) b = none := fun b hb => (f3 b hb).1.1
  obtain ⟨ce, ece⟩ : ∃ ce, ce = compEnvC scope (cellsFrom (s3.heap.objs.size + 1) scope.names (cloFrom X.env.cells scope.names [])) s3.heap.objs.size X.env := ⟨_, rfl⟩
  have cL : ce.locals = s3.heap.objs.size := by rw [ece]; rfl
  rw [← ece] at I4 pg pt pi1 pg1 pt1 pe ⊢
  generalize upd H2 D (o0 D) = H3 at I3 I4 pg pt pi1 pg1 pt1 pe w0 nfp f3
  generalize hs4 : ({ s3 with heap := pushCells (s3.heap.push { cls := .type "dict", data := .dict #[] }) scope.names } : Shared) = s4 at I4 ⊢
  have st4 : tn 0 s4.heap := T.keep _ _ _ st3 fun b _ o z => by rw [← hs4]; exact pushCells_keeps _ _ _ _ (Heap.get?_push_of_some _ z)
  have stat : ∀ {σ' : L2.St} {H' : Hp} {s' : Shared}, Inv (X.blk s3 H3 scope ce fp) [] σ' H' s' → (∀ b ∈ fp, H' b = none) → ∀ b ∈ fp, FpOk (X.blk s3 H3 scope ce fp) [] H' b := fun {σ' H' s'} I' hn b hb =>
    ⟨hn b hb, (I'.ok.exf b hb).1, I'.ok.exfs b hb, .inl hb, fun x c z => (I'.ok.exf b hb).2 x c z, fun p hp => absurd (show p ∈ ([] : List (Addr × Obj)) ++ [] from hp) (by simp)⟩
  have loop : codeAny (model X.prog X.w) X.A (.compLoop cx 0 (.ref it) (.ref D) ce) (compPost (model X.prog X.w) X.A X.xe use Qf (.ref D) s3.heap.objs.size) s4 := by
    refine loopG (body := inner cx iter1 (.ref D) ce) (un _ _ _ _ _) (dn _ _ _ _) (e0 D (.ref it) ce) (fun n s' => ∃ i H', Inv (X.blk s3 H3 scope ce fp) [] (wipe σ (own.map (·.2))) H' s' ∧ tn i s'.heap ∧ (∀ b ∈ fp, H' b = none) ∧ Wn i n H') ?_ m0 ⟨0, H3, I4, st4, nfp, w0⟩
    intro n s5 ⟨i, H5, J5, st5, n5, w5⟩
    rcases turn i n H5 w5 with ⟨stop, q⟩ | ⟨go, Nx, lower, step⟩
    · refine thnF (T.done (X.blk s3 H3 scope ce fp) rfl rfl rfl hc i [] s5 _ H5 (fun _ _ => False) J5 (stat J5 n5) st5 stop) fun r s6 z => ?_
      obtain ⟨rfl, J6⟩ := z
      have J7 : Inv X pins σ H5 s6 := I3.call' (ch := fp) J6.os J6.base J6.hok J6.bare fun b hb => have f := (f3 b hb).1; ⟨f.2.2.2.1, f.2.1, f.2.2.2.2.1, f.2.2.2.2.2⟩
      have fr : H5 ce.locals = none := J6.free
      have ⟨m, hn, _⟩ := J6.loc
      have hn : s6.heap.Ns ce.locals m := hn
      rw [cL] at fr hn
      exact back D s3.heap.objs.size s6 m H5 J7 q hn (I3.fpOk (Nat.le_refl _) fr)
    · refine thnF (T.item (X.blk s3 H3 scope ce fp) rfl rfl rfl hc i [] s5 _ H5 (fun _ _ => False) J5 (stat J5 n5) st5 go) fun r s6 z => ?_
      obtain ⟨u, rfl, z⟩ := z
      refine thnF z fun _ s7 ⟨x, H7, J7, r7, y7, st7, n7⟩ => ?_
      have J7' := J7.pinned (stat J7 n7) (T.obj _ _ st7)
      refine thnF (pg.run _ s7 _ H7 x u _ J7' r7 (step x H7 y7)) fun _ s8 ⟨σ8, H8, J8, same8, q8⟩ => ?_
      refine thnF (pt.run _ s8 σ8 H8 _ J8 q8) fun b s9 ⟨H9, J9, q9⟩ => ?_
      have next : ∀ {σ9 : L2.St} {s' : Shared} {H' : Hp}, Inv (X.blk s3 H3 scope ce fp) ([] ++ pinsAt fp s7.heap) σ9 H' s' → (wipe σ (own.map (·.2))).length = σ9.length → (∀ (j : Nat) v, (wipe σ (own.map (·.2)))[j]? = some (some v) → σ9[j]? = some (some v)) → Nx H' →
          ∃ m, m < n ∧ ∃ i H', Inv (X.blk s3 H3 scope ce fp) [] (wipe σ (own.map (·.2))) H' s' ∧ tn i s'.heap ∧ (∀ b ∈ fp, H' b = none) ∧ Wn i m H' := fun {σ9 s' H'} J hl hk nx => by
        have ⟨m', lt, w'⟩ := lower H' nx
        have held : ∀ b ∈ fp, ∀ o, s7.heap.get? b = some o → s'.heap.get? b = some o ∧ H' b = none := fun b hb o z =>
          have y := J.pin (b, o) (List.mem_append_right _ (List.mem_append_right _ (mem_pinsAt hb z)))
          ⟨y.1, y.2.1⟩
        refine ⟨m', lt, i + 1, H', (J.unpinned (pins := [])).weak hl hk, T.keep _ _ _ st7 fun b hb o z => (held b hb o z).1, fun b hb => ?_, w'⟩
        have ⟨o, z, _⟩ := T.obj _ _ st7 b hb
        exact (held b hb o z).2
      have hl8 : (wipe σ (own.map (·.2))).length = σ8.length := (congrArg List.length same8).symm.trans (wipe_length _ _)
      have hk8 : ∀ (j : Nat) v, (wipe σ (own.map (·.2)))[j]? = some (some v) → σ8[j]? = some (some v) := fun j v z => by
        rw [← same8] at z; exact (wipe_some z).1
      have hk9 : ∀ (j : Nat) v, (wipe σ (own.map (·.2)))[j]? = some (some v) → (wipe σ8 vs1)[j]? = some (some v) := fun j v z => by
        rw [← same8] at z
        have ⟨z1, z2⟩ := wipe_some z
        exact (wipe_out fun y => z2 (hv j y)).trans z1
      match b, q9 with
      | false, q9 => exact next J9 hl8 hk8 q9
      | true, q9 =>
        refine fun k Qk Er hE hk => inner_ok (J := fun s' => ∃ m, m < n ∧ ∃ i H', Inv (X.blk s3 H3 scope ce fp) [] (wipe σ (own.map (·.2))) H' s' ∧ tn i s'.heap ∧ (∀ b ∈ fp, H' b = none) ∧ Wn i m H') (hs1 ce) (thnF (pi1.run _ s9 σ8 H9 _ J9 q9) fun xv s10 hx => thnF hx fun itv s11 h11 => ?_) fun t ⟨m, lt, q⟩ => hk m t lt q
        obtain ⟨it1, fp1, tn1, J1, H11, rfl, J11, T1, st11, f11, W1, ⟨m1, w1⟩, turn1⟩ := h11
        have stat1 : ∀ {H' : Hp}, (∀ b ∈ fp1, H' b = none) → ∀ b ∈ fp1, FpOk (X.blk s3 H3 scope ce fp) ([] ++ pinsAt fp s7.heap) H' b := fun hn b hb => ⟨hn b hb, (f11 b hb).2⟩
        have loop1 : codeAny (model X.prog X.w) X.A (.compLoop cx 1 (.ref it1) (.ref D) ce)
            (fun r s' => match r with
              | .ok _ => ∃ m, m < n ∧ ∃ i H', Inv (X.blk s3 H3 scope ce fp) [] (wipe σ (own.map (·.2))) H' s' ∧ tn i s'.heap ∧ (∀ b ∈ fp, H' b = none) ∧ Wn i m H'
              | .error _ => False) s11 := by
          refine loopG (body := fun k => do add (.ref D) ce; k) (un _ _ _ _ _) (dn _ _ _ _) (e1 D (.ref it1) ce) (fun k s' => ∃ j H', Inv (X.blk s3 H3 scope ce fp) ([] ++ pinsAt fp s7.heap) (wipe σ8 vs1) H' s' ∧ tn1 j s'.heap ∧ (∀ b ∈ fp1, H' b = none) ∧ W1 j k H') ?_ m1 ⟨0, H11, J11.weak (wipe_length _ _) (fun j v z => (wipe_some z).1), st11, fun b hb => (f11 b hb).1, w1⟩
          intro k s12 ⟨j, H12, J12, st12, n12, w12⟩
          rcases turn1 j k H12 w12 with ⟨stop1, nx1⟩ | ⟨go1, Nx1, lower1, step1⟩
          · refine thnF (T1.done (X.blk s3 H3 scope ce fp) rfl rfl rfl hc j _ s12 (wipe σ8 vs1) H12 (fun _ _ => False) J12 (stat1 n12) st12 stop1) fun r s13 z => ?_
            obtain ⟨rfl, J13⟩ := z
            exact next J13 (hl8.trans (wipe_length σ8 vs1).symm) hk9 nx1
          · refine thnF (T1.item (X.blk s3 H3 scope ce fp) rfl rfl rfl hc j _ s12 (wipe σ8 vs1) H12 (fun _ _ => False) J12 (stat1 n12) st12 go1) fun r s13 z => ?_
            obtain ⟨u1, rfl, z⟩ := z
            refine thnF z fun _ s14 ⟨x1, H14, J14, r14, y14, st14, n14⟩ => ?_
            have J14' := J14.pinned (stat1 n14) (T1.obj _ _ st14)
            refine thnF (pg1.run _ s14 (wipe σ8 vs1) H14 x1 u1 _ J14' r14 (step1 x1 H14 y14)) fun _ s15 ⟨σ15, H15, J15, same15, q15⟩ => ?_
            refine thnF (pt1.run _ s15 σ15 H15 _ J15 q15) fun b1 s16 ⟨H16, J16, q16⟩ => ?_
            have next1 : ∀ {s' : Shared} {H' : Hp}, Inv (X.blk s3 H3 scope ce fp) (([] ++ pinsAt fp s7.heap) ++ pinsAt fp1 s14.heap) σ15 H' s' → Nx1 H' → ∃ m, m < k ∧ ∃ j H', Inv (X.blk s3 H3 scope ce fp) ([] ++ pinsAt fp s7.heap) (wipe σ8 vs1) H' s' ∧ tn1 j s'.heap ∧ (∀ b ∈ fp1, H' b = none) ∧ W1 j m H' := fun {s' H'} J nx => by
              have ⟨m', lt, w'⟩ := lower1 H' nx
              have held : ∀ b ∈ fp1, ∀ o, s14.heap.get? b = some o → s'.heap.get? b = some o ∧ H' b = none := fun b hb o z =>
                have y := J.pin (b, o) (List.mem_append_right _ (List.mem_append_right _ (mem_pinsAt hb z)))
                ⟨y.1, y.2.1⟩
              refine ⟨m', lt, j + 1, H', J.unpinned.weak ((congrArg List.length same15).symm.trans (wipe_length _ _)) (fun j v z => by rw [← same15] at z; exact (wipe_some z).1), T1.keep _ _ _ st14 fun b hb o z => (held b hb o z).1, fun b hb => ?_, w'⟩
              have ⟨o, z, _⟩ := T1.obj _ _ st14 b hb
              exact (held b hb o z).2
            match b1, q16 with
            | false, q16 => exact next1 J16 q16
            | true, q16 => exact fun k Qk Er hE hk => wpAny_bind (thnF (pe.run D _ s16 σ15 H16 _ J16 q16) fun _ s17 ⟨H17, J17, nx⟩ => have ⟨m, lt, q⟩ := next1 J17 nx; hk m _ lt q)
        exact st1 _ _ _ _ _ loop1 (T1.self X.A 0 _ _ _ st11 loop1)
  exact st0 _ _ _ _ _ loop (T.self X.A 0 _ _ _ st4 loop)
/-! ### sets of ints -/
/-- the element, an int, is put into the set -/
def aSet (w : World) (te : TE) : TAdd := fun σ H D Nx => te σ H fun y H1 => ∃ (k : Int) (S : Int → Bool) (n : Nat), y = .int k ∧ H1 D = some (SetO w D S n) ∧ n + 1 < scanBound ∧ Nx (upd H1 D (SetO w D (fun j => S j || decide (j = k)) (if S k = true then n else n + 1)))
abbrev addSet (elt : Expr) : Value → Env → Sem Unit := fun acc env => do let v ← eval elt env; standAt elt.pos; let _ ← call (.builtin "set.add") [acc, v]
theorem add_set {elt : Expr} {te : TE} (h : PE X elt te) : PAdd X (addSet elt) (aSet X.w te) := ⟨fun D pins s σ H Nx I q => by
  refine wpAny_bind (thn (h.run pins s σ H _ I q) fun z s1 ⟨y, H1, I1, r1, k, S, n, ey, hD, room, nx⟩ => ?_)
  subst ey
  obtain ⟨tk, rfl⟩ := r1
  refine wpAny_bind (wpAny_standAt (wpAny_bind (setR_add (setO_get I1 hD) room fun h' sb new => wpAny_pure ?_)))
  have he : ∃ u, h'.get? D = some u := have ⟨o, _, _, _, ho, _⟩ := new; ⟨o, ho⟩
  exact ⟨_, I1.write (e := D) (t' := s1.toks + 1) (by rw [hD]; trivial) (.inl rfl) (fun b u hb hu => (sb.2 b hb).trans hu) he (setO_new new), nx⟩⟩
section
variable {elt t0 i0 t1 i1 : Expr} {ifs0 ifs1 : List Expr} {scope : Scope} {pos : Pos} {prog : Program} {w : World} {A : Around} {R : Result → Shared → Prop} {s : Shared} {it acc : Value} {env : Env}
theorem start_S1 (h0 : codeAny (model prog w) A (.compLoop (.SetComp elt [⟨t0, i0, ifs0, 0⟩, ⟨t1, i1, ifs1, 0⟩] scope pos) 1 it acc env) R s)
    (h : wpAny (model prog w) A (pyIter it) (fun it' t => codeAny (model prog w) A (.compLoop (.SetComp elt [⟨t0, i0, ifs0, 0⟩, ⟨t1, i1, ifs1, 0⟩] scope pos) 1 it' acc env) R t) (noted prog w A R env) s) : codeAny (model prog w) A (.compStart (.SetComp elt [⟨t0, i0, ifs0, 0⟩, ⟨t1, i1, ifs1, 0⟩] scope pos) 1 it acc env) R s := by
  refine codeAny_of_tree ?_
  show wpAny _ _ ((compStart (.SetComp elt [⟨t0, i0, ifs0, 0⟩, ⟨t1, i1, ifs1, 0⟩] scope pos) 1 it acc env).onRaise (fun x => do noteFrame x env; standAt theWindowsPlace)) _ _ s
  refine wpAny_notedAt ?_; unfold compStart
  show wpAny _ _ (ask >>= _) _ _ s
  refine wpAny_bind (wpAny_askSetting (wpAny_ite ?_)); split
  · first | exact wpAny_bind (wpAny_pure (wpAny_pure (And.intro rfl h0))) | exact wpAny_pure (And.intro rfl h0)
  · first
      | exact wpAny_bind (wpAny_rule (wpAny_bind (wpAny_standAt (wpAny_bind (wpAny_mono h (fun it2 t2 h2 => wpAny_pure (And.intro rfl h2)) fun _ _ z => z)))))
      | (refine wpAny_bind (wpAny_rule ?_); show wpAny _ _ (standAt i1.pos >>= _) _ _ s; exact wpAny_bind (wpAny_standAt (wpAny_bind (wpAny_mono h (fun it2 t2 h2 => wpAny_pure (And.intro rfl h2)) fun _ _ z => z))))
end
theorem pe_sc2 {elt tg iter tg1 iter1 : Expr} {ifs ifs1 : List Expr} {scope : Scope} {own : List (Str × Nat)} {vs1 : List Nat} {pos : Pos} {wi wi1 : TI} {g g1 : TG} {tt tt1 : TT} {te : TE} (hc : X.calm = true) (hN : X.N.Nodup) (hi : PI X tg iter wi) (ok : BlkOk X.N X.env.scope scope own) (hv : ∀ i ∈ vs1, i ∈ own.map (·.2))
    (hg : ∀ (s : Shared) (H : Hp) (C : Addr) (cl : List (Str × Addr)) (fp : List Addr), PG (X.blk s H scope (compEnvC scope cl C X.env) fp) tg g) (ht : ∀ (s : Shared) (H : Hp) (C : Addr) (cl : List (Str × Addr)) (fp : List Addr), PTs (X.blk s H scope (compEnvC scope cl C X.env) fp) ifs tt)
    (hi1 : ∀ (s : Shared) (H : Hp) (C : Addr) (cl : List (Str × Addr)) (fp : List Addr), PI (X.blk s H scope (compEnvC scope cl C X.env) fp) tg1 iter1 wi1) (hg1 : ∀ (s : Shared) (H : Hp) (C : Addr) (cl : List (Str × Addr)) (fp : List Addr), PG (X.blk s H scope (compEnvC scope cl C X.env) fp) tg1 g1)
    (ht1 : ∀ (s : Shared) (H : Hp) (C : Addr) (cl : List (Str × Addr)) (fp : List Addr), PTs (X.blk s H scope (compEnvC scope cl C X.env) fp) ifs1 tt1) (he : ∀ (s : Shared) (H : Hp) (C : Addr) (cl : List (Str × Addr)) (fp : List Addr), PE (X.blk s H scope (compEnvC scope cl C X.env) fp) elt te)
    (hs : ∀ x, foldedSetIterable iter X.env x = pure x := by intro _; rfl) (hs1 : ∀ env x, foldedSetIterable iter1 env x = pure x := by intro _ _; rfl) :
    PE X (.SetComp elt [⟨tg, iter, ifs, 0⟩, ⟨tg1, iter1, ifs1, 0⟩] scope pos) (tC2 (fun D => SetO X.w D (fun _ => false) 0) wi g tt wi1 g1 tt1 (aSet X.w te) (own.map (·.2)) vs1) := ⟨fun pins s σ H Q I h => by
  rw [PpSet.eval_SetComp]
  refine c2_core (add := addSet elt) (iter1 := iter1) (ifs1 := ifs1) (p0 := iter.pos) (p1 := iter1.pos) (O0 := { cls := .type "set", dict := none, data := .set #[] 0 (.fresh 0 0 (!X.w.params.followText "set-order")) }) rfl rfl (fun D it env => by rfl) (fun D it env => by rfl) (fun A lvl it acc env => rfl) (fun lvl it acc env => rfl) (fun R it acc env s => PpSet.codeAny_compStart_set) (fun R it acc env s => start_S1) (fun {E Q s} q => PpSet.newSet_ok q) (fun t H I => setO_new (setR_fresh X.w))
    hc hN I hi ok hv hg ht hi1 hg1 ht1 (fun s H C cl fp => add_set (he s H C cl fp)) hs hs1 h fun D C s' m H' J q hn f => ⟨m, hn, fun h2 same => ?_⟩
  exact ⟨.ref D, H', J.turned (t' := s'.toks) (fun b o hb z => (same.2 b hb).trans z) f.1 f.2.1 f.2.2.2.1 f.2.2.2.2.1 f.2.2.2.2.2, rfl, q⟩⟩
/-! ### dicts -/
end
end Pv

/-! Two fors by values: sorted({..}), {..: ..}. -/
namespace Pv
open PySem PySem.Spec PyProof.Rows L2 Tc
section
variable {ι ι1 α β : Type} {X : Cx} {G : Gb} {Wx : WX} {rel : IRel ι} {mt : ME Bool} {vs : List Nat}
open Classical in
/-- a walk that gathers: put is what a turn does -/
noncomputable def gI {ι α : Type} (C : Sto → Prop) (bind : ι → En → Option En) (t : ME Bool) (put : En → α → Sto → ER α) (env0 : En) : List ι → α → Sto → ER α
  | [], acc, S => if C S then .ok acc S else .err
  | x :: xs, acc, S => if C S then (match bind x env0 with
    | none => .err
    | some env1 => (noEx (t env1 S)).bind fun b S => if b = true then (put env1 acc S).bind fun acc S => gI C bind t put env0 xs acc S else gI C bind t put env0 xs acc S) else .err
/-- what a turn's reading U asks of put -/
def UsesPut (G : Gb) (W1 : Wo) (Acc : Wo → α → HO → Prop) (D : Addr) (KK : Wo → ER β → Prop) (put : En → α → Sto → ER α) (U : L2.St → Hp → (Hp → Prop) → Prop) : Prop :=
  ∀ (W' : Wo) (S : Sto) (H : Hp) (env : En) (σ : L2.St) (acc : α) (o : HO) (rest : α → Sto → ER β) (Nx : Hp → Prop), W1.le W' → Wd G W' S (Pv.del H D) → H D = some o → Acc W' acc o → EnR G.K W' σ env → KK W' ((put env acc S).bind rest) →
    (∀ W2 S2 H2 acc2 o2, W'.le W2 → Wd G W2 S2 (Pv.del H2 D) → H2 D = some o2 → Acc W2 acc2 o2 → KK W2 (rest acc2 S2) → Nx H2) → U σ H Nx
structure Goal (KK : Wo → ER β → Prop) : Prop where
  mono : ∀ {W W' r}, KK W r → W.le W' → KK W' r
  err : ∀ {W}, ¬ KK W .err
theorem Goal.ok {KK : Wo → ER β → Prop} (g : Goal KK) {γ : Type} {W : Wo} {r : ER γ} {f : γ → Sto → ER β} (h : KK W ((noEx r).bind f)) : ∃ a S, r = .ok a S ∧ KK W (f a S) := by
  cases r with
  | ok a S => exact ⟨a, S, rfl, h⟩
  | ex e S => exact (g.err h).elim
  | err => exact (g.err h).elim
theorem walk_n {g : TG} {bind : ι → En → Option En} {rel' : IRel ι} {σ : L2.St} {env : En} {D : Addr} {put : En → α → Sto → ER α} {U : L2.St → Hp → (Hp → Prop) → Prop} {Acc : Wo → α → HO → Prop} {KK : Wo → ER β → Prop} {C : Sto → Prop} {xs : List ι} {J : It} {Wl W1 : Wo}
    {S1 : Sto} {H1 : Hp} {acc0 : α} {o0 : HO} {rest : α → Sto → ER β} {Qe : Hp → Prop} (gl : Goal KK) (ct : CT G rel' vs g bind) (lw : LW G rel' Wl J C xs) (le : Wl.ex W1) (am : ∀ {W W' a o}, Acc W a o → W.le W' → Acc W' a o) (hU : UsesPut G W1 Acc D KK put U)
    (w1 : Wd G W1 S1 (Pv.del H1 D)) (hD : H1 D = some o0) (a0 : Acc W1 acc0 o0) (en1 : EnR G.K W1 σ env) (k : KK W1 ((gI C bind mt put (wipeP env vs) xs acc0 S1).bind rest))
    (fin : ∀ W2 S2 H2 acc2 o2, W1.le W2 → Wd G W2 S2 (Pv.del H2 D) → H2 D = some o2 → Acc W2 acc2 o2 → KK W2 (rest acc2 S2) → Qe H2) :
    ∃ Wn : Nat → Nat → Hp → Prop, (∃ m, Wn 0 m H1) ∧ ∀ i m H, Wn i m H → (J.stop i H ∧ Qe H) ∨ (J.go i H ∧ ∃ Nx : Hp → Prop, (∀ H', Nx H' → ∃ m', m' < m ∧ Wn (i + 1) m' H') ∧ ∀ x H', J.yld i H x H' → g x (wipe σ vs) H' fun σ2 H2 => wipe σ2 vs = wipe σ vs ∧ tT G W0 mt σ2 H2 fun b H3 => if b = true then U σ2 H3 Nx else Nx H3) := by
  refine ⟨fun i m H => m = xs.length - i ∧ i ≤ xs.length ∧ ∃ W' S' acc o, W1.le W' ∧ Wd G W' S' (Pv.del H D) ∧ H D = some o ∧ Acc W' acc o ∧ KK W' ((gI C bind mt put (wipeP env vs) (xs.drop i) acc S').bind rest),
    ⟨_, rfl, Nat.zero_le _, W1, S1, acc0, o0, .refl _, w1, hD, a0, k⟩, fun i m H2 ⟨em, hi2, W2, S2, acc, o, l2, w2, hH2, ra, k2⟩ => ?_⟩
  subst em
  have w2' : Wd G W2 S2 H2 := w2.more del_sub
  have l2' : Wl.ex W2 := le.trans l2.x
  by_cases hlt : i < xs.length
  · right
    rw [List.drop_eq_getElem_cons hlt] at k2
    unfold gI at k2
    split at k2
    · rename_i c
      refine ⟨lw.goes i W2 S2 H2 hlt l2' w2' c, fun H => i + 1 ≤ xs.length ∧ ∃ W' S' acc o, W1.le W' ∧ Wd G W' S' (Pv.del H D) ∧ H D = some o ∧ Acc W' acc o ∧ KK W' ((gI C bind mt put (wipeP env vs) (xs.drop (i + 1)) acc S').bind rest), fun H' q => ⟨xs.length - (i + 1), by omega, rfl, q.1, q.2⟩, fun x H' y => ?_⟩
      have fw2 : W2.F D = none := none_of w2.frm del_same
      have wf := w2.addF hH2
      obtain ⟨W3, z, l3, w3, ez, rz⟩ := lw.yields i (W2.fr D o) S2 H2 x H' hlt ⟨l2'.d, l2'.a⟩ wf c y
      rw [List.getElem?_eq_getElem hlt] at ez
      cases ez
      cases eb : bind xs[i] (wipeP env vs) with
      | none => rw [eb] at k2; exact (gl.err k2).elim
      | some env3 =>
        rw [eb] at k2
        have enw : EnR G.K W3 (wipe σ vs) (wipeP env vs) := (Paired.mapP ((en1.mono l2).wipe vs) fun _ _ r x e => let ⟨v, e1, e2⟩ := r x e; ⟨v, e1, RV.monoX (W := W2) (W' := W3) ⟨l3.d, l3.a⟩ e2⟩)
        refine ct W3 H' x xs[i] (wipe σ vs) (wipeP env vs) env3 _ rz enw eb fun σ3 e3 en3 => ⟨?_, ?_⟩
        · rw [e3]
          clear e3 en3 enw
          have tw : ∀ ws : List Nat, (∀ x ∈ ws, x ∈ vs) → wipe (wipe σ ws) vs = wipe σ vs := fun ws => by
            induction ws with
            | nil => intro _; rfl
            | cons x ws ih =>
              intro hx
              show wipe ((wipe σ ws).set x none) vs = _
              rw [wipe_set (hx x List.mem_cons_self), ih (fun y hy => hx y (List.mem_cons_of_mem _ hy))]
          exact tw vs fun x hx => hx
        · refine ⟨W3, S2, env3, w3, en3, ?_⟩
          have base : ∀ {W4 : Wo} {S4 : Sto} {H4 : Hp}, W3.le W4 → Wd G W4 S4 H4 → H4 D = some o ∧ Wd G ⟨W4.D, W4.ad, W2.F⟩ S4 (Pv.del H4 D) ∧ W2.le ⟨W4.D, W4.ad, W2.F⟩ := fun {W4 S4 H4} l4 w4 => by
            have ef : W4.F = upd W2.F D o := l4.f.trans l3.f
            obtain ⟨a1, a2⟩ := w4.subF ef fw2
            exact ⟨a1, a2, ⟨l3.d.trans l4.d, fun i x h => l4.a i x (l3.a i x h), rfl⟩⟩
          have k2 : KK W2 ((noEx (mt env3 S2)).bind fun b S => (if b = true then (put env3 acc S).bind fun acc S => gI C bind mt put (wipeP env vs) (xs.drop (i + 1)) acc S else gI C bind mt put (wipeP env vs) (xs.drop (i + 1)) acc S).bind rest) := by
            revert k2
            show KK W2 (((noEx (mt env3 S2)).bind _).bind rest) → _
            cases noEx (mt env3 S2) <;> exact fun k => k
          obtain ⟨b, S4, em, k4⟩ := gl.ok k2
          rw [em]
          intro W4 H4 b' l4 w4 eb4
          subst eb4
          obtain ⟨d4, v4, m4⟩ := base l4 w4
          cases b' with
          | false => exact iteF (A := U σ3 H4 _) ⟨hlt, _, S4, acc, o, l2.trans m4, v4, d4, am ra m4, gl.mono k4 m4⟩
          | true =>
            refine iteT (B := _ ∧ _) ?_
            have k5 : KK W2 ((put env3 acc S4).bind fun acc S => (gI C bind mt put (wipeP env vs) (xs.drop (i + 1)) acc S).bind rest) := by
              revert k4
              show KK W2 (((put env3 acc S4).bind _).bind rest) → _
              cases put env3 acc S4 <;> exact fun k => k
            have en5 : EnR G.K ⟨W4.D, W4.ad, W2.F⟩ σ3 env3 := Paired.mapP (en3.mono l4) fun _ _ r x e => let ⟨v, e1, e2⟩ := r x e; ⟨v, e1, RV.monoX (W := W4) (W' := ⟨W4.D, W4.ad, W2.F⟩) ⟨Same.refl W4.D, fun _ _ h => h⟩ e2⟩
            exact hU ⟨W4.D, W4.ad, W2.F⟩ S4 H4 env3 σ3 acc o _ _ (l2.trans m4) v4 d4 (am ra m4) en5 (gl.mono k5 m4) fun W6 S6 H6 acc6 o6 l6 w6 d6 a6 k6 => ⟨hlt, W6, S6, acc6, o6, (l2.trans m4).trans l6, w6, d6, a6, k6⟩
    · exact (gl.err k2).elim
  · left
    have e : i = xs.length := by omega
    subst e
    rw [List.drop_length] at k2
    unfold gI at k2
    split at k2
    · rename_i c
      exact ⟨lw.stops W2 S2 H2 l2' w2' c, fin W2 S2 H2 acc o l2 w2 hH2 ra k2⟩
    · exact (gl.err k2).elim
/-- what a turn of the outer clause does: the inner one is gone through -/
noncomputable def putIn {ι1 α : Type} (m1 : ME (Src ι1)) (bind1 : ι1 → En → Option En) (t1 : ME Bool) (put : En → α → Sto → ER α) (vs1 : List Nat) : En → α → Sto → ER α := fun env acc S => (noEx (m1 env S)).bind fun p S => gI p.1 bind1 t1 put (wipeP env vs1) p.2 acc S
theorem uses_in {rel1 rel1' : IRel ι1} {m1 : ME (Src ι1)} {bind1 : ι1 → En → Option En} {mt1 : ME Bool} {put : En → α → Sto → ER α} {vs1 : List Nat} {g1 : TG} {U : L2.St → Hp → (Hp → Prop) → Prop} {Acc : Wo → α → HO → Prop} {KK : Wo → ER β → Prop} {D : Addr} {W1 : Wo} (gl : Goal KK)
    (ct : CT G rel1' vs1 g1 bind1) (hr : ∀ W H v z S, Wd G W S H → rel1 W H v z → rel1' W H v z) (am : ∀ {W W' a o}, Acc W a o → W.le W' → Acc W' a o) (hU : ∀ W, UsesPut G W Acc D KK put U) :
    UsesPut G W1 Acc D KK (putIn m1 bind1 mt1 put vs1) fun σ H Nx => iA G rel1 W0 m1 σ H fun J1 H4 => ∃ Wn : Nat → Nat → Hp → Prop, (∃ m, Wn 0 m H4) ∧ ∀ j k H, Wn j k H →
      (J1.stop j H ∧ Nx H) ∨ (J1.go j H ∧ ∃ Nx1 : Hp → Prop, (∀ H', Nx1 H' → ∃ k', k' < k ∧ Wn (j + 1) k' H') ∧ ∀ x H', J1.yld j H x H' → g1 x (wipe σ vs1) H' fun σ3 H5 => wipe σ3 vs1 = wipe σ vs1 ∧ tT G W0 mt1 σ3 H5 fun b H6 => if b = true then U σ3 H6 Nx1 else Nx1 H6) := by
  intro W' S H env σ acc o rest Nx l w hD ra en k nx
  have fw : W'.F D = none := none_of w.frm del_same
  have wf := w.addF hD
  refine ⟨W'.fr D o, S, env, wf, Paired.mapP en fun _ _ r x e => (let ⟨v, e1, e2⟩ := r x e; ⟨v, e1, RV.monoX (W := W') (W' := W'.fr D o) ⟨Same.refl _, fun _ _ h => h⟩ e2⟩), ?_⟩
  unfold putIn at k
  have k2 : KK W' ((noEx (m1 env S)).bind fun p S => (gI p.1 bind1 mt1 put (wipeP env vs1) p.2 acc S).bind rest) := by
    revert k
    cases noEx (m1 env S) <;> exact fun k => k
  obtain ⟨p, S4, em, k4⟩ := gl.ok k2
  rw [em]
  intro W4 H4 J4 l4 w4 lw
  have ef : W4.F = upd W'.F D o := l4.f
  obtain ⟨d4, v4⟩ := w4.subF ef fw
  have m4 : W'.le ⟨W4.D, W4.ad, W'.F⟩ := ⟨l4.d, l4.a, rfl⟩
  exact walk_n (Acc := Acc) (Wl := W4) (W1 := ⟨W4.D, W4.ad, W'.F⟩) gl ct (lw_D lw hr) ⟨Same.refl _, fun _ _ h => h⟩ am (hU _) v4 d4 (am ra m4) (en.mono m4) (gl.mono k4 m4) fun W2 S2 H2 acc2 o2 l2 w2 d2 a2 k3 => nx W2 S2 H2 acc2 o2 (m4.trans l2) w2 d2 a2 k3
/-! ### sorted({e for .. for ..}), ints -/
def putS (e : ME PV) : En → List Int → Sto → ER (List Int) := fun env acc S => (noEx (e env S)).bind fun y S => match y with
  | .int k => if acc.length < 4000 then .ok (acc ++ [k]) S else .err
  | _ => .err
def AccS (w : World) (D : Addr) : Wo → List Int → HO → Prop := fun _ ns o => ∃ n, n ≤ ns.length ∧ o = SetO w D (fun j => decide (j ∈ ns)) n
theorem uses_S {w : World} {D : Addr} {KK : Wo → ER β → Prop} (gl : Goal KK) {me : ME PV} (W1 : Wo) : UsesPut G W1 (AccS w D) D KK (putS me) fun σ H Nx => aSet w (tE G W0 me) σ H D Nx := by
  intro W' S H env σ acc o rest Nx l w' hD ⟨n, hn, eo⟩ en k nx
  subst eo
  have fw : W'.F D = none := none_of w'.frm del_same
  have wf := w'.addF hD
  refine ⟨W'.fr D _, S, env, wf, Paired.mapP en fun _ _ r x e => (let ⟨v, e1, e2⟩ := r x e; ⟨v, e1, RV.monoX (W := W') (W' := W'.fr D _) ⟨Same.refl _, fun _ _ h => h⟩ e2⟩), ?_⟩
  unfold putS at k
  have k2 : KK W' ((noEx (me env S)).bind fun y S => (match y with
    | .int k => if acc.length < 4000 then .ok (acc ++ [k]) S else .err
    | _ => .err : ER (List Int)).bind rest) := by
    revert k
    cases noEx (me env S) <;> exact fun k => k
  obtain ⟨y, S4, em, k4⟩ := gl.ok k2
  rw [em]
  intro W4 H4 v4 l4 w4 r4
  have ef : W4.F = upd W'.F D _ := l4.f
  obtain ⟨d4, x4⟩ := w4.subF ef fw
  have m4 : W'.le ⟨W4.D, W4.ad, W'.F⟩ := ⟨l4.d, l4.a, rfl⟩
  cases y with
  | int q =>
    cases r4
    have k5 : KK W' ((if acc.length < 4000 then .ok (acc ++ [q]) S4 else .err : ER (List Int)).bind rest) := k4
    split at k5
    · rename_i hl
      refine ⟨q, _, n, rfl, d4, by unfold scanBound; omega, nx ⟨W4.D, W4.ad, W'.F⟩ S4 _ (acc ++ [q]) _ m4 (by rw [del_put]; exact x4) upd_same ⟨if decide (q ∈ acc) = true then n else n + 1, ?_, ?_⟩ (gl.mono k5 m4)⟩
      · rw [List.length_append]; show _ ≤ acc.length + 1; split <;> omega
      · congr 1
        funext j
        simp [List.mem_append]
    · exact (gl.err k5).elim
  | _ => exact (gl.err k4).elim
noncomputable def nSortC {ι α : Type} (m : ME (Src ι)) (bind : ι → En → Option En) (t : ME Bool) (put : En → List Int → Sto → ER (List Int)) (vs : List Nat) : ME (List PV) := fun env S => (m env S).bind fun p S => (gI p.1 bind t put (wipeP env vs) p.2 [] S).bind fun ns S => .ok ((sortU ns).map .int) S
theorem vn_sortC2 {rel1 rel' rel1' : _} {tg iter tg1 iter1 elt : Expr} {ifs ifs1 : List Expr} {g g1 : TG} {m : ME (Src ι)} {m1 : ME (Src ι1)} {bind : ι → En → Option En} {bind1 : ι1 → En → Option En} {mt1 : ME Bool} {me : ME PV} {scope : Scope} {own : List (Str × Nat)} {vs1 : List Nat} {p pos pos2 : Pos}
    (hc : X.calm = true) (hgl : Gl X "sorted") (hm : X.mg "sorted" = none) (hN : X.N.Nodup) (hi : PI X tg iter (iA G rel Wx m)) (ok : BlkOk X.N X.env.scope scope own)
    (hg : ∀ (s : Shared) (H : Hp) (C : Addr) (cl : List (Str × Addr)) (fp : List Addr), PG (X.blk s H scope (compEnvC scope cl C X.env) fp) tg g) (ht : ∀ (s : Shared) (H : Hp) (C : Addr) (cl : List (Str × Addr)) (fp : List Addr), PTs (X.blk s H scope (compEnvC scope cl C X.env) fp) ifs (tT G W0 mt))
    (hi1 : ∀ (s : Shared) (H : Hp) (C : Addr) (cl : List (Str × Addr)) (fp : List Addr), PI (X.blk s H scope (compEnvC scope cl C X.env) fp) tg1 iter1 (iA G rel1 W0 m1)) (hg1 : ∀ (s : Shared) (H : Hp) (C : Addr) (cl : List (Str × Addr)) (fp : List Addr), PG (X.blk s H scope (compEnvC scope cl C X.env) fp) tg1 g1)
    (ht1 : ∀ (s : Shared) (H : Hp) (C : Addr) (cl : List (Str × Addr)) (fp : List Addr), PTs (X.blk s H scope (compEnvC scope cl C X.env) fp) ifs1 (tT G W0 mt1)) (he : ∀ (s : Shared) (H : Hp) (C : Addr) (cl : List (Str × Addr)) (fp : List Addr), PE (X.blk s H scope (compEnvC scope cl C X.env) fp) elt (tE G W0 me))
    (ct : CT G rel' (own.map (·.2)) g bind) (hr : ∀ W H v z S, Wd G W S H → rel W H v z → rel' W H v z) (ct1 : CT G rel1' vs1 g1 bind1) (hr1 : ∀ W H v z S, Wd G W S H → rel1 W H v z → rel1' W H v z) (hv : ∀ i ∈ vs1, i ∈ own.map (·.2) := by decide)
    (hs : ∀ x, foldedSetIterable iter X.env x = pure x := by intro _; rfl) (hs1 : ∀ env x, foldedSetIterable iter1 env x = pure x := by intro _ _; rfl)
    (hst : starEach [.SetComp elt [⟨tg, iter, ifs, 0⟩, ⟨tg1, iter1, ifs1, 0⟩] scope pos2] X.env = [(false, eval (.SetComp elt [⟨tg, iter, ifs, 0⟩, ⟨tg1, iter1, ifs1, 0⟩] scope pos2) X.env)] := by rfl) :
    PE X (.Call (.Name "sorted" p) [.SetComp elt [⟨tg, iter, ifs, 0⟩, ⟨tg1, iter1, ifs1, 0⟩] scope pos2] [] pos) (tN G Wx (nSortC (α := Unit) m bind mt (putIn m1 bind1 mt1 (putS me) vs1) (own.map (·.2)))) := by
  have inn := pe_sc2 (pos := pos2) hc hN hi ok hv hg ht hi1 hg1 ht1 he hs hs1
  have outer := pe_callB (p := p) (pos := pos) (call_sortSet hc) hgl hm Tc.boot_sorted (pa_cons inn pa_nil (hs := by rw [hst]; rfl)) (he := by rw [hst]; rfl) (hpl := by rfl)
  refine pe_of outer fun σ H Q ⟨W, S, env, w, en, k⟩ => ?_
  refine ⟨W, S, env, w, en, ?_⟩
  unfold nSortC at k
  revert k
  cases m env S with
  | ex x S1 => exact fun k => k
  | err => exact fun k => k
  | ok p S1 =>
    intro k W1 H1 J l1 w1 lw0 D hD
    have gl : Goal (fun W (r : ER (List Int)) => kN G W Wx σ Q (r.bind fun ns S => .ok ((sortU ns).map .int) S)) := ⟨fun {W W' r} h l => kN.mono h l, fun {W} h => h⟩
    refine walk_n (Acc := AccS X.w D) (Wl := W1) (W1 := W1) (acc0 := []) (rest := fun a S => .ok a S) gl ct (lw_D lw0 hr) ⟨Same.refl _, fun _ _ h => h⟩ (fun h _ => h) (uses_in gl ct1 hr1 (Acc := AccS X.w D) (fun h _ => h) fun W => uses_S gl W) (by rw [upd_del hD]; exact w1) upd_same ⟨0, Nat.zero_le _, ?_⟩ (en.mono l1) ?_ fun W2 S2 H2 ns o l2 w2 d2 a2 k2 => ?_
    · congr 1
    · have k := kN.mono k l1
      revert k
      show kN G W1 Wx σ Q ((gI p.1 bind mt (putIn m1 bind1 mt1 (putS me) vs1) (wipeP env (own.map (·.2))) p.2 [] S1).bind _) → _
      cases gI p.1 bind mt (putIn m1 bind1 mt1 (putS me) vs1) (wipeP env (own.map (·.2))) p.2 [] S1 <;> exact fun k => k
    · obtain ⟨n, hn, eo⟩ := a2
      subst eo
      refine ⟨D, _, n, rfl, d2, fun ks q up mem len nq => ?_⟩
      have e : ks = sortU ns := rising_one up sortU_up fun k => by rw [mem, sortU_mem]; simp
      subst e
      obtain ⟨w3, l3⟩ := w2.data (o := SetO X.w D (fun j => decide (j ∈ ns)) n) del_same
      rw [del_upd d2] at w3
      exact k2 _ _ q _ l3 w3 nq (rvs_ints _)
/-! ### {k: v for .. for ..} -/
def putD (k e : ME PV) : En → List (Key × PV) → Sto → ER (List (Key × PV)) := fun env acc S => (noEx (k env S)).bind fun y S => (noEx (e env S)).bind fun z S => match keyP y with
  | some q => if acc.length < 100000 then .ok (putKp acc q z) S else .err
  | none => .err
noncomputable def eDc2 {ι : Type} (m : ME (Src ι)) (bind : ι → En → Option En) (t : ME Bool) (put : En → List (Key × PV) → Sto → ER (List (Key × PV))) (vs : List Nat) : ME PV := fun env S => (m env S).bind fun p S => dFin (gI p.1 bind t put (wipeP env vs) p.2 [] S)
end
section
variable {ι κ α : Type} {C : Sto → Prop} {bind : ι → En → Option En} {t : ME Bool} {put : En → α → Sto → ER α} {env0 : En} {X : WXE}
open Classical in
/-- what is known when so many are gone through -/
theorem gI_go {Q : α → Sto → Prop} (g : κ → ι) (I : List κ → α → Sto → Prop) (hC : ∀ i acc S, I i acc S → C S) : ∀ {ks pre : List κ} {acc : α} {S : Sto}, I pre acc S →
    (∀ p k q acc S, ks = p ++ k :: q → I (pre ++ p) acc S → wO (bind (g k) env0) fun env1 => wE (t env1 S) (fun b S => if b = true then wE (put env1 acc S) (I (pre ++ p ++ [k])) X else I (pre ++ p ++ [k]) acc S) never) → (∀ acc S, I (pre ++ ks) acc S → Q acc S) → wE (gI C bind t put env0 (ks.map g) acc S) Q X
  | [], pre, acc, S, h, step, fin => by
    unfold gI
    show wE (if C S then _ else _) _ _
    rw [if_pos (hC _ _ _ h), w_ok]
    exact fin _ _ (by rw [List.append_nil]; exact h)
  | k :: ks, pre, acc, S, h, step, fin => by
    show wE (gI C bind t put env0 (g k :: ks.map g) acc S) Q X
    unfold gI
    rw [if_pos (hC _ _ _ h)]
    have st := step [] k ks acc S rfl (by rw [List.append_nil]; exact h)
    rw [List.append_nil] at st
    have ih : ∀ {acc : α} {S : Sto}, I (pre ++ [k]) acc S → wE (gI C bind t put env0 (ks.map g) acc S) Q X := fun {acc S} h2 => gI_go g I hC h2 (fun p k2 q acc S e h3 => by
      have := step (k :: p) k2 q acc S (by rw [e]; rfl) (by rw [List.append_assoc] at h3; exact h3)
      rw [List.append_assoc pre [k] p]
      exact this) fun acc S h3 => fin acc S (by rw [List.append_assoc] at h3; exact h3)
    cases hb : bind (g k) env0 with
    | none => rw [hb, o_none] at st; exact st.elim
    | some env1 =>
      rw [hb, o_some] at st
      show wE ((noEx (t env1 S)).bind _) Q X
      rw [w_bind, w_noEx]
      refine w_imp st fun b S1 q => ?_
      cases b with
      | false => exact ih q
      | true =>
        show wE ((put env1 acc S1).bind _) Q X
        rw [w_bind]
        exact w_imp q fun a S2 q => ih q
theorem gI_w {Q : α → Sto → Prop} {ks : List κ} {acc : α} {S : Sto} (g : κ → ι) (I : List κ → α → Sto → Prop) (hC : ∀ i acc S, I i acc S → C S) (h : I [] acc S)
    (step : ∀ p k q acc S, ks = p ++ k :: q → I p acc S → wO (bind (g k) env0) fun env1 => wE (t env1 S) (fun b S => if b = true then wE (put env1 acc S) (I (p ++ [k])) X else I (p ++ [k]) acc S) never) (fin : ∀ acc S, I ks acc S → Q acc S) : wE (gI C bind t put env0 (ks.map g) acc S) Q X :=
  gI_go g I hC h (fun p k q acc S e h2 => step p k q acc S e h2) fun acc S h2 => fin acc S h2
end
section
variable {ι ι1 α : Type} {env : En} {S : Sto} {X : WXE} {acc : α}
theorem w_putIn {m1 : ME (Src ι1)} {bind1 : ι1 → En → Option En} {t1 : ME Bool} {put : En → α → Sto → ER α} {vs1 : List Nat} {Q : α → Sto → Prop} : wE (putIn m1 bind1 t1 put vs1 env acc S) Q X = wE (m1 env S) (fun p S => wE (gI p.1 bind1 t1 put (wipeP env vs1) p.2 acc S) Q X) never := by
  unfold putIn; rw [w_bind, w_noEx]
theorem w_putS {e : ME PV} {acc : List Int} {Q : List Int → Sto → Prop} : wE (putS e env acc S) Q X = wE (e env S) (fun y S => asI y fun k => acc.length < 4000 ∧ Q (acc ++ [k]) S) never := by
  unfold putS; rw [w_bind, w_noEx]
  have : ∀ (y : PV) (S : Sto), wE (match y with | .int k => if acc.length < 4000 then .ok (acc ++ [k]) S else .err | _ => .err : ER (List Int)) Q X = asI y fun k => acc.length < 4000 ∧ Q (acc ++ [k]) S := fun y S => by
    cases y with
    | int k => show wE (if _ then _ else _) _ _ = _; rw [w_guard, w_ok]; rfl
    | _ => exact w_err
  simp only [this]
theorem w_putD {k e : ME PV} {acc : List (Key × PV)} {Q : List (Key × PV) → Sto → Prop} : wE (putD k e env acc S) Q X = wE (k env S) (fun y S => wE (e env S) (fun z S => wO (keyP y) fun q => acc.length < 100000 ∧ Q (putKp acc q z) S) never) never := by
  unfold putD; rw [w_bind, w_noEx]
  have : ∀ (y z : PV) (S : Sto), wE (match keyP y with | some q => if acc.length < 100000 then .ok (putKp acc q z) S else .err | none => .err : ER (List (Key × PV))) Q X = wO (keyP y) fun q => acc.length < 100000 ∧ Q (putKp acc q z) S := fun y z S => by
    cases keyP y with
    | some q => show wE (if _ then _ else _) _ _ = _; rw [w_guard, w_ok]; rfl
    | none => exact w_err
  simp only [w_bind, w_noEx, this]
theorem w_nSortC {ι : Type} {m : ME (Src ι)} {bind : ι → En → Option En} {t : ME Bool} {put : En → List Int → Sto → ER (List Int)} {vs : List Nat} {Q : List PV → Sto → Prop} : wE (nSortC (α := Unit) m bind t put vs env S) Q X = wE (m env S) (fun p S => wE (gI p.1 bind t put (wipeP env vs) p.2 [] S) (fun ns S => Q ((sortU ns).map .int) S) X) X := by
  unfold nSortC; simp only [w_bind, w_ok]
theorem w_eDc2 {ι : Type} {m : ME (Src ι)} {bind : ι → En → Option En} {t : ME Bool} {put : En → List (Key × PV) → Sto → ER (List (Key × PV))} {vs : List Nat} {Q : PV → Sto → Prop} : wE (eDc2 m bind t put vs env S) Q X = wE (m env S) (fun p S => wE (gI p.1 bind t put (wipeP env vs) p.2 [] S) (fun kvs S => Q (.ref S.length) (S ++ [.dic kvs])) X) X := by
  unfold eDc2 dFin; simp only [w_bind, w_ok]
end
end Pv

/-! A thing is equal to itself. -/
namespace Pv
open PySem PySem.Spec PyProof.Rows L2 Tc
/-- plain things, so deep -/
def okD : Nat → PV → Bool
  | _, .non => true
  | _, .bl _ => true
  | _, .int _ => true
  | _, .str _ => true
  | n + 1, .tup xs => xs.all (okD n)
  | n + 1, .fl xs => xs.all (okD n)
  | n + 1, .ro xs => xs.all (okD n)
  | _, _ => false
theorem mapO_some {α β : Type} {f : α → Option β} : ∀ {xs : List α}, (∀ x ∈ xs, ∃ y, f x = some y) → ∃ ys, mapO f xs = some ys
  | [], _ => ⟨[], rfl⟩
  | x :: xs, h => by
    obtain ⟨y, e1⟩ := h x List.mem_cons_self
    obtain ⟨ys, e2⟩ := mapO_some fun z hz => h z (List.mem_cons_of_mem _ hz)
    exact ⟨y :: ys, by unfold mapO; rw [e1, e2]⟩
theorem okD_some {S : Sto} : ∀ {n : Nat} {x : PV}, okD n x = true → ∃ d, pyD S n x = some d
  | 0, .non, _ => ⟨_, rfl⟩
  | 0, .bl _, _ => ⟨_, rfl⟩
  | 0, .int _, _ => ⟨_, rfl⟩
  | 0, .str _, _ => ⟨_, rfl⟩
  | n + 1, .non, _ => ⟨_, rfl⟩
  | n + 1, .bl _, _ => ⟨_, rfl⟩
  | n + 1, .int _, _ => ⟨_, rfl⟩
  | n + 1, .str _, _ => ⟨_, rfl⟩
  | n + 1, .tup xs, h => by
    obtain ⟨ys, e⟩ := mapO_some (f := pyD S n) (xs := xs) fun x hx => okD_some (List.all_eq_true.mp (show xs.all (okD n) = true from h) x hx)
    exact ⟨.tuple ys, by show (mapO (pyD S n) xs).map PyData.tuple = _; rw [e]; rfl⟩
  | n + 1, .fl xs, h => by
    obtain ⟨ys, e⟩ := mapO_some (f := pyD S n) (xs := xs) fun x hx => okD_some (List.all_eq_true.mp (show xs.all (okD n) = true from h) x hx)
    exact ⟨.list ys, by show (mapO (pyD S n) xs).map PyData.list = _; rw [e]; rfl⟩
  | n + 1, .ro xs, h => by
    obtain ⟨ys, e⟩ := mapO_some (f := pyD S n) (xs := xs) fun x hx => okD_some (List.all_eq_true.mp (show xs.all (okD n) = true from h) x hx)
    exact ⟨.list ys, by show (mapO (pyD S n) xs).map PyData.list = _; rw [e]; rfl⟩
theorem mapO_all {α : Type} {f : α → Option PyData} (hf : ∀ x d, f x = some d → PyData.eqv d d = true) : ∀ {xs : List α} {ds : List PyData}, mapO f xs = some ds → PyData.eqvAll ds ds = true
  | [], _, e => by cases e; rfl
  | x :: xs, ds, e => by
    unfold mapO at e
    cases e1 : f x with
    | none => rw [e1] at e; cases e
    | some d =>
      cases e2 : mapO f xs with
      | none => rw [e1, e2] at e; cases e
      | some r =>
        rw [e1, e2] at e
        cases e
        show (PyData.eqv d d && PyData.eqvAll r r) = true
        rw [hf x d e1, mapO_all hf e2]; rfl
theorem eqv_same {S : Sto} : ∀ {n : Nat} {x : PV} {d : PyData}, pyD S n x = some d → PyData.eqv d d = true := by
  have atm : ∀ {x : PV} {d : PyData}, atomD x = some d → PyData.eqv d d = true := fun {x d} e => by
    unfold atomD at e
    split at e
    · cases e; rfl
    · cases e; rename_i b; cases b <;> rfl
    · cases e; rename_i i; show decide (i = i) = true; simp
    · cases e; rename_i i; show decide (i = i) = true; simp
    · cases e
  intro n
  induction n with
  | zero => intro x d e; exact atm e
  | succ n ih =>
    intro x d e
    have lst : ∀ {xs : List PV} {C : List PyData → PyData}, (∀ a, PyData.eqv (C a) (C a) = PyData.eqvAll a a) → (mapO (pyD S n) xs).map C = some d → PyData.eqv d d = true := fun {xs C} hC e => by
      cases e1 : mapO (pyD S n) xs with
      | none => rw [e1] at e; cases e
      | some ds =>
        rw [e1] at e
        cases e
        rw [hC]
        exact mapO_all (fun x d h => ih h) e1
    unfold pyD at e
    split at e
    · exact lst (fun _ => rfl) e
    · exact lst (fun _ => rfl) e
    · exact lst (fun _ => rfl) e
    · split at e
      · exact lst (fun _ => rfl) e
      · cases e
    · exact atm e
theorem eq_same {S : Sto} {x y : PV} {d : PyData} (h1 : pyD S 60 x = some d) (h2 : pyD S 60 y = some d) : eqB S x y = some true := by
  have e := eqv_same h1
  unfold eqB
  split
  · cases h1; cases h2; simp
  · cases h1; cases h2; simp
  · cases h1; cases h2; simp
  · rw [h1, h2, ]
    show some (PyData.eqv d d) = _
    rw [e]
theorem ne_refl {S : Sto} {x : PV} (h : okD 60 x = true) : neP S x x = some (.bl false) := by
  obtain ⟨d, e⟩ := okD_some (S := S) h
  unfold neP
  rw [eq_same e e]; rfl
theorem okD_fl {n : Nat} {xs : List PV} : okD (n + 1) (.fl xs) = xs.all (okD n) := rfl
theorem okD_map {α : Type} {n : Nat} {f : α → PV} (h : ∀ a, okD n (f a) = true) (xs : List α) : (xs.map f).all (okD n) = true := List.all_eq_true.mpr fun z hz => by
  obtain ⟨a, _, rfl⟩ := List.mem_map.mp hz
  exact h a
end Pv

/-! list(range(..)). -/
namespace Pv
open PySem PySem.Spec PyProof.Rows L2 Tc
section
variable {X : Cx} {G : Gb} {Wx : WX} {a b : Expr} {p p2 pos pos2 : Pos} {ma mb : ME PV}
def nRg (S : Sto) (x y : PV) : ER (List PV) := match x, y with
  | .int i, .int j => if 0 ≤ i ∧ i ≤ 100000 ∧ 0 ≤ j ∧ j ≤ 100000 then .ok (rngL i (j - i).toNat) S else .err
  | _, _ => .err
def nLRg1 (ma : ME PV) : ME (List PV) := fun env S => (ma env S).bind fun x S => nRg S (.int 0) x
def nLRg2 (ma mb : ME PV) : ME (List PV) := fun env S => (ma env S).bind fun x S => (mb env S).bind fun y S => nRg S x y
end
section
variable {env : En} {S : Sto} {X : WXE} {ma mb : ME PV} {Q : List PV → Sto → Prop}
theorem w_nLRg1 : wE (nLRg1 ma env S) Q X = wE (ma env S) (fun x S => asI x fun j => (0 ≤ j ∧ j ≤ 100000) ∧ Q (rngL 0 j.toNat) S) X := by
  unfold nLRg1
  rw [w_bind]
  congr 1
  funext x S
  cases x with
  | int j =>
    show wE (if _ then _ else _) _ _ = _
    rw [w_guard, w_ok]
    show (_ ∧ _) = (_ ∧ _)
    rw [show j - 0 = j by omega]
    exact propext ⟨fun ⟨h, q⟩ => ⟨⟨h.2.2.1, h.2.2.2⟩, q⟩, fun ⟨h, q⟩ => ⟨⟨by omega, by omega, h.1, h.2⟩, q⟩⟩
  | _ => exact w_err
theorem w_nLRg2 : wE (nLRg2 ma mb env S) Q X = wE (ma env S) (fun x S => wE (mb env S) (fun y S => asI x fun i => asI y fun j => (0 ≤ i ∧ i ≤ 100000 ∧ 0 ≤ j ∧ j ≤ 100000) ∧ Q (rngL i (j - i).toNat) S) X) X := by
  unfold nLRg2
  simp only [w_bind]
  have : ∀ (x y : PV) (S : Sto), wE (nRg S x y) Q X = asI x fun i => asI y fun j => (0 ≤ i ∧ i ≤ 100000 ∧ 0 ≤ j ∧ j ≤ 100000) ∧ Q (rngL i (j - i).toNat) S := fun x y S => by
    cases x with
    | int i =>
      cases y with
      | int j =>
        show wE (if _ then _ else _) _ _ = _
        rw [w_guard, w_ok]; rfl
      | _ => exact w_err
    | _ => exact w_err
  simp only [this]
end
end Pv

/-! The head by facts: names, defs, and what else is true of the written part. -/
namespace Pv
open PySem PySem.Spec PyProof.Rows L2 Tc
section
variable {fa : List He.Fa} {fn : List He.DefD} {ex : List Bf} {K : PySem.W.Frag}
theorem SaysM.d (c : SaysM fa fn ex K) : He.SaysD fa fn K := congrArg (fun z : AlM => z.1) c
theorem SaysM.fact (c : SaysM fa fn ex K) (i : Nat) {f : He.Fa} (h : fa[i]? = some f := by rfl) : f.ok K = true := c.d.fact i h
theorem SaysM.def_ (c : SaysM fa fn ex K) (i : Nat) {d : He.DefD} (h : fn[i]? = some d := by rfl) : ∃ fd, FunD K d.name d.qual d.params d.body d.scope (d.dvs K) (d.kws K) (He.fAd K d.at_) fd := c.d.def_ i h
theorem SaysM.more (c : SaysM fa fn ex K) (i : Nat) {b : Bf} (h : ex[i]? = some b := by rfl) : b K = true := by
  have c1 : (ex.all fun b => b K) = true := congrArg (fun z : AlM => z.2) c
  exact List.all_eq_true.mp c1 b (List.mem_of_getElem? h)
end
/-! ### facts of exceptions -/
end Pv

/-! Calls that leave defaults out; calls with keywords within a try. -/
namespace Pv
open PySem PySem.Spec PyProof.Rows L2 Tc
section
variable {X : Cx} {G : Gb} {Wx : WX} {e : Expr} {es : List Expr} {pos p kpos : Pos} {ma : ME PV} {ms mk : ME (List PV)} {x : Str} {kws : List Keyword} {nm : Option Str}
def eCallDf (n : Nat) (m : List PV → Sto → ER PV) (dv : List PV) (ms : ME (List PV)) : ME PV := fun env S => (ms env S).bind fun xs S => if xs.length = n then m (xs ++ dv) S else .err
theorem ve_callDf {k n a : Nat} {f : Addr} {fd : FuncData} {ps : List Str} {dvs : List V} {dv : List PV} {m : List PV → Sto → ER PV} (F : FnOk X.prog X.w X.K X.mg X.base (L2N.CX X.prog X.w) k f fd ps (spM G a m)) (hr : Room k X.A) (hg : Gl X x) (hm : X.mg x = some (.ref f)) (hk : PySem.W.keepIn X.K (.ref f) = true)
    (hb : ∃ ds, Vals dvs ds ∧ Binds X.K fd ps ds) (hx : ∀ σ, PassesAt (L2N.CX X.prog X.w) X σ (WE Wx σ)) (hd : ∀ W, RVs G.K W dvs dv) (hn : n + dv.length = a) (ha : PA X (e :: es) (tA G Wx ms)) (hdb : (x == ("__debug__" : Str)) = false := by decide)
    (he : starEach (e :: es) X.env = (false, eval e X.env) :: starEach es X.env := by rfl) (hpl : (backTo pos (starEach es X.env)).any (·.1) = false := by rfl) : PE X (.Call (.Name x p) (e :: es) [] pos) (tE G Wx (eCallDf n m dv ms)) := by
  obtain ⟨ds, r, b⟩ := hb
  refine pe_of (pe_callSD F hr hg hm hk b r hx ha hdb he hpl) fun σ H Q ⟨W, S, env, w, en, k⟩ => ⟨W, S, env, w, en, kR_bind k fun xs S1 W1 H1 vs l1 w1 r1 k1 => ?_⟩
  split at k1
  · exact ⟨W1, S1, xs ++ dv, w1, r1.append (hd W1), by rw [List.length_append]; omega, k1⟩
  · exact k1.elim
theorem run_SN {k n : Nat} {f : Addr} {fd : FuncData} {ps ks : List Str} {sp : Sp} {E : L2.St → XK} {g : List Value → List Value → List Value} {gV : List V → List V → List V} {pins : List (Addr × Obj)} {σ : L2.St} {H : Hp} {s : Shared} {Q : VK} {us ws : List Value} {vs zs : List V} {CX : CXT}
    (F : FnOk X.prog X.w X.K X.mg X.base CX k f fd ps sp) (hr : Room k X.A) (hb : KBn X.K fd ps n ks g gV) (hx : PassesAt CX X σ (E σ)) (I : Inv X pins σ H s) (r : Vals vs us) (rz : Vals zs ws) (l1 : vs.length = n) (l2 : zs.length = ks.length) (h : sp (gV vs zs) H Q (E σ)) :
    wpAny (model X.prog X.w) X.A (call (.ref f) us (ks.zip ws)) (EP X pins σ Q) X.xe s := by
  refine wpAny_call (codeAny_mono (F.run X.A X.stack s H ⟨us, ks.zip ws⟩ (g us ws) (gV vs zs) Q (E σ) hr I.env0 (hb.to s us ws I.kIn (r.length.symm.trans l1) (rz.length.symm.trans l2)) (hb.rel r rz) h) fun r s' hq => ?_)
  cases r with
  | error e => exact hx pins H s e s' I hq
  | ok fl => cases fl with
    | ret u => exact I.after hq
    | _ => exact False.elim hq
theorem ve_callNS {k n a : Nat} {f : Addr} {fd : FuncData} {ps ks : List Str} {m : List PV → Sto → ER PV} {g : List Value → List Value → List Value} (F : FnOk X.prog X.w X.K X.mg X.base (L2N.CX X.prog X.w) k f fd ps (spM G a m)) (hr : Room k X.A) (hg : Gl X x) (hm : X.mg x = some (.ref f)) (hk : PySem.W.keepIn X.K (.ref f) = true)
    (hb : KBn X.K fd ps n ks g (· ++ ·)) (hx : ∀ σ, PassesAt (L2N.CX X.prog X.w) X σ (WE Wx σ)) (hn : n + ks.length = a)
    (ha : PA X (e :: es) (tA G Wx ms)) (hkw : PK X kws (tA G Wx mk)) (hall : (backToKw pos (keywordEach kws X.env)).all (·.1.isSome) = true := by rfl) (hks : (backToKw pos (keywordEach kws X.env)).filterMap (·.1) = ks := by rfl)
    (hdb : (x == ("__debug__" : Str)) = false := by decide) (he : starEach (e :: es) X.env = (false, eval e X.env) :: starEach es X.env := by rfl)
    (hpl : ((backTo pos (starEach (e :: es) X.env)).any (·.1) || (backToKw pos (keywordEach kws X.env)).any (·.1.isNone)) = false := by rfl) :
    PE X (.Call (.Name x p) (e :: es) kws pos) (tE G Wx (eCallN n ks.length m ms mk)) := by
  refine ⟨fun pins s σ H Q I ⟨W, S, env, w, en, k⟩ => ?_⟩
  refine wpAny_Call_Name_kw (ld_glob I hg hm ?_ hdb)
  refine PySem.W.callWith_KW (h₀ := X.base) I.ok.mod.kin hk hall (thn (ha.run pos pins s σ H (fun vs H1 => tA G Wx mk σ H1 fun zs H2 => vs.length = n ∧ zs.length = ks.length ∧ spM G a m (vs ++ zs) H2 Q (WE Wx σ)) I ⟨W, S, env, w, en, kR_bind k fun xs S1 W1 H1 vs l1 w1 r1 k1 => ⟨W1, S1, env, w1, en.mono l1, kR_bind k1 fun zs S2 W2 H2 us l2 w2 r2 k2 => ?_⟩⟩) fun us s1 ⟨vs, H1, I1, r, q⟩ => ?_) hpl he
  · split at k2
    · rename_i hl
      exact ⟨by rw [r1.length]; exact hl.1, by rw [r2.length]; exact hl.2, W2, S2, xs ++ zs, w2, (r1.mono l2).append r2, by rw [List.length_append]; omega, k2⟩
    · exact k2.elim
  · refine thn (hkw.run pos pins s1 σ H1 _ I1 q) fun ws s2 ⟨zs, H2, I2, rz, l1, l2, q2⟩ => ⟨I2.kIn, ?_⟩
    rw [hks]
    exact run_SN F hr hb (hx σ) I2 r rz l1 l2 q2
end
section
variable {env : En} {S : Sto} {X : WXE} {Q : PV → Sto → Prop} {n : Nat}
theorem w_callDf {m : List PV → Sto → ER PV} {dv : List PV} {ms : ME (List PV)} : wE (eCallDf n m dv ms env S) Q X = wE (ms env S) (fun xs S => xs.length = n ∧ wE (m (xs ++ dv) S) Q X) X := by unfold eCallDf; simp only [w_bind, w_guard]
theorem w_callN {k : Nat} {m : List PV → Sto → ER PV} {ms mk : ME (List PV)} : wE (eCallN n k m ms mk env S) Q X = wE (ms env S) (fun xs S => wE (mk env S) (fun zs S => (xs.length = n ∧ zs.length = k) ∧ wE (m (xs ++ zs) S) Q X) X) X := by unfold eCallN; simp only [w_bind, w_guard]
end
end Pv

/-! xs[::-1]. -/
namespace Pv
open PySem PySem.Spec PyProof.Rows L2 Tc
section
variable {X : Cx} {G : Gb} {Wx : WX} {e : Expr} {ma : ME PV} {kk : Nat} {p1 p2 p3 pos : Pos}
def nRev (m : ME PV) : ME (List PV) := fun env S => (m env S).bind fun x S => optR ((lsqS S x).map List.reverse) S
theorem RVs.reverse {K : PySem.W.Frag} {W : Wo} : ∀ {v : List V} {x : List PV}, RVs K W v x → RVs K W v.reverse x.reverse
  | _, _, .nil => .nil
  | _, _, .cons h t => by rw [List.reverse_cons, List.reverse_cons]; exact (RVs.reverse t).snoc h
end
theorem w_nRev {env : En} {S : Sto} {X : WXE} {Q : List PV → Sto → Prop} {ma : ME PV} : wE (nRev ma env S) Q X = wE (ma env S) (fun x S => wO (lsqS S x) fun xs => Q xs.reverse S) X := by unfold nRev; simp only [w_bind, w_optR, o_map]
end Pv

/-! Dicts asked with a default; what is in a list; logs in lists of the store. -/
namespace Pv
open PySem PySem.Spec PyProof.Rows L2 Tc
section
variable {env : En} {S : Sto} {X : WXE} {mo mk md : ME PV} {Q : PV → Sto → Prop}
theorem w_get2 : wE (eGet2 mo mk md env S) Q X = wE (mo env S) (fun x S => wO (dicS S x) fun _ => wE (mk env S) (fun y S => wE (md env S) (fun z S => wO (dicS S x) fun kvs => wO (keyP y) fun k => Q ((getK kvs k).getD z) S) X) X) X := by
  unfold eGet2
  rw [w_bind]
  congr 1
  funext x S
  cases h : dicS S x with
  | none => exact w_err
  | some kvs =>
    rw [o_some]
    simp only [w_bind]
    congr 1
    funext y S2
    congr 1
    funext z S3
    cases dicS S3 x with
    | none => rw [o_none]; exact w_err
    | some kvs2 =>
      cases keyP y with
      | none => rw [o_some, o_none]; exact w_err
      | some k => rw [o_some, o_some]; exact w_ok
end
def optI : Option Int → PV
  | none => .non
  | some w => .int w
theorem mapO_of {α β γ : Type} {f : β → Option γ} {g : α → β} {h : α → γ} (e : ∀ a, f (g a) = some (h a)) : ∀ xs : List α, mapO f (xs.map g) = some (xs.map h)
  | [] => rfl
  | x :: xs => by
    show (match f (g x), mapO f (xs.map g) with | some d, some ds => some (d :: ds) | _, _ => none) = _
    rw [e, mapO_of e xs]; rfl
theorem in_ints {S : Sto} {k : Int} {ns : List Int} : inP S (.int k) (.fl (ns.map .int)) = some (.bl (decide (k ∈ ns))) := by
  have m : mapO (pyD S 60) (ns.map PV.int) = some (ns.map PyData.int) := mapO_of (f := pyD S 60) (g := PV.int) (h := PyData.int) (fun _ => rfl) ns
  show (match pyD S 60 (.int k), (some (ns.map PV.int)).bind (mapO (pyD S 60)) with | some d, some ds => some (ds.any fun z => PyData.eqv z d) | _, _ => none).map PV.bl = _
  show (match (some (PyData.int k)), mapO (pyD S 60) (ns.map PV.int) with | some d, some ds => some (ds.any fun z => PyData.eqv z d) | _, _ => none).map PV.bl = _
  rw [m]
  show some (PV.bl ((ns.map PyData.int).any fun z => PyData.eqv z (.int k))) = _
  congr 2
  clear m
  induction ns with
  | nil => rfl
  | cons n ns ih =>
    rw [List.map_cons, List.any_cons, ih]
    show (decide (n = k) || decide (k ∈ ns)) = _
    by_cases h : n = k
    · subst h; simp
    · have : ¬ k = n := fun e => h e.symm
      simp [h, this]
theorem in_rows {S : Sto} {r : Rw} {rows : List Rw} : inP S (.tup [.int r.1, .int r.2]) (tabP rows) = some (.bl (decide (r ∈ rows))) := by
  have m : mapO (pyD S 60) (rows.map rowP) = some (rows.map rowD) := mapO_of (f := pyD S 60) (g := rowP) (h := rowD) (fun _ => rfl) rows
  show (match (some (rowD r)), mapO (pyD S 60) (rows.map rowP) with | some d, some ds => some (ds.any fun z => PyData.eqv z d) | _, _ => none).map PV.bl = _
  rw [m]
  show some (PV.bl ((rows.map rowD).any fun z => PyData.eqv z (rowD r))) = _
  congr 2
  clear m
  induction rows with
  | nil => rfl
  | cons q rows ih =>
    rw [List.map_cons, List.any_cons, ih]
    show ((decide (q.1 = r.1) && (decide (q.2 = r.2) && true)) || decide (r ∈ rows)) = _
    obtain ⟨a, b⟩ := q
    obtain ⟨c, d⟩ := r
    by_cases h : a = c
    · by_cases h2 : b = d
      · subst h h2; simp
      · have : ¬ d = b := fun e => h2 e.symm
        simp [h, h2, this]
    · have : ¬ c = a := fun e => h e.symm
      simp [h, this]
/-- a log as it may stand -/
def LogV (S : Sto) (pv : PV) (es : List Ent) : Prop := pv = logP es ∨ ∃ i, pv = .ref i ∧ S[i]? = some (.lst (es.map entP))
theorem LogV.app {S : Sto} {pv : PV} {es : List Ent} {o : Ob} (h : LogV S pv es) : LogV (S ++ [o]) pv es := h.elim .inl fun ⟨i, e, g⟩ => .inr ⟨i, e, get_old g⟩
theorem LogV.len {S : Sto} {pv : PV} {es : List Ent} (h : LogV S pv es) : lenG S pv = some (.int (es.length : Nat)) := by
  rcases h with rfl | ⟨i, rfl, g⟩
  · show some (PV.int ((es.map entP).length : Nat)) = _; rw [List.length_map]
  · rw [len_lst g, List.length_map]
theorem LogV.sl {S : Sto} {pv : PV} {es : List Ent} (h : LogV S pv es) (lo hi : Option Int) : slP S pv lo hi = some (.fl (cutP (es.map entP) lo hi)) := by
  rcases h with rfl | ⟨i, rfl, g⟩
  · rfl
  · show (lsqS S (.ref i)).map _ = _
    rw [lsq_lst g]; rfl
end Pv

/-! Things of own classes: attributes, methods, new ones. -/
namespace Pv
open PySem PySem.Spec PyProof.Rows L2 Tc
/-! ### attributes -/
def putFp (f : Str) (v : PV) : List (Str × PV) → List (Str × PV)
  | [] => [(f, v)]
  | (g, x) :: r => if g = f then (g, v) :: r else (g, x) :: putFp f v r
def insS (S : Sto) (c : Str) (x : PV) : Option (Nat × List (Str × PV)) := match x with
  | .ref i => (match S[i]? with
    | some (.ins c' fs) => if c' = c then some (i, fs) else none
    | _ => none)
  | _ => none
def eFldO (c f : Str) (m : ME PV) : ME PV := fun env S => (m env S).bind fun x S => optR ((insS S c x).bind fun p => p.2.lookup f) S
def sFldO (c f : Str) (mo m : ME PV) : MS := fun env S => (m env S).then env fun y S => (mo env S).then env fun x S => match insS S c x with
  | some (i, fs) => if fs.length < 900 then .nx env (S.set i (.ins c (putFp f y fs))) else .err
  | none => .err
def sFldAugO (c f : Str) (mo m : ME PV) : MS := fun env S => (mo env S).then env fun x S => match (insS S c x).bind fun p => p.2.lookup f with
  | some (.int k) => (m env S).then env fun y S => (match y, insS S c x with
    | .int l, some (i, fs) => if fs.length < 900 then .nx env (S.set i (.ins c (putFp f (.int (k + l)) fs))) else .err
    | _, _ => .err)
  | _ => .err
section
variable {X : Cx} {G : Gb} {Wx : WX} {e o value : Expr} {es : List Expr} {pos pos' tpos : Pos} {ma mo : ME PV} {ms : ME (List PV)} {c f m x : Str} {C : Addr}
/-! ### methods -/
/-- a thing of the class at hand: an instance that has no attribute of the method's name, or a box -/
def headS (S : Sto) (c m : Str) (x : PV) : Option Nat := match x with
  | .ref i => (match S[i]? with
    | some (.ins c' fs) => if c' = c ∧ fs.lookup m = none then some i else none
    | some (.box c' _) => if c' = c then some i else none
    | _ => none)
  | _ => none
def eMeth (c m : Str) (n : Nat) (dv : List PV) (fn : List PV → Sto → ER PV) (mo : ME PV) (ms : ME (List PV)) : ME PV := fun env S => (mo env S).bind fun x S => match headS S c m x with
  | some _ => (ms env S).bind fun xs S => if xs.length = n then fn (x :: (xs ++ dv)) S else .err
  | none => .err
end
end Pv

/-! New things of own classes; methods with keywords. -/
namespace Pv
open PySem PySem.Spec PyProof.Rows L2 Tc
section
variable {X : Cx} {G : Gb} {Wx : WX} {e o : Expr} {es : List Expr} {pos p apos : Pos} {mo : ME PV} {ms mk : ME (List PV)} {c m x : Str} {C f : Addr} {fd : FuncData} {ps : List Str} {kws : List Keyword}
/-! ### new ones -/
def eMake (c : Str) (n : Nat) (dv : List PV) (fn : List PV → Sto → ER PV) (ms : ME (List PV)) : ME PV := fun env S => (ms env S).bind fun xs S => if xs.length = n then ((fn (.ref S.length :: (xs ++ dv)) (S ++ [.ins c []])).bind fun r S' => match r with
  | .non => .ok (.ref S.length) S'
  | _ => .err) else .err
/-! ### methods with keywords -/
def eMethN (c m : Str) (n kn : Nat) (fn : List PV → Sto → ER PV) (mo : ME PV) (ms mk : ME (List PV)) : ME PV := fun env S => (mo env S).bind fun x S => match headS S c m x with
  | some _ => (ms env S).bind fun xs S => (mk env S).bind fun zs S => if xs.length = n ∧ zs.length = kn then fn (x :: (xs ++ zs)) S else .err
  | none => .err
end
/-! ### by values -/
section
variable {env : En} {S : Sto} {X : WXE} {Q : PV → Sto → Prop} {n : Nat} {c m f : Str} {mo ma : ME PV} {ms mk : ME (List PV)} {fn : List PV → Sto → ER PV} {dv : List PV}
theorem insS_w {i : Nat} {fs : List (Str × PV)} (h : S[i]? = some (.ins c fs)) : insS S c (.ref i) = some (i, fs) := by
  unfold insS
  simp only [h, if_true]
theorem headS_w {i : Nat} {fs : List (Str × PV)} (h : S[i]? = some (.ins c fs)) (hn : fs.lookup m = none) : headS S c m (.ref i) = some i := by
  unfold headS
  simp only [h, hn, and_self, if_true]
theorem w_eFldO : wE (eFldO c f ma env S) Q X = wE (ma env S) (fun x S => wO ((insS S c x).bind fun p => p.2.lookup f) fun y => Q y S) X := by
  unfold eFldO
  simp only [w_bind, w_optR]
theorem w_eMeth : wE (eMeth c m n dv fn mo ms env S) Q X = wE (mo env S) (fun x S => (∃ i, headS S c m x = some i) ∧ wE (ms env S) (fun xs S => xs.length = n ∧ wE (fn (x :: (xs ++ dv)) S) Q X) X) X := by
  unfold eMeth
  rw [w_bind]
  congr 1
  funext x S
  cases h : headS S c m x with
  | none => simp only [w_err, reduceCtorEq, exists_false, false_and]
  | some i => simp only [w_bind, w_guard, Option.some.injEq, exists_eq', true_and]
theorem w_eMethN {kn : Nat} : wE (eMethN c m n kn fn mo ms mk env S) Q X = wE (mo env S) (fun x S => (∃ i, headS S c m x = some i) ∧ wE (ms env S) (fun xs S => wE (mk env S) (fun zs S => (xs.length = n ∧ zs.length = kn) ∧ wE (fn (x :: (xs ++ zs)) S) Q X) X) X) X := by
  unfold eMethN
  rw [w_bind]
  congr 1
  funext x S
  cases h : headS S c m x with
  | none => simp only [w_err, reduceCtorEq, exists_false, false_and]
  | some i => simp only [w_bind, w_guard, Option.some.injEq, exists_eq', true_and]
theorem w_eMake : wE (eMake c n dv fn ms env S) Q X = wE (ms env S) (fun xs S => xs.length = n ∧ wE (fn (.ref S.length :: (xs ++ dv)) (S ++ [.ins c []])) (fun r S' => r = .non ∧ Q (.ref S.length) S') X) X := by
  unfold eMake
  rw [w_bind]
  congr 1
  funext xs S
  rw [w_guard, w_bind]
  congr 1
  congr 1
  funext r S'
  cases r with
  | non => simp only [w_ok, true_and]
  | _ => simp only [w_err, reduceCtorEq, false_and]
end
section
variable {env : En} {S : Sto} {P : Po} {c f : Str} {mo ma : ME PV}
theorem s_fldO : wS (sFldO c f mo ma env S) P = wE (ma env S) (fun y S => wE (mo env S) (fun x S => wO (insS S c x) fun p => p.2.length < 900 ∧ P.N env (S.set p.1 (.ins c (putFp f y p.2)))) P.X) P.X := by
  unfold sFldO
  rw [w_then]
  congr 1
  funext y S
  rw [w_then]
  congr 1
  funext x S
  cases h : insS S c x with
  | none => rw [wS_eq]; rfl
  | some p =>
    show wS (if p.2.length < 900 then .nx env (S.set p.1 (.ins c (putFp f y p.2))) else .err) P = (p.2.length < 900 ∧ P.N env (S.set p.1 (.ins c (putFp f y p.2))))
    split
    · rename_i hl
      rw [wS_eq]
      exact propext ⟨fun z => ⟨hl, z⟩, fun z => z.2⟩
    · rename_i hl
      rw [wS_eq]
      exact propext ⟨fun z => z.elim, fun z => absurd z.1 hl⟩
theorem s_fldAug : wS (sFldAugO c f mo ma env S) P = wE (mo env S) (fun x S => wO ((insS S c x).bind fun p => p.2.lookup f) fun z => asI z fun k => wE (ma env S) (fun y S => asI y fun l => wO (insS S c x) fun p => p.2.length < 900 ∧ P.N env (S.set p.1 (.ins c (putFp f (.int (k + l)) p.2)))) P.X) P.X := by
  unfold sFldAugO
  rw [w_then]
  congr 1
  funext x S
  cases h : (insS S c x).bind fun p => p.2.lookup f with
  | none => rw [wS_eq]; rfl
  | some z =>
    cases z with
    | int k =>
      show wS ((ma env S).then env _) P = wE (ma env S) _ P.X
      rw [w_then]
      congr 1
      funext y S
      cases y with
      | int l =>
        cases h : insS S c x with
        | none => rw [wS_eq]; rfl
        | some p =>
          show wS (if p.2.length < 900 then .nx env (S.set p.1 (.ins c (putFp f (.int (k + l)) p.2))) else .err) P = (p.2.length < 900 ∧ P.N env (S.set p.1 (.ins c (putFp f (.int (k + l)) p.2))))
          split
          · rename_i hl
            rw [wS_eq]
            exact propext ⟨fun z => ⟨hl, z⟩, fun z => z.2⟩
          · rename_i hl
            rw [wS_eq]
            exact propext ⟨fun z => z.elim, fun z => absurd z.1 hl⟩
      | _ => rw [wS_eq]; exact propext ⟨fun z => z.elim, fun z => z.elim⟩
    | _ => rw [wS_eq]; exact propext ⟨fun z => z.elim, fun z => z.elim⟩
end
end Pv

/-! Chains of three comparisons; upper; str; recursion. -/
namespace Pv
open PySem PySem.Spec PyProof.Rows L2 Tc
section
variable {X : Cx} {G : Gb} {Wx : WX} {a b c d : Expr} {ta tb tc td : TE} {pos : Pos} {ma mb mc md : ME PV} {op op' op2 : CmpOp}
def eChain3 (f g h : Sto → PV → PV → Option PV) (ma mb mc md : ME PV) : ME PV := fun env S => (ma env S).bind fun x S => (mb env S).bind fun y S => (optR (f S x y) S).bind fun z S => (asB z S).bind fun k S =>
  if k = true then (mc env S).bind fun w S => (optR (g S y w) S).bind fun z S => (asB z S).bind fun k S => if k = true then (md env S).bind fun v S => optR (h S w v) S else .ok (.bl false) S else .ok (.bl false) S
/-! ### o.upper() -/
/-! ### a road that is never gone -/
/-! ### str(i) -/
/-! ### a def that calls itself: no steps left -/
end
structure FunG (K : PySem.W.Frag) (x qual : Str) (st : Stmt) (f : Addr) (fd : FuncData) : Prop where
  ex : ∃ dvs kws, FunD K x qual (defArgs st) (defBody st) (defScope st) dvs kws f fd
theorem FunG.kp {K : PySem.W.Frag} {x qual : Str} {st : Stmt} {f : Addr} {fd : FuncData} (F : FunG K x qual st f fd) : PySem.W.keepIn K (.ref f) = true := let ⟨_, _, h⟩ := F.ex; h.kp
/-! ### the empty tuple as a default -/
section
variable {env : En} {S : Sto} {X : WXE} {Q : PV → Sto → Prop} {ma mb mc md : ME PV} {f g h : Sto → PV → PV → Option PV}
theorem w_chain3 : wE (eChain3 f g h ma mb mc md env S) Q X = wE (ma env S) (fun x S => wE (mb env S) (fun y S => wO (f S x y) fun z => wB z fun k => if k = true then wE (mc env S) (fun w S => wO (g S y w) fun z => wB z fun k => if k = true then wE (md env S) (fun v S => wO (h S w v) fun z => Q z S) X else Q (.bl false) S) X else Q (.bl false) S) X) X := by
  unfold eChain3; simp only [w_bind, w_optR, w_asB, w_ite, w_ok]
end
end Pv

/-! Dicts with int keys; the house in the store. -/
namespace Pv
open PySem PySem.Spec PyProof.Rows L2 Tc
/-! ### dicts with int keys -/
section
variable {α : Type} {f : α → PV}
def kvG (f : α → PV) (M : List (Int × α)) : List (Key × PV) := M.map fun r => (Sum.inl r.1, f r.2)
def putG (M : List (Int × α)) (k : Int) (w : α) : List (Int × α) := if (M.any fun r => decide (r.1 = k)) = true then M.map (fun r => if r.1 = k then (r.1, w) else r) else M ++ [(k, w)]
def dropG (M : List (Int × α)) (k : Int) : List (Int × α) := M.filter fun r => decide (r.1 ≠ k)
def getG (M : List (Int × α)) (k : Int) : Option α := (M.find? fun r => decide (r.1 = k)).map (·.2)
theorem getG_none {M : List (Int × α)} {k : Int} : getG M k = none ↔ ∀ r ∈ M, r.1 ≠ k := by
  unfold getG
  rw [Option.map_eq_none_iff, List.find?_eq_none]
  exact ⟨fun h r hr e => h r hr (decide_eq_true e), fun h r hr e => h r hr (of_decide_eq_true e)⟩
theorem getG_some {M : List (Int × α)} {k : Int} {v : α} (h : getG M k = some v) : (k, v) ∈ M := by
  unfold getG at h
  cases e : M.find? fun r => decide (r.1 = k) with
  | none => rw [e] at h; cases h
  | some r =>
    rw [e] at h
    have h1 := List.mem_of_find?_eq_some e
    have h2 := of_decide_eq_true (List.find?_some (p := fun r : Int × α => decide (r.1 = k)) e)
    cases h
    rw [← h2]
    exact h1
end
/-! ### the house -/
structure Rd where
  own : Int
  fst : Int
  lst : Int
  cur : Int
  found : List Rw
  over : Bool
def rdO (r : Rd) : Ob := .ins "Reading" [("owner", .int r.own), ("whole_stretch", .tup [.int r.fst, .int r.lst]), ("cursor", .int r.cur), ("found", .fl (r.found.map rowP)), ("over", .bl r.over)]
structure Hs where
  w : List Rw
  fst : Int
  ls : List Ent
  given : Int
  begun : Int
  hs : List (Int × Option Int)
  ps : List (Int × Rd)
def hsO (h : Hs) (d l p q : Nat) : Ob := .ins "House" [("worths", .ref d), ("first_kept", .int h.fst), ("lines", .ref l), ("given", .int h.given), ("begun", .int h.begun), ("held_places", .ref p), ("pending", .ref q)]
def refP (n : Nat) : PV := .ref n
abbrev Prs (S : Sto) (rs : List (Int × Nat)) (ps : List (Int × Rd)) : Prop := Paired (fun a b => a.1 = b.1 ∧ S[a.2]? = some (rdO b.2)) rs ps
structure HouseA (S : Sto) (i d l p q : Nat) (rs : List (Int × Nat)) (h : Hs) : Prop where
  ho : S[i]? = some (hsO h d l p q)
  hw : S[d]? = some (.dic (kvP h.w))
  hl : S[l]? = some (.lst (h.ls.map entP))
  hp : S[p]? = some (.dic (kvG optI h.hs))
  hq : S[q]? = some (.dic (kvG refP rs))
  hr : Prs S rs h.ps
  nd : (i :: d :: l :: p :: q :: rs.map (·.2)).Nodup
  clo : Clo S
def ownH (i d l p q : Nat) (rs : List (Int × Nat)) : List Nat := i :: d :: l :: p :: q :: rs.map (·.2)
/-- a house at i, apart from the slots in B -/
def House (S : Sto) (B : List Nat) (i : Nat) (h : Hs) : Prop := ∃ d l p q rs, HouseA S i d l p q rs h ∧ ∀ b ∈ B, b < S.length ∧ b ∉ ownH i d l p q rs
/-- what is in B stays -/
def Fr (B : List Nat) (S S' : Sto) : Prop := S.length ≤ S'.length ∧ ∀ b ∈ B, S'[b]? = S[b]?
theorem Fr.refl {B : List Nat} {S : Sto} : Fr B S S := ⟨Nat.le_refl _, fun _ _ => rfl⟩
theorem Fr.trans {B : List Nat} {S S1 S2 : Sto} (h : Fr B S S1) (k : Fr B S1 S2) : Fr B S S2 := ⟨Nat.le_trans h.1 k.1, fun b hb => (k.2 b hb).trans (h.2 b hb)⟩
theorem House.clo {S : Sto} {B : List Nat} {i : Nat} {h : Hs} (H : House S B i h) : Clo S := let ⟨_, _, _, _, _, a, _⟩ := H; a.clo
theorem House.sub {S : Sto} {B B' : List Nat} {i : Nat} {h : Hs} (H : House S B i h) (s : ∀ b ∈ B', b ∈ B) : House S B' i h :=
  let ⟨d, l, p, q, rs, a, k⟩ := H
  ⟨d, l, p, q, rs, a, fun b hb => k b (s b hb)⟩
theorem lt_get {S : Sto} {i : Nat} {o : Ob} (h : S[i]? = some o) : i < S.length := (List.getElem?_eq_some_iff.mp h).1
theorem prs_lt {S : Sto} {rs : List (Int × Nat)} {ps : List (Int × Rd)} (h : Prs S rs ps) : ∀ r ∈ rs, r.2 < S.length := by
  induction h with
  | nil => intro r hr; cases hr
  | cons h t ih =>
    intro r hr
    rcases List.mem_cons.mp hr with rfl | hr
    · exact lt_get h.2
    · exact ih r hr
theorem prs_mv {S S' : Sto} {rs : List (Int × Nat)} {ps : List (Int × Rd)} (h : Prs S rs ps) : (∀ r ∈ rs, S'[r.2]? = S[r.2]?) → Prs S' rs ps := by
  induction h with
  | nil => intro _; exact .nil
  | cons h t ih => intro m; exact .cons ⟨h.1, (m _ List.mem_cons_self).trans h.2⟩ (ih fun r hr => m r (List.mem_cons_of_mem _ hr))
theorem HouseA.own_lt {S : Sto} {i d l p q : Nat} {rs : List (Int × Nat)} {h : Hs} (a : HouseA S i d l p q rs h) : ∀ x ∈ ownH i d l p q rs, x < S.length := by
  intro x hx
  unfold ownH at hx
  simp only [List.mem_cons] at hx
  rcases hx with rfl | rfl | rfl | rfl | rfl | hx
  · exact lt_get a.ho
  · exact lt_get a.hw
  · exact lt_get a.hl
  · exact lt_get a.hp
  · exact lt_get a.hq
  · obtain ⟨r, hr, rfl⟩ := List.mem_map.mp hx
    exact prs_lt a.hr r hr
/-- the house sees only its own slots -/
theorem HouseA.mv {S S' : Sto} {i d l p q : Nat} {rs : List (Int × Nat)} {h : Hs} (a : HouseA S i d l p q rs h) (k : ∀ x ∈ ownH i d l p q rs, S'[x]? = S[x]?) (c : Clo S') : HouseA S' i d l p q rs h := by
  have m : ∀ r ∈ rs, S'[r.2]? = S[r.2]? := fun r hr => k r.2 (by unfold ownH; simp only [List.mem_cons]; exact .inr (.inr (.inr (.inr (.inr (List.mem_map_of_mem hr))))))
  exact ⟨(k i (by simp [ownH])).trans a.ho, (k d (by simp [ownH])).trans a.hw, (k l (by simp [ownH])).trans a.hl, (k p (by simp [ownH])).trans a.hp, (k q (by simp [ownH])).trans a.hq, prs_mv a.hr m, a.nd, c⟩
theorem Clo.set {S : Sto} {b : Nat} {o : Ob} (h : Clo S) (l : LtO S.length o) : Clo (S.set b o) := fun u hu => by
  rw [List.length_set]
  rcases List.mem_or_eq_of_mem_set hu with z | z
  · exact h u z
  · rw [z]; exact l
theorem House.st {S S' : Sto} {B : List Nat} {b i : Nat} {h : Hs} (H : House S B i h) (hb : b ∈ B) (s : Pv.St b S S') (c : Clo S') : House S' B i h := by
  obtain ⟨d, l, p, q, rs, a, k⟩ := H
  refine ⟨d, l, p, q, rs, a.mv (fun x hx => s.2 x fun e => (k b hb).2 (e ▸ hx)) c, fun b2 h2 => ?_⟩
  rw [s.1]
  exact k b2 h2
theorem House.set {S : Sto} {B : List Nat} {b i : Nat} {h : Hs} {o : Ob} (H : House S B i h) (hb : b ∈ B) (c : Clo (S.set b o)) : House (S.set b o) B i h := H.st hb st_set c
theorem House.app {S : Sto} {B : List Nat} {i : Nat} {h : Hs} {o : Ob} (H : House S B i h) (c : Clo (S ++ [o])) : House (S ++ [o]) (S.length :: B) i h := by
  obtain ⟨d, l, p, q, rs, a, k⟩ := H
  refine ⟨d, l, p, q, rs, a.mv (fun x hx => List.getElem?_append_left (a.own_lt x hx)) c, fun b2 h2 => ?_⟩
  rw [List.length_append]
  rcases List.mem_cons.mp h2 with rfl | h2
  · exact ⟨Nat.lt_succ_self _, fun z => Nat.lt_irrefl _ (a.own_lt _ z)⟩
  · exact ⟨Nat.lt_succ_of_lt (k b2 h2).1, (k b2 h2).2⟩
/-! ### changes of the house -/
section
variable {S : Sto} {i d l p q n : Nat} {rs : List (Int × Nat)} {h h' : Hs}
theorem HouseA.lts (a : HouseA S i d l p q rs h) : d < S.length ∧ l < S.length ∧ p < S.length ∧ q < S.length := ⟨lt_get a.hw, lt_get a.hl, lt_get a.hp, lt_get a.hq⟩
end
end Pv

/-! Fields of the house and of a reading. -/
namespace Pv
open PySem PySem.Spec PyProof.Rows L2 Tc
def hsF (h : Hs) (d l p q : Nat) : List (Str × PV) := [("worths", .ref d), ("first_kept", .int h.fst), ("lines", .ref l), ("given", .int h.given), ("begun", .int h.begun), ("held_places", .ref p), ("pending", .ref q)]
def rdF (r : Rd) : List (Str × PV) := [("owner", .int r.own), ("whole_stretch", .tup [.int r.fst, .int r.lst]), ("cursor", .int r.cur), ("found", .fl (r.found.map rowP)), ("over", .bl r.over)]
theorem hs_o {h : Hs} {d l p q : Nat} : Ob.ins "House" (hsF h d l p q) = hsO h d l p q := rfl
theorem rd_o {r : Rd} : Ob.ins "Reading" (rdF r) = rdO r := rfl
theorem hs_len {h : Hs} {d l p q : Nat} : (hsF h d l p q).length < 900 := by show 7 < 900; decide
theorem rd_len {r : Rd} : (rdF r).length < 900 := by show 5 < 900; decide
section
variable {h : Hs} {d l p q n : Nat} {r : Rd}
theorem hsF_1 : (hsF h d l p q).lookup ("worths" : Str) = some (.ref d) := by rfl
theorem hsF_2 : (hsF h d l p q).lookup ("first_kept" : Str) = some (.int h.fst) := by rfl
theorem hsF_3 : (hsF h d l p q).lookup ("lines" : Str) = some (.ref l) := by rfl
theorem hsF_4 : (hsF h d l p q).lookup ("given" : Str) = some (.int h.given) := by rfl
theorem hsF_5 : (hsF h d l p q).lookup ("begun" : Str) = some (.int h.begun) := by rfl
theorem hsF_6 : (hsF h d l p q).lookup ("held_places" : Str) = some (.ref p) := by rfl
theorem hsF_7 : (hsF h d l p q).lookup ("pending" : Str) = some (.ref q) := by rfl
theorem rdF_1 : (rdF r).lookup ("owner" : Str) = some (.int r.own) := by rfl
theorem rdF_2 : (rdF r).lookup ("whole_stretch" : Str) = some (.tup [.int r.fst, .int r.lst]) := by rfl
theorem rdF_3 : (rdF r).lookup ("cursor" : Str) = some (.int r.cur) := by rfl
theorem rdF_4 : (rdF r).lookup ("found" : Str) = some (.fl (r.found.map rowP)) := by rfl
theorem rdF_5 : (rdF r).lookup ("over" : Str) = some (.bl r.over) := by rfl
theorem hsP_1 : putFp "worths" (.ref n) (hsF h d l p q) = hsF h n l p q := by rfl
theorem hsP_2 {i : Int} : putFp "first_kept" (.int i) (hsF h d l p q) = hsF { h with fst := i } d l p q := by rfl
theorem hsP_3 : putFp "lines" (.ref n) (hsF h d l p q) = hsF h d n p q := by rfl
theorem hsP_4 {i : Int} : putFp "given" (.int i) (hsF h d l p q) = hsF { h with given := i } d l p q := by rfl
theorem hsP_5 {i : Int} : putFp "begun" (.int i) (hsF h d l p q) = hsF { h with begun := i } d l p q := by rfl
theorem hsP_7 : putFp "pending" (.ref n) (hsF h d l p q) = hsF h d l p n := by rfl
theorem rdP_3 {i : Int} : putFp "cursor" (.int i) (rdF r) = rdF { r with cur := i } := by rfl
theorem rdP_4 {rows : List Rw} : putFp "found" (.fl (rows.map rowP)) (rdF r) = rdF { r with found := rows } := by rfl
theorem rdP_5 {b : Bool} : putFp "over" (.bl b) (rdF r) = rdF { r with over := b } := by rfl
def hsN : List Str := ["worths", "first_kept", "lines", "given", "begun", "held_places", "pending"]
theorem lookup_no {m : Str} : ∀ {fs : List (Str × PV)}, m ∉ fs.map (·.1) → fs.lookup m = none
  | [], _ => rfl
  | (g, v) :: fs, h => by
    rw [List.map_cons, List.mem_cons, not_or] at h
    rw [List.lookup_cons, beq_eq_false_iff_ne.mpr h.1]
    exact lookup_no h.2
theorem hsF_no {m : Str} (hm : m ∉ hsN) : (hsF h d l p q).lookup m = none := lookup_no hm
end
section
variable {S : Sto} {i d l p q n : Nat} {rs : List (Int × Nat)} {h : Hs} {r : Rd} {m : Str}
theorem HouseA.ins (a : HouseA S i d l p q rs h) : insS S "House" (.ref i) = some (i, hsF h d l p q) := insS_w a.ho
theorem HouseA.hd (a : HouseA S i d l p q rs h) (hm : m ∉ hsN) : headS S "House" m (.ref i) = some i := headS_w a.ho (hsF_no hm)
theorem HouseA.g1 (a : HouseA S i d l p q rs h) : ((insS S "House" (.ref i)).bind fun p => p.2.lookup ("worths" : Str)) = some (.ref d) := by rw [a.ins]; exact hsF_1 (h := h) (d := d) (l := l) (p := p) (q := q)
theorem HouseA.g2 (a : HouseA S i d l p q rs h) : ((insS S "House" (.ref i)).bind fun p => p.2.lookup ("first_kept" : Str)) = some (.int h.fst) := by rw [a.ins]; exact hsF_2 (h := h) (d := d) (l := l) (p := p) (q := q)
theorem HouseA.g3 (a : HouseA S i d l p q rs h) : ((insS S "House" (.ref i)).bind fun p => p.2.lookup ("lines" : Str)) = some (.ref l) := by rw [a.ins]; exact hsF_3 (h := h) (d := d) (l := l) (p := p) (q := q)
theorem HouseA.g6 (a : HouseA S i d l p q rs h) : ((insS S "House" (.ref i)).bind fun p => p.2.lookup ("held_places" : Str)) = some (.ref p) := by rw [a.ins]; exact hsF_6 (h := h) (d := d) (l := l) (p := p) (q := q)
end
/-- d.pop(k) -/
theorem w_pop1 {env : En} {S : Sto} {X : WXE} {a b : ME PV} {Q : PV → Sto → Prop} : wE (ePop1 a b env S) Q X = wE (a env S) (fun x S => wO (dicS S x) fun _ => wE (b env S) (fun y S => ∃ i kvs k v, x = .ref i ∧ S[i]? = some (.dic kvs) ∧ keyP y = some k ∧ getK kvs k = some v ∧ Q v (S.set i (.dic (dropKp kvs k)))) X) X := by
  unfold ePop1
  rw [w_bind]
  congr 1
  funext x S
  cases hx : dicS S x with
  | none => rw [w_err]; rfl
  | some kvs0 =>
    show wE _ Q X = wE _ _ X
    rw [w_bind]
    congr 1
    funext y S
    cases x with
    | ref i =>
      show wE (match S[i]?, keyP y with
        | some (.dic kvs), some k => (match getK kvs k with
          | some v => .ok v (S.set i (.dic (dropKp kvs k)))
          | none => .err)
        | _, _ => .err) Q X = _
      split
      · rename_i kvs k e1 e2
        split
        · rename_i v e3
          rw [w_ok]
          refine propext ⟨fun z => ⟨i, kvs, k, v, rfl, e1, e2, e3, z⟩, fun ⟨_, _, _, _, a1, a2, a3, a4, z⟩ => ?_⟩
          cases a1
          rw [e1] at a2; cases a2
          rw [e2] at a3; cases a3
          rw [e3] at a4; cases a4
          exact z
        · rename_i e3
          rw [w_err]
          refine propext ⟨fun z => z.elim, fun ⟨_, _, _, _, a1, a2, a3, a4, z⟩ => ?_⟩
          cases a1
          rw [e1] at a2; cases a2
          rw [e2] at a3; cases a3
          rw [e3] at a4; cases a4
      · rename_i hn
        rw [w_err]
        exact propext ⟨fun z => z.elim, fun ⟨_, kvs, k, _, a1, a2, a3, _, _⟩ => by cases a1; exact hn _ _ a2 a3⟩
    | _ =>
      show wE .err Q X = _
      rw [w_err]
      exact propext ⟨fun z => z.elim, fun ⟨_, _, _, _, a1, _⟩ => by cases a1⟩
end Pv
namespace Pv
open PySem PySem.Spec PyProof.Rows L2 Tc
section
variable {S : Sto} {i : Nat} {k : Int}
end
end Pv

/-! While; the house's ways. -/
namespace Pv
open PySem PySem.Spec PyProof.Rows L2 Tc
/-! ### dicts -/
theorem putG_new {α : Type} {M : List (Int × α)} {k : Int} {v : α} (h : getG M k = none) : putG M k v = M ++ [(k, v)] := by
  unfold putG
  rw [if_neg]
  intro z
  obtain ⟨r, hr, e⟩ := List.any_eq_true.mp z
  exact getG_none.mp h r hr (of_decide_eq_true e)
/-! ### readings by their numbers -/
/-- the reading of number n is R' now -/
def setG (ps : List (Int × Rd)) (n : Int) (R : Rd) : List (Int × Rd) := ps.map fun x => if x.1 = n then (x.1, R) else x
theorem setG_keys {ps : List (Int × Rd)} {n : Int} {R : Rd} : (setG ps n R).map (·.1) = ps.map (·.1) := by
  unfold setG
  rw [List.map_map]
  refine List.map_congr_left fun x _ => ?_
  show (if x.1 = n then (x.1, R) else x).1 = x.1
  split <;> rfl
instance : Inhabited Rd := ⟨⟨0, 0, 0, 0, [], false⟩⟩
/-! ### frames -/
theorem Fr.own {B own : List Nat} {S : Sto} {x : Nat} {o : Ob} (hB : ∀ b ∈ B, b < S.length ∧ b ∉ own) (hx : x ∈ own) : Fr B S (S.set x o) := ⟨by rw [List.length_set]; exact Nat.le_refl _, fun b hb => List.getElem?_set_ne (show x ≠ b from fun z => (hB b hb).2 (by rw [← z]; exact hx))⟩
theorem Fr.app {B : List Nat} {S : Sto} {o : Ob} (hB : ∀ b ∈ B, b < S.length) : Fr B S (S ++ [o]) := ⟨by rw [List.length_append]; omega, fun b hb => List.getElem?_append_left (hB b hb)⟩
theorem HouseA.out {S S' : Sto} {B own : List Nat} {i d l p q : Nat} {rs : List (Int × Nat)} {h : Hs} (a : HouseA S' i d l p q rs h) (hB : ∀ b ∈ B, b < S.length ∧ b ∉ own) (hl : S.length ≤ S'.length) (ho : ∀ x ∈ ownH i d l p q rs, x ∈ own ∨ S.length ≤ x) : House S' B i h :=
  ⟨d, l, p, q, rs, a, fun b hb => ⟨Nat.lt_of_lt_of_le (hB b hb).1 hl, fun z => (ho b z).elim (hB b hb).2 fun y => by have := (hB b hb).1; omega⟩⟩
/-! ### looks -/
def lookN (t : List Rw) (lst : Int) : Nat → Int → Bool → List Rw × Int × Bool
  | 0, c, o => ([], c, o)
  | n + 1, c, o => if o = true then ([], c, o) else match findM t c lst with
    | none => ([], c, true)
    | some r => (r :: (lookN t lst n (r.1 + 1) o).1, (lookN t lst n (r.1 + 1) o).2)
theorem lookN_len {t : List Rw} {l : Int} : ∀ {n : Nat} {c : Int} {o : Bool}, (lookN t l n c o).1.length ≤ n
  | 0, _, _ => Nat.le_refl _
  | n + 1, c, o => by
    unfold lookN
    split
    · exact Nat.zero_le _
    · split
      · exact Nat.zero_le _
      · exact Nat.succ_le_succ lookN_len
theorem lookN_none {t : List Rw} {l c : Int} {j : Nat} (h : findM t c l = none) : lookN t l (j + 1) c false = ([], c, true) := by
  show (if false = true then _ else match findM t c l with
    | none => ([], c, true)
    | some r => (r :: (lookN t l j (r.1 + 1) false).1, (lookN t l j (r.1 + 1) false).2)) = _
  rw [h]; rfl
theorem lookN_some {t : List Rw} {l c : Int} {j : Nat} {r : Rw} (h : findM t c l = some r) : lookN t l (j + 1) c false = (r :: (lookN t l j (r.1 + 1) false).1, (lookN t l j (r.1 + 1) false).2) := by
  show (if false = true then _ else match findM t c l with
    | none => ([], c, true)
    | some r => (r :: (lookN t l j (r.1 + 1) false).1, (lookN t l j (r.1 + 1) false).2)) = _
  rw [h]; rfl
/-- a reading after so many looks -/
def Rd.look (R : Rd) (t : List Rw) (n : Nat) : Rd := { R with cur := (lookN t R.lst n R.cur R.over).2.1, over := (lookN t R.lst n R.cur R.over).2.2, found := R.found ++ (lookN t R.lst n R.cur R.over).1 }
def Rd.rows (R : Rd) (t : List Rw) (n : Nat) : List Rw := (lookN t R.lst n R.cur R.over).1
end Pv
namespace Pv
open PySem PySem.Spec PyProof.Rows L2 Tc
theorem HouseA.app {S : Sto} {i d l p q : Nat} {rs : List (Int × Nat)} {h : Hs} {o : Ob} (a : HouseA S i d l p q rs h) (lo : LtO (S.length + 1) o) : HouseA (S ++ [o]) i d l p q rs h := a.mv (fun x hx => List.getElem?_append_left (a.own_lt x hx)) (a.clo.app lo)
end Pv
namespace Pv
open PySem PySem.Spec PyProof.Rows L2 Tc
end Pv
namespace Pv
open PySem PySem.Spec PyProof.Rows L2 Tc
end Pv
namespace Pv
open PySem PySem.Spec PyProof.Rows L2 Tc
end Pv
namespace Pv
open PySem PySem.Spec PyProof.Rows L2 Tc
end Pv
namespace Pv
open PySem PySem.Spec PyProof.Rows L2 Tc
theorem House.hd {S : Sto} {B : List Nat} {i : Nat} {h : Hs} {m : Str} (H : House S B i h) (hm : m ∉ hsN) : headS S "House" m (.ref i) = some i := by
  obtain ⟨d, l, p, q, rs, a, _⟩ := H
  exact a.hd hm
end Pv

/-! Statements one by one; a reading's end. -/
namespace Pv
open PySem PySem.Spec PyProof.Rows L2 Tc
theorem Bg.fr {b : Nat} {S S' : Sto} {B : List Nat} (h : Bg b S) (f : Fr B S S') (hb : b ∈ B) (c : Clo S') : Bg b S' := by
  obtain ⟨⟨x, y, e, q⟩, _⟩ := h
  exact ⟨⟨x, y, (f.2 b hb).trans e, q⟩, c⟩
theorem look_found {R : Rd} {t : List Rw} {m : Nat} : (R.look t m).found.length ≤ R.found.length + m := by
  show (R.found ++ (lookN t R.lst m R.cur R.over).1).length ≤ _
  rw [List.length_append]
  have := lookN_len (t := t) (l := R.lst) (n := m) (c := R.cur) (o := R.over)
  omega
end Pv

/-! A part of a list as a new list of the store. -/
namespace Pv
open PySem PySem.Spec PyProof.Rows L2 Tc
section
variable {X : Cx} {G : Gb} {Wx : WX} {e : Expr} {pos p2 : Pos} {ma : ME PV} {lo hi : Option Expr} {ml mh : MO}
def nSl (m : ME PV) (ml mh : MO) : ME (List PV) := fun env S => (m env S).bind fun x S => (ml env S).bind fun lo S => (mh env S).bind fun hi S => optR ((lsqS S x).map fun xs => cutP xs lo hi) S
end
theorem w_nSl {env : En} {S : Sto} {X : WXE} {m : ME PV} {ml mh : MO} {Q : List PV → Sto → Prop} : wE (nSl m ml mh env S) Q X = wE (m env S) (fun x S => wE (ml env S) (fun lo S => wE (mh env S) (fun hi S => wO (lsqS S x) fun xs => Q (cutP xs lo hi) S) X) X) X := by
  unfold nSl
  simp only [w_bind, w_optR, o_map]
end Pv

/-! x, y, *zs = a tuple -/
namespace Pv
open PySem PySem.Spec PyProof.Rows L2 Tc
theorem star_up3 {prog : Program} {w : World} {A : Around} {E : Value → Shared → Prop} {s : Shared} {l : Addr} {items : Array Value} {Q : List Value → Shared → Prop} (hl : IsTup s.heap l items) (hh : A.handled = none) (hn : 2 ≤ items.size) (hz : items.size ≤ 16384)
    (h : ∀ (h' : Heap) (tk : Nat), (∀ b o, s.heap.get? b = some o → h'.get? b = some o) → Q (items.toList.take 2 ++ [.ref h'.objs.size]) { s with heap := h'.push { cls := .type "list", data := .seq (items.toList.drop 2).toArray }, toks := tk }) :
    wpAny (model prog w) A (unpackItems (.ref l) 3 (some 2)) Q E s := by
  have hlt : l ≠ s.heap.objs.size := by obtain ⟨o, ho, _⟩ := hl; exact Nat.ne_of_lt (Heap.lt_size ho)
  unfold unpackItems
  refine wpAny_bind ?_
  unfold notIterableAtAll
  refine wpAny_bind (wpAny_specialOf hl.typeIs slot_tuple_iter.lookup ?_)
  refine wpAny_pure ?_
  simp only [Bool.false_eq_true, if_false]
  refine wpAny_bind (wpAny_holding (iter_tuple hl ?_))
  refine wpAny_bind (wpAny_holding (draw_tuple hlt 2 0 _ _ ⟨_, Heap.get?_push_size _ rfl, rfl, rfl⟩ (hl.push _) (by omega) fun h₁ hit₁ hs₁ => ?_))
  have hl₁ : IsTup h₁ l items := (hl.push _).extBut hs₁.extBut hlt
  have hit₁' := hit₁
  obtain ⟨oi, hoi, _⟩ := hit₁'
  have hl₁' := hl₁
  obtain ⟨ol, hol, _⟩ := hl₁'
  have hrl : items.toList.length = items.size := Array.length_toList
  rw [List.drop_zero]
  have ht2 : (items.toList.take 2).length = 2 := by rw [List.length_take, hrl]; omega
  rw [if_neg (show ¬ ((items.toList.take 2).length < 2) by omega)]
  refine wpAny_bind (wpAny_holding (PySem.W.kun_collect (s := { s with heap := h₁ }) (T := "tuple_iterator") (.inr (.inr (.inr rfl))) (Walks.tuple (A := A.in1) hh s.heap.objs.size l hlt items) (fun j u st => st.1.typeIs) (k := 2) (by omega) ⟨hit₁, hl₁⟩ (Heap.lt_size hoi) (Heap.lt_size hol) (fun h₂ tk hk => ?_) (by rw [sizeLine_eq]; omega)))
  show wpAny _ _ (if (items.toList.drop 2).length < 0 then _ else _) _ _ _
  rw [if_neg (by omega)]
  show wpAny _ _ (newList ((items.toList.drop 2).take ((items.toList.drop 2).length - 0)) >>= fun d => pure (items.toList.take 2 ++ [d] ++ (items.toList.drop 2).drop ((items.toList.drop 2).length - 0))) _ _ _
  rw [Nat.sub_zero, List.take_length, List.drop_length]
  have he : ∀ b o, s.heap.get? b = some o → h₂.get? b = some o := fun b o e => hk b o (Nat.ne_of_lt (Heap.lt_size e)) (hs₁.extBut b o (Nat.ne_of_lt (Heap.lt_size e)) (Heap.get?_push_of_some _ e))
  refine wpAny_bind (wpAny_newList ?_ ?_)
  · rw [List.append_nil]
    exact wpAny_pure (h h₂ tk he)
  · rw [List.length_drop, hrl, sizeLine_eq]; omega
end Pv
namespace Pv
open PySem PySem.Spec PyProof.Rows L2 Tc
def gStar3 (K : PySem.W.Frag) (t : TGs) : TG := fun v σ H Q => ∃ a x y zs, v = .ref a ∧ SqT K H a (x :: y :: zs) ∧ zs.length < 16000 ∧ ∀ L, H L = none → t [x, y, .ref L] σ (upd H L (.lst zs)) Q
theorem pg_star3 {X : Cx} {es fs : List Expr} {k : Nat} {t : TGs} {pos : Pos} (hc : X.calm = true) (h : PGs X fs t) (hlen : (assignEach es X.env).length = 3 := by rfl) (hst : (assignEach es X.env).findIdx? (·.1) = some 2 := by rfl)
    (hm : (assignEach es X.env).map (·.2) = (assignEach fs X.env).map (·.2) := by rfl) : PG X (.Tuple es k pos) (gStar3 X.K t) := by
  refine ⟨fun pins s σ H v u Q I r hw => ?_⟩
  obtain ⟨a, x, y, zs, e1, hq, hl, hw⟩ := hw
  subst e1
  cases r
  obtain ⟨its, rv, ht, hz⟩ := I.tuple hq
  cases rv with
  | @cons _ u1 _ us1 r1 rv =>
    cases rv with
    | @cons _ u2 _ us r2 rv =>
      have l3 : zs.length = us.length := rv.length
      rw [assign_Tuple]
      refine wpAny_bind (wpAny_standAt ?_)
      unfold unpack
      rw [hlen, hst]
      refine wpAny_bind (wpAny_holding (star_up3 ht (I.ok.hd hc) (by rw [List.size_toArray, List.length_cons, List.length_cons]; omega) (by rw [List.size_toArray, List.length_cons, List.length_cons]; omega) fun h' tk k' => ?_))
      have I1 : Inv X pins σ H { s with heap := h', toks := tk } := I.kept (t' := tk) k'
      have I2 : Inv X pins σ (upd H h'.objs.size (.lst zs)) { s with heap := h'.push { cls := .type "list", data := .seq us.toArray }, toks := tk } :=
        I1.laid (t' := tk) (fun b o e => Heap.get?_push_of_some _ e) (Nat.le_refl _) (show ObjOk X.prog X.w _ _ _ (.lst zs) from ⟨by rw [sizeLine_eq]; omega, us, 0, rv, Heap.get?_push_size _ rfl⟩)
      rw [hm]
      exact h.run pins _ σ _ [x, y, .ref h'.objs.size] _ Q I2 (.cons r1 (.cons r2 (.cons rfl .nil))) (hw _ (I1.hok.fresh (Nat.le_refl _)))
section
variable {X : Cx} {G : Gb} {es : List Expr} {pos : Pos}
def gSt3 (g : MGs) : MG := fun x env S => match x with
  | .tup (x :: y :: zs) => if zs.length < 16000 then g [x, y, .fl zs] env S else none
  | _ => none
theorem vg_star3 {gs : MGs} {fs : List Expr} {k : Nat} (hc : X.calm = true) (h : PGs X fs (gsP G gs)) (hlen : (assignEach es X.env).length = 3 := by rfl) (hst : (assignEach es X.env).findIdx? (·.1) = some 2 := by rfl)
    (hm : (assignEach es X.env).map (·.2) = (assignEach fs X.env).map (·.2) := by rfl) (hk : X.K = G.K := by rfl) : PG X (.Tuple es k pos) (gP G (gSt3 gs)) :=
  pg_of (pg_star3 hc h hlen hst hm) fun v σ H Q ⟨W, S, env, x, env', S', w, en, r, eq, k⟩ => by
    unfold gSt3 at eq
    split at eq
    · rename_i x y zs
      split at eq
      · rename_i hl
        cases r with
        | @tup a vs _ h t =>
          cases t with
          | cons r1 t =>
            cases t with
            | cons r2 t =>
              refine ⟨a, _, _, _, rfl, by rw [hk]; exact same_tup w.dat h.sqT, by rw [t.length]; omega, fun L hL => ?_⟩
              obtain ⟨w2, l2⟩ := w.data (o := .lst _) hL
              exact ⟨_, S, env, _, env', S', w2, en.mono l2, .cons (r1.mono l2) (.cons (r2.mono l2) (.cons (.fl (by exact upd_same) (t.mono l2)) .nil)), eq, fun W' σ' H' l => k W' σ' H' (l2.trans l)⟩
      · cases eq
    · cases eq
theorem g_st3 {g : MGs} {x y : PV} {zs : List PV} {env : En} {S : Sto} {Q : En × Sto → Prop} : wO (gSt3 g (.tup (x :: y :: zs)) env S) Q = (zs.length < 16000 ∧ wO (g [x, y, .fl zs] env S) Q) := by
  show wO (if zs.length < 16000 then g [x, y, .fl zs] env S else none) Q = _
  split
  · exact propext ⟨fun h => ⟨by assumption, h⟩, fun h => h.2⟩
  · exact propext ⟨fun h => h.elim, fun h => absurd h.1 (by assumption)⟩
end
end Pv
/-! a list and a list: a new list of the store -/
namespace Pv
open PySem PySem.Spec PyProof.Rows L2 Tc
section
variable {X : Cx} {G : Gb} {Wx : WX} {a b : Expr} {pos : Pos} {ma mb : ME PV}
def catS (S : Sto) (x y : PV) : Option (List PV) := match lstS S x, lstS S y with
  | some xs, some ys => if xs.length + ys.length ≤ 100000 then some (xs ++ ys) else none
  | _, _ => none
def nCat (ma mb : ME PV) : ME (List PV) := fun env S => (ma env S).bind fun x S => (mb env S).bind fun y S => optR (catS S x y) S
theorem vn_cat (ha : PE X a (tE G Wx ma)) (hb : PE X b (tE G Wx mb)) (hk : X.K = G.K := by rfl) : PE X (.BinOp a .Add b pos) (tN G Wx (nCat ma mb)) := by
  have big : OpR X (binaryOp .Add) (rAddG X.K) := op_addG
  rw [hk] at big
  refine pe_of (pe_op big ha hb) fun σ H Q ⟨W, S, env, w, en, k⟩ => ⟨W, S, env, w, en, kN_bind k fun x S1 W1 H1 v l1 w1 r1 k1 => ⟨W1, S1, env, w1, en.mono l1, kN_bind k1 fun y S2 W2 H2 u l2 w2 r2 k2 => ?_⟩⟩
  have r1 := r1.mono l2
  unfold catS at k2
  split at k2
  · rename_i xs ys e1 e2
    split at k2
    · rename_i hl
      obtain ⟨p1, vs, rfl, h1, t1⟩ := lstS_ok w2 r1 e1
      obtain ⟨p2, us, rfl, h2, t2⟩ := lstS_ok w2 r2 e2
      exact .inl ⟨p1, p2, vs, us, rfl, rfl, h1, h2, by rw [t1.length, t2.length]; exact line_le hl, fun p np => k2 W2 H2 p _ (.refl _) w2 np (t1.append t2)⟩
    · exact k2.elim
  · exact k2.elim
end
theorem w_nCat {env : En} {S : Sto} {X : WXE} {ma mb : ME PV} {Q : List PV → Sto → Prop} : wE (nCat ma mb env S) Q X = wE (ma env S) (fun x S => wE (mb env S) (fun y S => wO (catS S x y) fun xs => Q xs S) X) X := by
  unfold nCat
  simp only [w_bind, w_optR]
end Pv

/-! The simp set as a few conjunctions. -/
namespace Pv
open PySem PySem.Spec PyProof.Rows L2 Tc
def PV0 := And.intro @w_nCat (And.intro @g_st3 (And.intro @w_nSl (And.intro @hsF_1 (And.intro @hsF_2 (And.intro @hsF_3 (And.intro @hsF_4 (And.intro @hsF_5 (And.intro @hsF_6 (And.intro @hsF_7 (And.intro @rdF_1 (And.intro @rdF_2 (And.intro @rdF_3 (And.intro @rdF_4 (And.intro @rdF_5 (And.intro @hsP_1 (And.intro @hsP_2 (And.intro @hsP_3 (And.intro @hsP_4 (And.intro @hsP_5 (And.intro @hsP_7 (And.intro @rdP_3 (And.intro @rdP_4 (And.intro @rdP_5 (And.intro @hs_o (And.intro @rd_o (And.intro @hs_len (And.intro @rd_len (And.intro @w_eFldO (@s_fldO)))))))))))))))))))))))))))))
def PV1 := And.intro @s_fldAug (And.intro @w_eMeth (And.intro @w_eMethN (And.intro @w_eMake (And.intro @w_pop1 (And.intro @w_chain3 (And.intro @w_sTry (And.intro @wx_sSeq (And.intro @wx_sSet (And.intro @wx_sExpr (And.intro @wx_sRet (And.intro @wx_sIf (And.intro @wx_sNil (And.intro @wTry_t (And.intro @wTry_f (And.intro @w_raiseF (And.intro @w_raiseO (And.intro @w_fld (And.intro @w_is (And.intro @w_isT (And.intro @Pv.w_bind (And.intro @Pv.w_ok (And.intro @Pv.w_optR (And.intro @Pv.w_ite (And.intro @Pv.w_guard (And.intro @Pv.w_var (And.intro @Pv.w_c (And.intro @Pv.w_fl (And.intro @Pv.w_new (@Pv.w_nil)))))))))))))))))))))))))))))
def PV2 := And.intro @Pv.w_cons (And.intro @Pv.w_tup (And.intro @Pv.w_lst (And.intro @Pv.w_op (And.intro @Pv.w_tOf (And.intro @Pv.w_chain (And.intro @Pv.w_tTru (And.intro @Pv.w_tNot (And.intro @Pv.w_tAnd (And.intro @Pv.w_tOr (And.intro @Pv.w_and (And.intro @Pv.w_or (And.intro @Pv.w_not (And.intro @Pv.w_if (And.intro @Pv.w_neg (And.intro @Pv.w_oN (And.intro @Pv.w_oS (And.intro @Pv.w_sl (And.intro @Pv.w_eCB (And.intro @Pv.w_nCB (And.intro @Pv.w_eDB (And.intro @Pv.w_dnew (And.intro @Pv.w_call (And.intro @Pv.w_nSortU (And.intro @w_putIn (And.intro @w_putS (And.intro @w_putD (And.intro @w_nSortC (And.intro @w_get2 (@w_nRev)))))))))))))))))))))))))))))
def PV3 := And.intro @w_callDf (And.intro @w_callN (And.intro @w_nLRg1 (And.intro @w_nLRg2 (And.intro @w_eDc2 (And.intro @Pv.w_iSeq (And.intro @Pv.w_iRng1 (And.intro @Pv.w_iRng2 (And.intro @Pv.w_nLc (And.intro @Pv.s_nil (And.intro @Pv.s_seq (And.intro @Pv.s_expr (And.intro @Pv.s_ret (And.intro @Pv.s_retN (And.intro @Pv.s_brk (And.intro @Pv.s_cnt (And.intro @Pv.s_if (And.intro @Pv.s_set (And.intro @Pv.s_asg (And.intro @Pv.s_par (And.intro @Pv.s_aug (And.intro @Pv.s_for (And.intro @Pv.g_nm (And.intro @Pv.g_n0 (And.intro @Pv.g_cn (And.intro @Pv.g_tp (And.intro @Pv.g_pr (And.intro @Pv.g_st (And.intro @Pv.g_ixE (@Pv.w_mL)))))))))))))))))))))))))))))
def PV4 := And.intro @Pv.w_pop2 (And.intro @Pv.o_some (And.intro @Pv.o_none (And.intro @Pv.o_map (And.intro @Pv.o_bind (And.intro @Pv.o_if (And.intro @Pv.b_bl (And.intro @Pv.asI_int (And.intro @Pv.add_int (And.intro @Pv.add_bl (And.intro @Pv.add_tup (And.intro @Pv.add_fl (And.intro @Pv.sub_int (And.intro @Pv.mul_int (And.intro @Pv.div_int (And.intro @Pv.mod_int (And.intro @Pv.lt_int (And.intro @Pv.le_int (And.intro @Pv.gt_int (And.intro @Pv.ge_int (And.intro @Pv.eq_int (And.intro @Pv.eq_str (And.intro @Pv.ne_int (And.intro @Pv.ne_str (And.intro @Pv.is_nn (And.intro @Pv.isnt_nn (And.intro @Pv.at0 (And.intro @Pv.at1 (And.intro @Pv.at2 (@Pv.at3)))))))))))))))))))))))))))))
def PV5 := And.intro @Pv.ix20 (And.intro @Pv.ix21 (And.intro @Pv.pow_18 (And.intro @Pv.ix_tup (And.intro @Pv.ix_fl (And.intro @Pv.ix_ro (And.intro @Pv.key_int (And.intro @Pv.one_f (And.intro @Pv.two_f (And.intro @Pv.len_tup (And.intro @Pv.len_fl (And.intro @Pv.len_ro (And.intro @Pv.abs_int (And.intro @Pv.it_tup (And.intro @Pv.it_fl (And.intro @Pv.it_ro (And.intro @Pv.sl_tup (And.intro @Pv.sl_fl (And.intro @Pv.b1 (And.intro @Pv.b2 (And.intro @Pv.wipe_nil (And.intro @Pv.wipe_cons (And.intro @Pv.dp_ne (And.intro @Pv.lg_ne (And.intro @Pv.set_app (And.intro @Pv.set_a1 (And.intro @Pv.set_a2 (And.intro @Pv.take_a2 (And.intro @Pv.get_a1 (@Pv.get_a2)))))))))))))))))))))))))))))
def PV6 := And.intro @Pv.len_a1 (And.intro @Pv.get_app (And.intro @Pv.take_app (And.intro @Pv.tup_g (And.intro @Pv.seq_fl (And.intro @Pv.seq_tup (And.intro @Pv.lsq_fl (And.intro @Pv.lsq_ro (And.intro @Pv.yes_t (@Pv.w_noEx)))))))))
end Pv

/-! Events. -/
namespace Pv
open PySem PySem.Spec PyProof.Rows L2 Tc
structure Ev where
  pl : Int
  wd : Str
  key : Int
  w : Option Int
def evP (v : Ev) : PV := .tup [.int v.pl, .str v.wd, .int v.key, optI v.w]
theorem in_rows_non {S : Sto} {k : Int} {rows : List Rw} : inP S (.tup [.int k, .non]) (tabP rows) = some (.bl false) := by
  have m : mapO (pyD S 60) (rows.map rowP) = some (rows.map rowD) := mapO_of (f := pyD S 60) (g := rowP) (h := rowD) (fun _ => rfl) rows
  show (match (some (PyData.tuple [.int k, .none])), mapO (pyD S 60) (rows.map rowP) with | some d, some ds => some (ds.any fun z => PyData.eqv z d) | _, _ => none).map PV.bl = _
  rw [m]
  show some (PV.bl ((rows.map rowD).any fun z => PyData.eqv z (PyData.tuple [.int k, .none]))) = _
  congr 2
  clear m
  induction rows with
  | nil => rfl
  | cons q rows ih =>
    rw [List.map_cons, List.any_cons, ih]
    show ((decide (q.1 = k) && (false && true)) || false) = false
    simp
/-- whether a row of the table is as the event tells -/
def inTab (k : Int) (w : Option Int) (rows : List Rw) : Bool := match w with
  | some x => decide ((k, x) ∈ rows)
  | none => false
theorem in_tab {S : Sto} {k : Int} {w : Option Int} {rows : List Rw} : inP S (.tup [.int k, optI w]) (tabP rows) = some (.bl (inTab k w rows)) := by
  cases w with
  | none => exact in_rows_non
  | some x => exact in_rows (r := (k, x))
theorem in_lst_ints {S : Sto} {i : Nat} {k : Int} {ns : List Int} (h : S[i]? = some (.lst (ns.map .int))) : inP S (.int k) (.ref i) = some (.bl (decide (k ∈ ns))) := by
  rw [← in_ints (S := S)]
  show (match dicS S (.ref i) with
    | some kvs => (keyP (.int k)).map fun k => (getK kvs k).isSome
    | none => match pyD S 60 (.int k), (seqS S (.ref i)).bind (mapO (pyD S 60)) with
      | some d, some ds => some (ds.any fun z => PyData.eqv z d)
      | _, _ => none).map PV.bl = _
  rw [show dicS S (.ref i) = none by unfold dicS; simp only [h], Pv.seq_lst h]
  rfl
end Pv

/-! A dict's items, walked: the dict is locked meanwhile. -/
namespace Pv
open PySem PySem.Spec PyProof.Rows L2 Tc
def Wo.less (W : Wo) (a : Addr) : Wo := ⟨Pv.del W.D a, W.ad, W.F⟩
section
variable {K : PySem.W.Frag} {W : Wo} {a : Addr} {od : Obj} {vs : List (Key × V)}
theorem less_get {b : Addr} {o : HO} (hd : W.D a = some (.frz od (.dK vs))) (h : W.D b = some o) (n : o ≠ .frz od (.dK vs)) : (W.less a).D b = some o := by
  show Pv.del W.D a b = some o
  rw [del_ne (fun z => by rw [z, hd] at h; exact n (Option.some.inj h).symm)]
  exact h
mutual
theorem RV.less (hd : W.D a = some (.frz od (.dK vs))) : ∀ {v : V} {x : PV}, RV K W v x → RV K (W.less a) v x
  | _, _, .non => .non
  | _, _, .bl b => .bl b
  | _, _, .int i => .int i
  | _, _, .str x => .str x
  | _, _, .tup h t => .tup (h.elim (fun ⟨o, h1, h2, h3⟩ => .inl ⟨o, less_get hd h1 (fun z => nomatch z), h2, h3⟩) .inr) (RVs.less hd t)
  | _, _, .fl h t => .fl (less_get hd h (fun z => nomatch z)) (RVs.less hd t)
  | _, _, .ro h t => .ro (h.elim (fun z => z.elim (fun z => .inl (.inl (less_get hd z (fun q => nomatch q)))) fun ⟨o, z⟩ => .inl (.inr ⟨o, less_get hd z (fun q => nomatch q)⟩)) .inr) (RVs.less hd t)
  | _, _, .ref h => .ref h
  | _, _, .ty n => .ty n
theorem RVs.less (hd : W.D a = some (.frz od (.dK vs))) : ∀ {v : List V} {x : List PV}, RVs K W v x → RVs K (W.less a) v x
  | _, _, .nil => .nil
  | _, _, .cons h t => .cons (RV.less hd h) (RVs.less hd t)
end
end
theorem ObR.less {G : Gb} {W : Wo} {a b : Addr} {o : Ob} {h : Hp} {od : Obj} {vs : List (Key × V)} (r : ObR G W b o h) : W.D a = some (.frz od (.dK vs)) → ObR G (W.less a) b o h := by
  induction r with
  | lst q => intro hd; exact .lst (RVs.less hd q)
  | dic q => intro hd; exact .dic (Paired.mapP q fun _ _ r => ⟨r.1, RV.less hd r.2⟩)
  | ins m q n => intro hd; exact .ins m (Paired.mapP q fun _ _ r => ⟨r.1, RV.less hd r.2⟩) n
  | gone => intro hd; exact .gone
  | box q l1 l2 h0 hr dj al ih => intro hd; exact .box q l1 l2 h0 (fun j o b h e1 e2 e3 => ih j o b h e1 e2 e3 hd) dj al
section
variable {G : Gb} {W : Wo} {S : Sto} {H : Hp} {i : Nat} {a : Addr} {kvs : List (Key × PV)}
theorem Wd.less {od : Obj} {vs : List (Key × V)} (w : Wd G W S H) (hd : W.D a = some (.frz od (.dK vs))) : Wd G (W.less a) S (Pv.del H a) := by
  obtain ⟨hs, w⟩ := w
  have ne : ∀ (i : Nat) (h : Hp) (x : Addr), hs[i]? = some h → h x ≠ none → x ≠ a := fun i h x e hx z => by
    have := w.off i h x e hx
    rw [z, hd] at this; cases this
  refine ⟨hs, w.len, w.hlen, fun x u e => ?_, fun x u e => ?_, fun x hx => ?_, w.offF, fun j k e x u ex => ?_, fun j k x e hx => ?_, w.dj, fun j ob e => ?_⟩
  · have e : Pv.del W.D a x = some u := e
    by_cases n : x = a
    · rw [n, del_same] at e; cases e
    · rw [del_ne n] at e ⊢; exact w.dat _ _ e
  · have n : x ≠ a := fun z => by
      have := w.offD x (some_ne e)
      rw [z, hd] at this; cases this
    rw [del_ne n]
    exact w.frm _ _ e
  · exact none_of del_sub (w.offD x hx)
  · rw [del_ne (ne j k x e (some_ne ex))]
    exact w.sub j k e x u ex
  · exact none_of del_sub (w.off j k x e hx)
  · obtain ⟨b, k, q1, q2, q3⟩ := w.rep j ob e
    exact ⟨b, k, q1, q2, q3.less hd⟩
/-! ### the items -/
end
def lockS (S : Sto) (x : PV) : Option (Nat × List (Key × PV)) := match x with
  | .ref i => (match S[i]? with
    | some (.dic kvs) => some (i, kvs)
    | _ => none)
  | _ => none
section
variable {X : Cx} {G : Gb} {Wx : WX} {kx vx o : Expr} {elts : List Expr} {kk : Nat} {tpos apos cpos pos : Pos} {mo mk me : ME PV} {mt : ME Bool}
end
/-! ### by values -/
section
variable {env : En} {S : Sto} {X : WXE} {Q : PV → Sto → Prop} {mo mk me : ME PV} {mt : ME Bool} {bind : PV × PV → En → Option En} {vs : List Nat}
end
end Pv

/-! The house, plain: what each call does. -/
namespace Pv
open PySem PySem.Spec PyProof.Rows L2 Tc
inductive HErr where
  | noLife (n : Int) | noStretch | noReading (n : Int) | ended | notEnded | noPlace (p : Int) | held (w : Int) | noChange | tooMany (n : Int) | trimmed (n : Int)
def HErr.ex : HErr → Ex
  | .noLife n => ⟨"NoLife", "who", .int n⟩
  | .noStretch => ⟨"NoStretch", "", .non⟩
  | .noReading n => ⟨"NoReading", "number", .int n⟩
  | .ended => ⟨"Ended", "", .non⟩
  | .notEnded => ⟨"NotEnded", "", .non⟩
  | .noPlace p => ⟨"NoPlace", "at", .int p⟩
  | .held w => ⟨"Held", "who", .int w⟩
  | .noChange => ⟨"NoChange", "", .non⟩
  | .tooMany n => ⟨"TooMany", "many", .int n⟩
  | .trimmed n => ⟨"Trimmed", "at", .int n⟩
def HErr.kind : HErr → Str
  | .noLife _ => "asked NoLife+"
  | .noStretch => "told NoStretch+"
  | .noReading _ => "asked NoReading+"
  | .ended => "asked Ended+"
  | .notEnded => "asked NotEnded+"
  | .noPlace _ => "asked NoPlace+"
  | .held _ => "asked Held+"
  | .noChange => "told NoChange+"
  | .tooMany _ => "told TooMany+"
  | .trimmed _ => "asked Trimmed+"
def HErr.field : HErr → PV
  | .noLife n | .noReading n | .noPlace n | .held n | .tooMany n | .trimmed n => .int n
  | _ => .non
inductive HStep where
  | change (cs : List Ch) | life | begin (l f t : Int) | look (n : Int) (m : Nat) | finish (n : Int) | stop (n : Int) | hold (l p : Int) | leave (l : Int) | trim (p : Int)
def HStep.pv : HStep → PV
  | .change cs => .tup [.str "change", chsP cs]
  | .life => .tup [.str "life"]
  | .begin l f t => .tup [.str "begin", .int l, .int f, .int t]
  | .look n m => .tup [.str "look", .int n, .int (m : Int)]
  | .finish n => .tup [.str "finish", .int n]
  | .stop n => .tup [.str "stop", .int n]
  | .hold l p => .tup [.str "hold", .int l, .int p]
  | .leave l => .tup [.str "leave", .int l]
  | .trim p => .tup [.str "trim", .int p]
def HStep.ok (ks : List Int) : HStep → Prop
  | .change cs => 1 ≤ cs.length ∧ cs.length ≤ 6 ∧ ∀ c ∈ cs, Ch.In ks c
  | .look _ m => m ≤ 50
  | _ => True
abbrev HRes := HErr ⊕ (PV × Hs)
def Hs.end (h : Hs) : Int := h.fst + h.ls.length
def heldK (M : List (Int × Option Int)) : List Rw := ((sortI (M.map (·.1))).filter fun n => ((getG M n).getD none).isSome).map fun n => (n, ((getG M n).getD none).getD 0)
def Hs.change (h : Hs) (cs : List Ch) : HRes := if (cs.foldl chM h.w).length ≤ 100 then .inr (.non, { h with w := cs.foldl chM h.w, ls := h.ls ++ [.group cs] }) else .inl (.tooMany (cs.foldl chM h.w).length)
def Hs.life (h : Hs) : HRes := .inr (.int (h.given + 1), { h with given := h.given + 1, hs := putG h.hs (h.given + 1) none })
def Hs.begin (h : Hs) (l f t : Int) : HRes := match getG h.hs l with
  | none => .inl (.noLife l)
  | some _ => if 0 ≤ f ∧ f < t ∧ t ≤ 1000 then .inr (.int h.begun, { h with begun := h.begun + 1, ps := h.ps ++ [(h.begun, ⟨l, f, t, f, [], false⟩)], ls := h.ls ++ [.mark true l h.begun] }) else .inl .noStretch
def Hs.look (h : Hs) (n : Int) (m : Nat) : HRes := match getG h.ps n with
  | none => .inl (.noReading n)
  | some R => if R.over = true then .inl .ended else .inr (tabP (R.rows (tabOf h.w) m), { h with ps := setG h.ps n (R.look (tabOf h.w) m) })
def Hs.finish (h : Hs) (n : Int) : HRes := match getG h.ps n with
  | none => .inl (.noReading n)
  | some R => if R.over = true then .inr (tabP R.found, { h with ps := dropG h.ps n, ls := h.ls ++ [.mark false R.own n] }) else .inl .notEnded
def Hs.stop (h : Hs) (n : Int) : HRes := match getG h.ps n with
  | none => .inl (.noReading n)
  | some _ => .inr (.non, { h with ps := dropG h.ps n })
def Hs.hold (h : Hs) (l p : Int) : HRes := match getG h.hs l with
  | none => .inl (.noLife l)
  | some _ => if h.fst ≤ p ∧ p ≤ h.end then .inr (.non, { h with hs := putG h.hs l (some p) }) else .inl (.noPlace p)
def Hs.leave (h : Hs) (l : Int) : HRes := match getG h.hs l with
  | none => .inl (.noLife l)
  | some _ => .inr (.non, { h with hs := dropG h.hs l, ps := h.ps.filter fun x => decide (x.2.own ≠ l) })
def Hs.trim (h : Hs) (p : Int) : HRes := if h.fst ≤ p ∧ p ≤ h.end then match (heldK h.hs).find? (fun r => decide (r.2 < p)) with
    | some r => .inl (.held r.1)
    | none => .inr (.non, { h with ls := h.ls.drop (p - h.fst).toNat, fst := p })
  else .inl (.noPlace p)
def Hs.run (h : Hs) : HStep → HRes
  | .change cs => h.change cs
  | .life => h.life
  | .begin l f t => h.begin l f t
  | .look n m => h.look n m
  | .finish n => h.finish n
  | .stop n => h.stop n
  | .hold l p => h.hold l p
  | .leave l => h.leave l
  | .trim p => h.trim p
/-- bounds, after so many calls -/
structure HsOk (ks : List Int) (N : Nat) (h : Hs) : Prop where
  w : Mok ks h.w
  wl : h.w.length ≤ 100
  hl : h.hs.length ≤ N
  pl : h.ps.length ≤ N
  ll : h.ls.length ≤ N
  nk : (h.ps.map (·.1)).Nodup
  nh : (h.hs.map (·.1)).Nodup
  nb : ∀ x ∈ h.ps, 0 ≤ x.1 ∧ x.1 < h.begun
  b0 : 0 ≤ h.begun
  ng : ∀ x ∈ h.hs, 1 ≤ x.1 ∧ x.1 ≤ h.given
  g0 : 0 ≤ h.given
  fl : ∀ x ∈ h.ps, x.2.found.length ≤ 50 * N
theorem HsOk.up {ks : List Int} {N M : Nat} {h : Hs} (k : HsOk ks N h) (l : N ≤ M) : HsOk ks M h :=
  ⟨k.w, k.wl, Nat.le_trans k.hl l, Nat.le_trans k.pl l, Nat.le_trans k.ll l, k.nk, k.nh, k.nb, k.b0, k.ng, k.g0, fun x hx => Nat.le_trans (k.fl x hx) (by omega)⟩
section
variable {α : Type} {M : List (Int × α)} {k : Int} {v : α}
theorem putG_len : (putG M k v).length ≤ M.length + 1 := by
  unfold putG
  split
  · rw [List.length_map]; omega
  · rw [List.length_append]; exact Nat.le_refl _
theorem putG_keys (h : (getG M k).isSome) : (putG M k v).map (·.1) = M.map (·.1) := by
  unfold putG
  rw [if_pos, List.map_map]
  · refine List.map_congr_left fun r _ => ?_
    show (if r.1 = k then (r.1, v) else r).1 = r.1
    split <;> rfl
  · cases e : getG M k with
    | none => rw [e] at h; cases h
    | some u => exact List.any_eq_true.mpr ⟨_, getG_some e, decide_eq_true rfl⟩
theorem dropG_len : (dropG M k).length ≤ M.length := List.length_filter_le ..
theorem dropG_nodup (h : (M.map (·.1)).Nodup) : ((dropG M k).map (·.1)).Nodup := (List.filter_sublist.map _).nodup h
theorem getG_append {M2 : List (Int × α)} : getG (M ++ M2) k = (getG M k).or (getG M2 k) := by
  unfold getG
  rw [List.find?_append]
  cases M.find? fun r => decide (r.1 = k) <;> rfl
theorem getG_one {j : Int} : getG [(j, v)] k = if j = k then some v else none := by
  unfold getG
  rw [List.find?_cons]
  by_cases h : j = k
  · simp [h]
  · simp [h]
end
theorem HsOk.life {ks : List Int} {N : Nat} {h h' : Hs} {v : PV} (k : HsOk ks N h) (e : h.life = .inr (v, h')) : HsOk ks (N + 1) h' := by
  cases e
  have en : getG h.hs (h.given + 1) = none := getG_none.mpr fun r hr z => by have := (k.ng r hr).2; omega
  refine ⟨k.w, k.wl, ?_, Nat.le_succ_of_le k.pl, Nat.le_succ_of_le k.ll, k.nk, ?_, k.nb, k.b0, ?_, ?_, fun x hx => Nat.le_trans (k.fl x hx) (by omega)⟩
  · exact Nat.le_trans putG_len (Nat.succ_le_succ k.hl)
  · rw [putG_new en, List.map_append, List.nodup_append]
    refine ⟨k.nh, by simp, fun a ha b hb => ?_⟩
    obtain ⟨r, hr, rfl⟩ := List.mem_map.mp ha
    simp only [List.map_cons, List.map_nil, List.mem_singleton] at hb
    have := (k.ng r hr).2
    omega
  · rw [putG_new en]
    intro x hx
    show 1 ≤ x.1 ∧ x.1 ≤ h.given + 1
    rcases List.mem_append.mp hx with z | z
    · have := k.ng x z; omega
    · cases List.mem_singleton.mp z; have := k.g0; exact ⟨by show 1 ≤ h.given + 1; omega, Int.le_refl _⟩
  · have := k.g0; show 0 ≤ h.given + 1; omega
theorem HsOk.run {ks : List Int} {N : Nat} {h h' : Hs} {s : HStep} {v : PV} (k : HsOk ks N h) (so : s.ok ks) (e : h.run s = .inr (v, h')) : HsOk ks (N + 1) h' := by
  have k1 := k.up (Nat.le_succ N)
  cases s with
  | change cs =>
    have e : (if (cs.foldl chM h.w).length ≤ 100 then (.inr (.non, { h with w := cs.foldl chM h.w, ls := h.ls ++ [.group cs] }) : HRes) else .inl (.tooMany (cs.foldl chM h.w).length)) = .inr (v, h') := e
    split at e
    · rename_i hl
      cases e
      exact ⟨k.w.chs so.2.2, hl, k1.hl, k1.pl, by rw [List.length_append]; exact Nat.succ_le_succ k.ll, k.nk, k.nh, k.nb, k.b0, k.ng, k.g0, k1.fl⟩
    · cases e
  | life => exact k.life e
  | begin l f t =>
    have e : h.begin l f t = .inr (v, h') := e
    unfold Hs.begin at e
    split at e
    · cases e
    · split at e
      · cases e
        have en : ∀ x ∈ h.ps, x.1 ≠ h.begun := fun x hx z => by have := (k.nb x hx).2; omega
        refine ⟨k.w, k.wl, k1.hl, ?_, ?_, ?_, k.nh, fun x hx => ?_, ?_, k.ng, k.g0, fun x hx => ?_⟩
        · rw [List.length_append]; exact Nat.succ_le_succ k.pl
        · rw [List.length_append]; exact Nat.succ_le_succ k.ll
        · rw [List.map_append, List.nodup_append]
          refine ⟨k.nk, by simp, fun a ha b hb => ?_⟩
          obtain ⟨r, hr, rfl⟩ := List.mem_map.mp ha
          simp only [List.map_cons, List.map_nil, List.mem_singleton] at hb
          exact fun z => en r hr (z.trans hb)
        · show 0 ≤ x.1 ∧ x.1 < h.begun + 1
          have b0 := k.b0
          rcases List.mem_append.mp hx with z | z
          · have := k.nb x z; omega
          · cases List.mem_singleton.mp z; exact ⟨b0, by show h.begun < h.begun + 1; omega⟩
        · have := k.b0; show 0 ≤ h.begun + 1; omega
        · rcases List.mem_append.mp hx with z | z
          · exact k1.fl x z
          · cases List.mem_singleton.mp z; exact Nat.zero_le _
      · cases e
  | look n m =>
    have e : h.look n m = .inr (v, h') := e
    unfold Hs.look at e
    split at e
    · cases e
    · rename_i R g
      split at e
      · cases e
      · cases e
        refine ⟨k.w, k.wl, k1.hl, ?_, k1.ll, ?_, k.nh, fun x hx => ?_, k.b0, k.ng, k.g0, fun x hx => ?_⟩
        · rw [show (setG h.ps n (R.look (tabOf h.w) m)).length = h.ps.length by unfold setG; rw [List.length_map]]; exact k1.pl
        · rw [setG_keys]; exact k.nk
        · have : x.1 ∈ (setG h.ps n (R.look (tabOf h.w) m)).map (·.1) := List.mem_map_of_mem hx
          rw [setG_keys] at this
          obtain ⟨y, hy, ey⟩ := List.mem_map.mp this
          rw [← ey]; exact k.nb y hy
        · obtain ⟨y, hy, rfl⟩ := List.mem_map.mp hx
          show (if y.1 = n then (y.1, R.look (tabOf h.w) m) else y).2.found.length ≤ 50 * (N + 1)
          split
          · have h1 := look_found (R := R) (t := tabOf h.w) (m := m)
            have h2 := k.fl _ (getG_some g)
            have h3 : m ≤ 50 := so
            show (R.look (tabOf h.w) m).found.length ≤ _
            have h2 : R.found.length ≤ 50 * N := h2
            omega
          · exact k1.fl y hy
  | finish n =>
    have e : h.finish n = .inr (v, h') := e
    unfold Hs.finish at e
    split at e
    · cases e
    · split at e
      · cases e
        exact ⟨k.w, k.wl, k1.hl, Nat.le_trans dropG_len k1.pl, by rw [List.length_append]; exact Nat.succ_le_succ k.ll, dropG_nodup k.nk, k.nh, fun x hx => k.nb x (List.mem_filter.mp hx).1, k.b0, k.ng, k.g0, fun x hx => k1.fl x (List.mem_filter.mp hx).1⟩
      · cases e
  | stop n =>
    have e : h.stop n = .inr (v, h') := e
    unfold Hs.stop at e
    split at e
    · cases e
    · cases e
      exact ⟨k.w, k.wl, k1.hl, Nat.le_trans dropG_len k1.pl, k1.ll, dropG_nodup k.nk, k.nh, fun x hx => k.nb x (List.mem_filter.mp hx).1, k.b0, k.ng, k.g0, fun x hx => k1.fl x (List.mem_filter.mp hx).1⟩
  | hold l p =>
    have e : h.hold l p = .inr (v, h') := e
    unfold Hs.hold at e
    split at e
    · cases e
    · rename_i u g
      have gs : (getG h.hs l).isSome := by rw [g]; rfl
      split at e
      · cases e
        have ek := putG_keys (v := (some p : Option Int)) gs
        refine ⟨k.w, k.wl, ?_, k1.pl, k1.ll, k.nk, by rw [ek]; exact k.nh, k.nb, k.b0, fun x hx => ?_, k.g0, k1.fl⟩
        · rw [← List.length_map (f := (·.1)), ek, List.length_map]; exact k1.hl
        · have : x.1 ∈ (putG h.hs l (some p)).map (·.1) := List.mem_map_of_mem hx
          rw [ek] at this
          obtain ⟨y, hy, ey⟩ := List.mem_map.mp this
          rw [← ey]; exact k.ng y hy
      · cases e
  | leave l =>
    have e : h.leave l = .inr (v, h') := e
    unfold Hs.leave at e
    split at e
    · cases e
    · cases e
      exact ⟨k.w, k.wl, Nat.le_trans dropG_len k1.hl, Nat.le_trans (List.length_filter_le ..) k1.pl, k1.ll, (List.filter_sublist.map _).nodup k.nk, dropG_nodup k.nh, fun x hx => k.nb x (List.mem_filter.mp hx).1, k.b0, fun x hx => k.ng x (List.mem_filter.mp hx).1, k.g0, fun x hx => k1.fl x (List.mem_filter.mp hx).1⟩
  | trim p =>
    have e : h.trim p = .inr (v, h') := e
    unfold Hs.trim at e
    split at e
    · split at e
      · cases e
      · cases e
        exact ⟨k.w, k.wl, k1.hl, k1.pl, Nat.le_trans (by rw [List.length_drop]; omega) k1.ll, k.nk, k.nh, k.nb, k.b0, k.ng, k.g0, k1.fl⟩
    · cases e
end Pv

/-! Written dicts; d[k] += e; three comparisons as a test. -/
namespace Pv
open PySem PySem.Spec PyProof.Rows L2 Tc
/-! ### a written dict -/
def dPairs : List (ME PV × ME PV) → ME (List (Key × PV))
  | [], _, S => .ok [] S
  | p :: r, env, S => (p.1 env S).bind fun x S => (p.2 env S).bind fun y S => (dPairs r env S).bind fun kvs S => optR ((keyP x).map fun k => (k, y) :: kvs) S
def eDisp (ps : List (ME PV × ME PV)) : ME PV := fun env S => (dPairs ps env (S ++ [.dic []])).bind fun kvs S2 => match S2[S.length]? with
  | some (.dic []) => if kvs.length ≤ 15 then .ok (.ref S.length) (S2.set S.length (.dic (mergeP [] kvs))) else .err
  | _ => .err
section
variable {X : Cx} {G : Gb} {Wx : WX} {e k v o i value : Expr} {ks : List (Option Expr)} {vs : List Expr} {pos tpos : Pos} {mk mv mo mi m : ME PV} {ps : List (ME PV × ME PV)}
/-! ### d[k] += e, ints -/
def getDS (S : Sto) (x y : PV) : Option PV := (dicS S x).bind fun kvs => (keyP y).bind fun k => getK kvs k
def sAugIx (mo mi m : ME PV) : MS := fun env S => (mo env S).then env fun x S => (mi env S).then env fun y S => match getDS S x y with
  | some (.int k) => (m env S).then env fun z S => (match z, lockS S x, keyP y with
    | .int l, some p, some key => if p.2.length < 100000 then .nx env (S.set p.1 (.dic (putKp p.2 key (.int (k + l))))) else .err
    | _, _, _ => .err)
  | _ => .err
end
/-! ### by values -/
section
variable {X : WXE} {P : Po} {env : En} {S : Sto} {mo mi m a b : ME PV} {ps : List (ME PV × ME PV)} {Q : PV → Sto → Prop} {QK : List (Key × PV) → Sto → Prop}
theorem w_dpn : wE (dPairs [] env S) QK X = QK [] S := by
  show wE (.ok [] S) QK X = _
  rw [w_ok]
theorem w_dpc : wE (dPairs ((a, b) :: ps) env S) QK X = wE (a env S) (fun x S => wE (b env S) (fun y S => wE (dPairs ps env S) (fun kvs S => wO (keyP x) fun k => QK ((k, y) :: kvs) S) X) X) X := by
  show wE ((a env S).bind _) QK X = _
  simp only [w_bind, w_optR, o_map]
theorem w_disp : wE (eDisp ps env S) Q X = wE (dPairs ps env (S ++ [.dic []])) (fun kvs S2 => S2[S.length]? = some (.dic []) ∧ kvs.length ≤ 15 ∧ Q (.ref S.length) (S2.set S.length (.dic (mergeP [] kvs)))) X := by
  unfold eDisp
  rw [w_bind]
  congr 1
  funext kvs S2
  split
  · rename_i h
    rw [w_guard, w_ok, h]
    exact propext ⟨fun h => ⟨rfl, h⟩, fun h => h.2⟩
  · rename_i h
    rw [w_err]
    exact propext ⟨fun h => h.elim, fun z => absurd z.1 (h)⟩
theorem s_augIx : wS (sAugIx mo mi m env S) P = wE (mo env S) (fun x S => wE (mi env S) (fun y S => wO (getDS S x y) fun v => asI v fun k => wE (m env S) (fun z S => asI z fun l => wO (lockS S x) fun p => wO (keyP y) fun key => p.2.length < 100000 ∧ P.N env (S.set p.1 (.dic (putKp p.2 key (.int (k + l)))))) P.X) P.X) P.X := by
  unfold sAugIx
  rw [w_then]
  congr 1
  funext x S
  rw [w_then]
  congr 1
  funext y S
  simp only [wE_eq, wS_eq]
  cases getDS S x y with
  | none => rfl
  | some v =>
    cases v with
    | int k =>
      show wS0 ((m env S).then env _) P = wE0 (m env S) _ P.X
      rw [w_then0]
      congr 1
      funext z S
      cases z with
      | int l =>
        show wS0 (match (PV.int l), lockS S x, keyP y with
          | .int l, some p, some key => if p.2.length < 100000 then .nx env (S.set p.1 (.dic (putKp p.2 key (.int (k + l))))) else .err
          | _, _, _ => .err) P = wO (lockS S x) _
        cases lockS S x with
        | none => rfl
        | some p =>
          cases keyP y with
          | none => rfl
          | some key =>
            show wS0 (if p.2.length < 100000 then .nx env (S.set p.1 (.dic (putKp p.2 key (.int (k + l))))) else .err) P = (_ ∧ _)
            split
            · exact propext ⟨fun h => ⟨by assumption, h⟩, fun h => h.2⟩
            · exact propext ⟨fun h => h.elim, fun h => absurd h.1 (by assumption)⟩
      | _ => rfl
    | _ => rfl
end
theorem key_str {s : Str} : keyP (.str s) = some (.inr s) := rfl
end Pv

/-! The house, plain: its whole log, what its readings have read. -/
namespace Pv
open PySem PySem.Spec PyProof.Rows L2 Tc
/-- the whole log -/
structure Who (h : Hs) (W : List Ent) (f : Nat) : Prop where
  ef : h.fst = (f : Int)
  le : f ≤ W.length
  ls : h.ls = W.drop f
theorem Who.end {h : Hs} {W : List Ent} {f : Nat} (w : Who h W f) : h.fst + (h.ls.length : Nat) = (W.length : Int) := by
  have := w.le
  rw [w.ef, w.ls, List.length_drop]
  omega
theorem Who.app {h : Hs} {W : List Ent} {f : Nat} {h' : Hs} {e : Ent} (w : Who h W f) (e1 : h'.fst = h.fst) (e2 : h'.ls = h.ls ++ [e]) : Who h' (W ++ [e]) f :=
  ⟨e1.trans w.ef, by rw [List.length_append]; exact Nat.le_add_right_of_le w.le, by rw [e2, w.ls, List.drop_append_of_le_length w.le]⟩
theorem Who.same {h : Hs} {W : List Ent} {f : Nat} {h' : Hs} (w : Who h W f) (e1 : h'.fst = h.fst) (e2 : h'.ls = h.ls) : Who h' (W ++ []) f :=
  ⟨e1.trans w.ef, by rw [List.append_nil]; exact w.le, by rw [List.append_nil, e2]; exact w.ls⟩
theorem Who.run {h h' : Hs} {W : List Ent} {f : Nat} {s : HStep} {v : PV} (w : Who h W f) (e : h.run s = .inr (v, h')) : ∃ f' W', Who h' (W ++ W') f' ∧ f ≤ f' ∧ f' ≤ W.length ∧ W'.length ≤ 1 := by
  have wl := w.le
  cases s with
  | change cs =>
    have e : h.change cs = .inr (v, h') := e
    unfold Hs.change at e
    split at e
    · cases e; exact ⟨f, [.group cs], w.app rfl rfl, Nat.le_refl _, wl, Nat.le_refl _⟩
    · cases e
  | life => cases e; exact ⟨f, [], w.same rfl rfl, Nat.le_refl _, wl, Nat.zero_le _⟩
  | begin l f2 t =>
    have e : h.begin l f2 t = .inr (v, h') := e
    unfold Hs.begin at e
    split at e
    · cases e
    · split at e
      · cases e; exact ⟨f, [.mark true l h.begun], w.app rfl rfl, Nat.le_refl _, wl, Nat.le_refl _⟩
      · cases e
  | look n m =>
    have e : h.look n m = .inr (v, h') := e
    unfold Hs.look at e
    split at e
    · cases e
    · split at e
      · cases e
      · cases e; exact ⟨f, [], w.same rfl rfl, Nat.le_refl _, wl, Nat.zero_le _⟩
  | finish n =>
    have e : h.finish n = .inr (v, h') := e
    unfold Hs.finish at e
    split at e
    · cases e
    · split at e
      · cases e; exact ⟨f, [_], w.app rfl rfl, Nat.le_refl _, wl, Nat.le_refl _⟩
      · cases e
  | stop n =>
    have e : h.stop n = .inr (v, h') := e
    unfold Hs.stop at e
    split at e
    · cases e
    · cases e; exact ⟨f, [], w.same rfl rfl, Nat.le_refl _, wl, Nat.zero_le _⟩
  | hold l p =>
    have e : h.hold l p = .inr (v, h') := e
    unfold Hs.hold at e
    split at e
    · cases e
    · split at e
      · cases e; exact ⟨f, [], w.same rfl rfl, Nat.le_refl _, wl, Nat.zero_le _⟩
      · cases e
  | leave l =>
    have e : h.leave l = .inr (v, h') := e
    unfold Hs.leave at e
    split at e
    · cases e
    · cases e; exact ⟨f, [], w.same rfl rfl, Nat.le_refl _, wl, Nat.zero_le _⟩
  | trim p =>
    have e : h.trim p = .inr (v, h') := e
    unfold Hs.trim at e
    split at e
    · rename_i c
      split at e
      · cases e
      · cases e
        have c2 : p ≤ h.fst + (h.ls.length : Nat) := c.2
        rw [w.end] at c2
        have c1 := c.1
        rw [w.ef] at c1
        refine ⟨p.toNat, [], ⟨by show p = (p.toNat : Int); omega, by rw [List.append_nil]; omega, ?_⟩, by omega, by omega, Nat.zero_le _⟩
        show h.ls.drop (p - h.fst).toNat = _
        rw [List.append_nil, w.ls, List.drop_drop, w.ef]
        congr 1
        omega
    · cases e
def nextH (h : Hs) (r : HRes) : Hs := match r with
  | .inl _ => h
  | .inr (_, h') => h'
theorem Who.next {h : Hs} {W : List Ent} {f : Nat} {s : HStep} (w : Who h W f) : ∃ f' W', Who (nextH h (h.run s)) (W ++ W') f' ∧ f ≤ f' ∧ f' ≤ W.length ∧ W'.length ≤ 1 := by
  cases e : h.run s with
  | inl x => exact ⟨f, [], w.same rfl rfl, Nat.le_refl _, w.le, Nat.zero_le _⟩
  | inr p => obtain ⟨v, h'⟩ := p; exact w.run e
theorem max_int16 {S : Sto} {i j : Int} : max2 S (.int i) (.int j) = some (.int (if i < j then j else i)) := rfl
/-! ### marks -/
def isMk (lo : Bool) (n : Int) : Ent → Bool
  | .mark b _ m => (b == lo) && decide (m = n)
  | .group _ => false
def marksOf (lo : Bool) (ls : List Ent) (n : Int) : List Nat := (((List.range ls.length).zip ls).filter fun p => isMk lo n p.2).map (·.1)
theorem zip_snoc {ls : List Ent} {e : Ent} : (List.range (ls ++ [e]).length).zip (ls ++ [e]) = (List.range ls.length).zip ls ++ [(ls.length, e)] := by
  rw [List.length_append, List.length_singleton, List.range_succ, List.zip_append List.length_range]
  rfl
theorem marks_snoc {lo : Bool} {ls : List Ent} {e : Ent} {n : Int} : marksOf lo (ls ++ [e]) n = marksOf lo ls n ++ if isMk lo n e = true then [ls.length] else [] := by
  unfold marksOf
  rw [zip_snoc, List.filter_append, List.map_append]
  congr 1
  cases h : isMk lo n e with
  | true => rw [List.filter_cons_of_pos (by exact h)]; rfl
  | false => rw [List.filter_cons_of_neg (by simpa using h)]; rfl
theorem marks_none {lo : Bool} {ls : List Ent} {n : Int} (h : ∀ e ∈ ls, isMk lo n e = false) : marksOf lo ls n = [] := by
  unfold marksOf
  rw [List.filter_eq_nil_iff.mpr]
  · rfl
  · intro p hp
    have := h p.2 (List.of_mem_zip hp).2
    simp [this]
theorem marks_skip {lo : Bool} {ls : List Ent} {e : Ent} {n : Int} (h : isMk lo n e = false) : marksOf lo (ls ++ [e]) n = marksOf lo ls n := by
  rw [marks_snoc, h, if_neg (by decide), List.append_nil]
/-! ### what was read -/
def Reads (ts : List (List Rw)) (l : Int) : Int → List Nat → List Rw → Int → Prop
  | f, [], [], c => c = f
  | f, m :: ms, r :: rs, c => findM (ts.getD m []) f l = some r ∧ Reads ts l (r.1 + 1) ms rs c
  | _, _, _, _ => False
theorem Reads.stop {ts : List (List Rw)} {l : Int} : ∀ {f c : Int} {ms : List Nat} {rs : List Rw} {m : Nat}, Reads ts l f ms rs c → findM (ts.getD m []) c l = none → readM ts l f (ms ++ [m]) = some rs
  | f, c, [], [], m, h, e => by
    have h : c = f := h
    subst h
    exact readM_stop e
  | f, c, m0 :: ms, r :: rs, m, h, e => by
    obtain ⟨h1, h2⟩ : findM (ts.getD m0 []) f l = some r ∧ Reads ts l (r.1 + 1) ms rs c := h
    rw [List.cons_append, readM_some h1, Reads.stop h2 e]
    rfl
  | f, c, [], r :: rs, m, h, e => h.elim
  | f, c, m0 :: ms, [], m, h, e => h.elim
theorem Reads.congr {ts ts' : List (List Rw)} {l : Int} : ∀ {f c : Int} {ms : List Nat} {rs : List Rw}, (∀ m ∈ ms, ts'.getD m [] = ts.getD m []) → Reads ts l f ms rs c → Reads ts' l f ms rs c
  | f, c, [], [], _, h => h
  | f, c, m0 :: ms, r :: rs, k, h => ⟨by rw [k m0 List.mem_cons_self]; exact h.1, Reads.congr (fun m hm => k m (List.mem_cons_of_mem _ hm)) h.2⟩
  | f, c, [], r :: rs, _, h => h.elim
  | f, c, m0 :: ms, [], _, h => h.elim
theorem Reads.snoc {ts : List (List Rw)} {l : Int} : ∀ {f c : Int} {ms : List Nat} {rs : List Rw} {m : Nat} {r : Rw}, Reads ts l f ms rs c → findM (ts.getD m []) c l = some r → Reads ts l f (ms ++ [m]) (rs ++ [r]) (r.1 + 1)
  | f, c, [], [], m, r, h, e => by
    have h : c = f := h
    subst h
    exact ⟨e, rfl⟩
  | f, c, m0 :: ms, r0 :: rs, m, r, h, e => ⟨h.1, Reads.snoc h.2 e⟩
  | f, c, [], r0 :: rs, m, r, h, e => h.elim
  | f, c, m0 :: ms, [], m, r, h, e => h.elim
theorem Reads.look {ts : List (List Rw)} {l : Int} {p : Nat} {t : List Rw} (et : ts.getD p [] = t) : ∀ {n : Nat} {f c : Int} {ms : List Nat} {rs : List Rw}, Reads ts l f ms rs c →
    ∃ k, Reads ts l f (ms ++ List.replicate k p) (rs ++ (lookN t l n c false).1) (lookN t l n c false).2.1 ∧ ((lookN t l n c false).2.2 = true → findM t (lookN t l n c false).2.1 l = none)
  | 0, f, c, ms, rs, h => ⟨0, by rw [List.replicate_zero, List.append_nil]; show Reads ts l f ms (rs ++ []) c; rw [List.append_nil]; exact h, fun z => by cases z⟩
  | n + 1, f, c, ms, rs, h => by
    cases e : findM t c l with
    | none =>
      rw [lookN_none e]
      exact ⟨0, by rw [List.replicate_zero, List.append_nil]; show Reads ts l f ms (rs ++ []) c; rw [List.append_nil]; exact h, fun _ => e⟩
    | some r =>
      rw [lookN_some e]
      obtain ⟨k, h1, h2⟩ := Reads.look et (n := n) (h.snoc (by rw [et]; exact e))
      refine ⟨k + 1, ?_, h2⟩
      rw [List.append_assoc] at h1
      rw [List.append_assoc] at h1
      exact h1
/-- all tables of a log -/
def tabs (rows : List Rw) (ls : List Ent) : List (List Rw) := tabsAt rows ls (ls.length + 1)
theorem tabs_get {rows : List Rw} {ls : List Ent} {m : Nat} (h : m ≤ ls.length) : (tabs rows ls).getD m [] = tabOf (logM (normM rows) (ls.take m)) := by
  unfold tabs tabsAt
  rw [List.getD_eq_getElem?_getD, List.getElem?_map, List.getElem?_range (by omega)]
  rfl
theorem tabs_ext {rows : List Rw} {ls : List Ent} {e : Ent} {m : Nat} (h : m ≤ ls.length) : (tabs rows (ls ++ [e])).getD m [] = (tabs rows ls).getD m [] := by
  rw [tabs_get h, tabs_get (by rw [List.length_append]; omega), List.take_append_of_le_length h]
/-- an open reading -/
def RdOk (rows : List Rw) (ls : List Ent) (n : Int) (R : Rd) : Prop := ∃ a ms, marksOf true ls n = [a] ∧ marksOf false ls n = [] ∧ a < ls.length ∧ (∀ m ∈ ms, a + 1 ≤ m ∧ m ≤ ls.length) ∧ ms.Pairwise (· ≤ ·) ∧ Reads (tabs rows ls) R.lst R.fst ms R.found R.cur ∧
  (R.over = true → ∃ m, (∀ x ∈ ms, x ≤ m) ∧ a + 1 ≤ m ∧ m ≤ ls.length ∧ findM ((tabs rows ls).getD m []) R.cur R.lst = none)
theorem RdOk.snoc {rows : List Rw} {ls : List Ent} {n : Int} {R : Rd} {e : Ent} (h : RdOk rows ls n R) (h1 : isMk true n e = false) (h2 : isMk false n e = false) : RdOk rows (ls ++ [e]) n R := by
  obtain ⟨a, ms, m1, m2, al, mb, mp, rd, ov⟩ := h
  refine ⟨a, ms, (marks_skip h1).trans m1, (marks_skip h2).trans m2, by rw [List.length_append]; omega, fun m hm => ⟨(mb m hm).1, by rw [List.length_append]; have := (mb m hm).2; omega⟩, mp, rd.congr fun m hm => tabs_ext (mb m hm).2, fun o => ?_⟩
  obtain ⟨m, x1, x2, x3, x4⟩ := ov o
  exact ⟨m, x1, x2, by rw [List.length_append]; omega, by rw [tabs_ext x3]; exact x4⟩
theorem RdOk.look {rows : List Rw} {ls : List Ent} {n : Int} {R : Rd} {m : Nat} (h : RdOk rows ls n R) (ho : R.over = false) : RdOk rows ls n (R.look (tabOf (logM (normM rows) ls)) m) := by
  obtain ⟨a, ms, m1, m2, al, mb, mp, rd, ov⟩ := h
  have et : (tabs rows ls).getD ls.length [] = tabOf (logM (normM rows) ls) := by rw [tabs_get (Nat.le_refl _), List.take_length]
  obtain ⟨k, r1, r2⟩ := Reads.look et (n := m) rd
  have eo : R.look (tabOf (logM (normM rows) ls)) m = { R with cur := (lookN (tabOf (logM (normM rows) ls)) R.lst m R.cur false).2.1, over := (lookN (tabOf (logM (normM rows) ls)) R.lst m R.cur false).2.2, found := R.found ++ (lookN (tabOf (logM (normM rows) ls)) R.lst m R.cur false).1 } := by
    unfold Rd.look
    rw [ho]
  rw [eo]
  have rin : ∀ x ∈ ms ++ List.replicate k ls.length, a + 1 ≤ x ∧ x ≤ ls.length := fun x hx => by
    rcases List.mem_append.mp hx with z | z
    · exact mb x z
    · rw [(List.mem_replicate.mp z).2]; omega
  refine ⟨a, ms ++ List.replicate k ls.length, m1, m2, al, rin, ?_, r1, fun o => ⟨ls.length, fun x hx => (rin x hx).2, al, Nat.le_refl _, by rw [et]; exact r2 o⟩⟩
  rw [List.pairwise_append]
  refine ⟨mp, List.pairwise_replicate.mpr (.inr (Nat.le_refl _)), fun x hx y hy => ?_⟩
  rw [(List.mem_replicate.mp hy).2]
  exact (mb x hx).2
/-- a reading that is finished -/
theorem RdOk.fin {rows : List Rw} {ls : List Ent} {n o : Int} {R : Rd} (h : RdOk rows ls n R) (ho : R.over = true) : ∃ a ms, marksOf true (ls ++ [.mark false o n]) n = [a] ∧ marksOf false (ls ++ [.mark false o n]) n = [ls.length] ∧ a + 1 ≤ ls.length ∧
    readM (tabs rows (ls ++ [.mark false o n])) R.lst R.fst ms = some R.found ∧ (∀ m ∈ ms, a + 1 ≤ m ∧ m ≤ ls.length) ∧ ms.Pairwise (· ≤ ·) := by
  obtain ⟨a, ms, m1, m2, al, mb, mp, rd, ov⟩ := h
  obtain ⟨m, x1, x2, x3, x4⟩ := ov ho
  have h1 : isMk true n (.mark false o n) = false := rfl
  have h2 : isMk false n (.mark false o n) = true := by show ((false == false) && decide (n = n)) = true; simp
  refine ⟨a, ms ++ [m], (marks_skip h1).trans m1, by rw [marks_snoc, h2, m2]; rfl, al, ?_, ?_, ?_⟩
  · exact (rd.congr fun y hy => tabs_ext (mb y hy).2).stop (by rw [tabs_ext x3]; exact x4)
  · intro y hy
    rcases List.mem_append.mp hy with z | z
    · exact mb y z
    · cases List.mem_singleton.mp z; exact ⟨x2, x3⟩
  · rw [List.pairwise_append]
    exact ⟨mp, List.pairwise_singleton _ _, fun x hx y hy => by cases List.mem_singleton.mp hy; exact x1 x hx⟩
/-! ### the whole house: no trims -/
structure HsLog (rows : List Rw) (M : List (Int × (Int × Int))) (h : Hs) : Prop where
  f0 : h.fst = 0
  w : h.w = logM (normM rows) h.ls
  mks : ∀ e ∈ h.ls, ∀ lo n, h.begun ≤ n → isMk lo n e = false
  rd : ∀ x ∈ h.ps, RdOk rows h.ls x.1 x.2
  st : ∀ x ∈ h.ps, getG M x.1 = some (x.2.fst, x.2.lst)
theorem logM_snoc {M : List Rw} {ls : List Ent} {e : Ent} : logM M (ls ++ [e]) = (chsOf e).foldl chM (logM M ls) := by
  unfold logM
  rw [List.foldl_append]
  rfl
theorem getG_put {α : Type} {M : List (Int × α)} {k j : Int} {v : α} : getG (putG M k v) j = if j = k then some v else getG M j := by
  unfold putG
  by_cases c : (M.any fun r => decide (r.1 = k)) = true
  · rw [if_pos c]
    unfold getG
    rw [List.find?_map]
    have ef : (fun r : Int × α => decide (r.1 = j)) ∘ (fun r : Int × α => if r.1 = k then (r.1, v) else r) = fun r => decide (r.1 = j) := by
      funext r
      show decide ((if r.1 = k then (r.1, v) else r).1 = j) = _
      split <;> rfl
    rw [ef, Option.map_map]
    by_cases e : j = k
    · subst e
      rw [if_pos rfl]
      cases f : M.find? fun r => decide (r.1 = j) with
      | none =>
        obtain ⟨r, hr, er⟩ := List.any_eq_true.mp c
        exact absurd er (List.find?_eq_none.mp f r hr)
      | some r =>
        have := of_decide_eq_true (List.find?_some (p := fun r : Int × α => decide (r.1 = j)) f)
        show some ((if r.1 = j then (r.1, v) else r).2) = _
        rw [if_pos this]
    · rw [if_neg e]
      cases f : M.find? fun r => decide (r.1 = j) with
      | none => rfl
      | some r =>
        have := of_decide_eq_true (List.find?_some (p := fun r : Int × α => decide (r.1 = j)) f)
        show some ((if r.1 = k then (r.1, v) else r).2) = some r.2
        rw [if_neg (by rw [this]; exact e)]
  · rw [if_neg c]
    rw [getG_append, getG_one]
    by_cases e : j = k
    · subst e
      rw [if_pos rfl, if_pos rfl]
      have : getG M j = none := getG_none.mpr fun r hr z => c (List.any_eq_true.mpr ⟨r, hr, decide_eq_true z⟩)
      rw [this]; rfl
    · rw [if_neg e, if_neg (Ne.symm e)]
      cases getG M j <;> rfl
/-- what the law keeps of the stretches -/
def nextM (M : List (Int × (Int × Int))) (h : Hs) : HStep → List (Int × (Int × Int))
  | .begin l f t => (match h.begin l f t with
    | .inl _ => M
    | .inr _ => putG M h.begun (f, t))
  | _ => M
theorem HsLog.app {rows : List Rw} {M : List (Int × (Int × Int))} {h h' : Hs} {e : Ent} (k : HsLog rows M h) (ef : h'.fst = h.fst) (el : h'.ls = h.ls ++ [e]) (ew : h'.w = (chsOf e).foldl chM h.w) (eb : h.begun ≤ h'.begun) (hm : ∀ lo n, h'.begun ≤ n → isMk lo n e = false)
    (hp : ∀ x ∈ h'.ps, x ∈ h.ps ∧ isMk true x.1 e = false ∧ isMk false x.1 e = false) : HsLog rows M h' := by
  refine ⟨ef.trans k.f0, ?_, fun z hz lo n hn => ?_, fun x hx => ?_, fun x hx => k.st x (hp x hx).1⟩
  · rw [ew, el, logM_snoc, k.w]
  · rw [el] at hz
    rcases List.mem_append.mp hz with q | q
    · exact k.mks z q lo n (by omega)
    · cases List.mem_singleton.mp q; exact hm lo n hn
  · obtain ⟨h1, h2, h3⟩ := hp x hx
    rw [el]
    exact (k.rd x h1).snoc h2 h3
theorem HsLog.run {rows : List Rw} {M : List (Int × (Int × Int))} {ks : List Int} {N : Nat} {h h' : Hs} {s : HStep} {v : PV} (k : HsLog rows M h) (ok : HsOk ks N h) (nt : ∀ p, s ≠ .trim p) (e : h.run s = .inr (v, h')) : HsLog rows (nextM M h s) h' := by
  cases s with
  | change cs =>
    have e : h.change cs = .inr (v, h') := e
    unfold Hs.change at e
    split at e
    · cases e; exact k.app (e := .group cs) rfl rfl rfl (Int.le_refl _) (fun _ _ _ => rfl) fun x hx => ⟨hx, rfl, rfl⟩
    · cases e
  | life => cases e; exact ⟨k.f0, k.w, k.mks, k.rd, k.st⟩
  | begin l f t =>
    have e : h.begin l f t = .inr (v, h') := e
    have eM : nextM M h (.begin l f t) = putG M h.begun (f, t) := by
      show (match h.begin l f t with | .inl _ => M | .inr _ => putG M h.begun (f, t)) = _
      rw [e]
    rw [eM]
    unfold Hs.begin at e
    split at e
    · cases e
    · split at e
      · cases e
        refine ⟨k.f0, ?_, fun z hz lo n hn => ?_, fun x hx => ?_, fun x hx => ?_⟩
        · show h.w = logM (normM rows) (h.ls ++ [.mark true l h.begun])
          rw [logM_snoc]; exact k.w
        · have hn : h.begun + 1 ≤ n := hn
          rcases List.mem_append.mp hz with q | q
          · exact k.mks z q lo n (by omega)
          · cases List.mem_singleton.mp q
            show ((true == lo) && decide (h.begun = n)) = false
            rw [decide_eq_false (by omega), Bool.and_false]
        · rcases List.mem_append.mp hx with q | q
          · have nb := (ok.nb x q).2
            have ne : ∀ lo, isMk lo x.1 (.mark true l h.begun) = false := fun lo => by
              show ((true == lo) && decide (h.begun = x.1)) = false
              rw [decide_eq_false (by omega), Bool.and_false]
            exact (k.rd x q).snoc (ne true) (ne false)
          · cases List.mem_singleton.mp q
            have h0 : ∀ lo, marksOf lo h.ls h.begun = [] := fun lo => marks_none fun z hz => k.mks z hz lo h.begun (Int.le_refl _)
            have h1 : isMk true h.begun (.mark true l h.begun) = true := by show ((true == true) && decide (h.begun = h.begun)) = true; simp
            have h2 : isMk false h.begun (.mark true l h.begun) = false := rfl
            refine ⟨h.ls.length, [], ?_, (marks_skip h2).trans (h0 false), by show h.ls.length < (h.ls ++ [_]).length; rw [List.length_append, List.length_singleton]; omega, fun m hm => (by cases hm), List.Pairwise.nil, rfl, fun o => by cases o⟩
            show marksOf true (h.ls ++ [_]) h.begun = _
            rw [marks_snoc, h1, h0]; rfl
        · show getG (putG M h.begun (f, t)) x.1 = _
          rw [getG_put]
          rcases List.mem_append.mp hx with q | q
          · have nb := (ok.nb x q).2
            rw [if_neg (by omega)]
            exact k.st x q
          · cases List.mem_singleton.mp q
            exact if_pos rfl
      · cases e
  | look n m =>
    have e : h.look n m = .inr (v, h') := e
    unfold Hs.look at e
    split at e
    · cases e
    · rename_i R g
      split at e
      · cases e
      · rename_i no
        cases e
        have hR := getG_some g
        have key : ∀ x ∈ setG h.ps n (R.look (tabOf h.w) m), (x.1, R) ∈ h.ps ∧ x.2 = R.look (tabOf h.w) m ∨ x ∈ h.ps := fun x hx => by
          obtain ⟨y, hy, rfl⟩ := List.mem_map.mp hx
          by_cases c : y.1 = n
          · rw [if_pos c]
            left
            exact ⟨by rw [c]; exact hR, rfl⟩
          · rw [if_neg c]; exact .inr hy
        refine ⟨k.f0, k.w, k.mks, fun x hx => ?_, fun x hx => ?_⟩
        · rcases key x hx with ⟨h1, h2⟩ | h1
          · rw [h2, k.w]
            exact (k.rd _ h1).look (by cases hq : R.over <;> simp_all)
          · exact k.rd x h1
        · rcases key x hx with ⟨h1, h2⟩ | h1
          · rw [h2]; exact k.st _ h1
          · exact k.st x h1
  | finish n =>
    have e : h.finish n = .inr (v, h') := e
    unfold Hs.finish at e
    split at e
    · cases e
    · rename_i R g
      split at e
      · cases e
        have hm := (ok.nb _ (getG_some g)).2
        have hm : n < h.begun := hm
        refine k.app (e := .mark false R.own n) rfl rfl rfl (Int.le_refl _) (fun lo j hj => ?_) fun x hx => ?_
        · have hj : h.begun ≤ j := hj
          show ((false == lo) && decide (n = j)) = false
          rw [decide_eq_false (by omega), Bool.and_false]
        · obtain ⟨q1, q2⟩ := List.mem_filter.mp hx
          have q2 := of_decide_eq_true q2
          refine ⟨q1, rfl, ?_⟩
          show ((false == false) && decide (n = x.1)) = false
          rw [decide_eq_false (fun z => q2 z.symm), Bool.and_false]
      · cases e
  | stop n =>
    have e : h.stop n = .inr (v, h') := e
    unfold Hs.stop at e
    split at e
    · cases e
    · cases e; exact ⟨k.f0, k.w, k.mks, fun x hx => k.rd x (List.mem_filter.mp hx).1, fun x hx => k.st x (List.mem_filter.mp hx).1⟩
  | hold l p =>
    have e : h.hold l p = .inr (v, h') := e
    unfold Hs.hold at e
    split at e
    · cases e
    · split at e
      · cases e; exact ⟨k.f0, k.w, k.mks, k.rd, k.st⟩
      · cases e
  | leave l =>
    have e : h.leave l = .inr (v, h') := e
    unfold Hs.leave at e
    split at e
    · cases e
    · cases e; exact ⟨k.f0, k.w, k.mks, fun x hx => k.rd x (List.mem_filter.mp hx).1, fun x hx => k.st x (List.mem_filter.mp hx).1⟩
  | trim p => exact absurd rfl (nt p)
/-- an entry's changes are of drawn keys and worths -/
def EntG (ks : List Int) (e : Ent) : Prop := ∀ c ∈ chsOf e, Ch.In ks c
theorem EntG.run {ks : List Int} {h h' : Hs} {s : HStep} {v : PV} (so : s.ok ks) (k : ∀ e ∈ h.ls, EntG ks e) (e : h.run s = .inr (v, h')) : ∀ e ∈ h'.ls, EntG ks e := by
  have app : ∀ {ls : List Ent} {x : Ent}, (∀ e ∈ ls, EntG ks e) → EntG ks x → ∀ e ∈ ls ++ [x], EntG ks e := fun h1 h2 e he => by
    rcases List.mem_append.mp he with q | q
    · exact h1 e q
    · cases List.mem_singleton.mp q; exact h2
  have mk : ∀ b l n, EntG ks (.mark b l n) := fun b l n c hc => by cases hc
  cases s with
  | change cs =>
    have e : h.change cs = .inr (v, h') := e
    unfold Hs.change at e
    split at e
    · cases e; exact app k (show ∀ c ∈ cs, Ch.In ks c from so.2.2)
    · cases e
  | life => cases e; exact k
  | begin l f t =>
    have e : h.begin l f t = .inr (v, h') := e
    unfold Hs.begin at e
    split at e
    · cases e
    · split at e
      · cases e; exact app k (mk _ _ _)
      · cases e
  | look n m =>
    have e : h.look n m = .inr (v, h') := e
    unfold Hs.look at e
    split at e
    · cases e
    · split at e
      · cases e
      · cases e; exact k
  | finish n =>
    have e : h.finish n = .inr (v, h') := e
    unfold Hs.finish at e
    split at e
    · cases e
    · split at e
      · cases e; exact app k (mk _ _ _)
      · cases e
  | stop n =>
    have e : h.stop n = .inr (v, h') := e
    unfold Hs.stop at e
    split at e
    · cases e
    · cases e; exact k
  | hold l p =>
    have e : h.hold l p = .inr (v, h') := e
    unfold Hs.hold at e
    split at e
    · cases e
    · split at e
      · cases e; exact k
      · cases e
  | leave l =>
    have e : h.leave l = .inr (v, h') := e
    unfold Hs.leave at e
    split at e
    · cases e
    · cases e; exact k
  | trim p =>
    have e : h.trim p = .inr (v, h') := e
    unfold Hs.trim at e
    split at e
    · split at e
      · cases e
      · cases e; exact fun x hx => k x (List.mem_of_mem_drop hx)
    · cases e
end Pv

/-! Two houses apart. -/
namespace Pv
open PySem PySem.Spec PyProof.Rows L2 Tc
/-- a house at i whose own slots are A -/
def HouseO (S : Sto) (A : List Nat) (i : Nat) (h : Hs) : Prop := ∃ d l p q rs, HouseA S i d l p q rs h ∧ A = ownH i d l p q rs
theorem HouseO.house {S : Sto} {A B : List Nat} {i : Nat} {h : Hs} (H : HouseO S A i h) (k : ∀ b ∈ B, b < S.length ∧ b ∉ A) : House S B i h := by
  obtain ⟨d, l, p, q, rs, a, e⟩ := H
  exact ⟨d, l, p, q, rs, a, fun b hb => ⟨(k b hb).1, e ▸ (k b hb).2⟩⟩
theorem House.own {S : Sto} {B : List Nat} {i : Nat} {h : Hs} (H : House S B i h) : ∃ A, HouseO S A i h ∧ ∀ b ∈ B, b < S.length ∧ b ∉ A := by
  obtain ⟨d, l, p, q, rs, a, k⟩ := H
  exact ⟨_, ⟨d, l, p, q, rs, a, rfl⟩, k⟩
theorem HouseO.lt {S : Sto} {A : List Nat} {i : Nat} {h : Hs} (H : HouseO S A i h) : ∀ x ∈ A, x < S.length := by
  obtain ⟨d, l, p, q, rs, a, e⟩ := H
  subst e
  exact a.own_lt
theorem HouseO.fr {S S' : Sto} {A B : List Nat} {i : Nat} {h : Hs} (H : HouseO S A i h) (f : Fr B S S') (hs : ∀ x ∈ A, x ∈ B) (c : Clo S') : HouseO S' A i h := by
  obtain ⟨d, l, p, q, rs, a, e⟩ := H
  subst e
  exact ⟨d, l, p, q, rs, a.mv (fun x hx => f.2 x (hs x hx)) c, rfl⟩
structure Two (S : Sto) (B : List Nat) (i j : Nat) (h1 h2 : Hs) : Prop where
  ex : ∃ A1 A2, HouseO S A1 i h1 ∧ HouseO S A2 j h2 ∧ (∀ x ∈ A1, x ∉ A2) ∧ ∀ b ∈ B, b < S.length ∧ b ∉ A1 ∧ b ∉ A2
theorem Two.swap {S : Sto} {B : List Nat} {i j : Nat} {h1 h2 : Hs} (t : Two S B i j h1 h2) : Two S B j i h2 h1 := by
  obtain ⟨A1, A2, H1, H2, d, k⟩ := t.ex
  exact ⟨A2, A1, H2, H1, fun x hx hy => d x hy hx, fun b hb => ⟨(k b hb).1, (k b hb).2.2, (k b hb).2.1⟩⟩
/-- the first one, all that is the other one's apart; behind a call of it both stand again -/
theorem Two.fst {S : Sto} {B : List Nat} {i j : Nat} {h1 h2 : Hs} (t : Two S B i j h1 h2) : ∃ C, House S C i h1 ∧ (∀ b ∈ B, b ∈ C) ∧ ∀ S' h', House S' C i h' → Fr C S S' → Two S' B i j h' h2 := by
  obtain ⟨A1, A2, H1, H2, d, k⟩ := t.ex
  refine ⟨B ++ A2, H1.house fun b hb => ?_, fun b hb => List.mem_append_left _ hb, fun S' h' H' f => ?_⟩
  · rcases List.mem_append.mp hb with z | z
    · exact ⟨(k b z).1, (k b z).2.1⟩
    · exact ⟨H2.lt b z, fun y => d b y z⟩
  · obtain ⟨A, Ho, ka⟩ := H'.own
    exact ⟨A, A2, Ho, H2.fr f (fun x hx => List.mem_append_right _ hx) H'.clo, fun x hx hy => (ka x (List.mem_append_right _ hy)).2 hx, fun b hb => ⟨(ka b (List.mem_append_left _ hb)).1, (ka b (List.mem_append_left _ hb)).2, (k b hb).2.2⟩⟩
theorem Two.h1 {S : Sto} {B : List Nat} {i j : Nat} {h1 h2 : Hs} (t : Two S B i j h1 h2) : House S B i h1 := by
  obtain ⟨C, H, s, _⟩ := t.fst
  exact H.sub s
theorem Two.h2 {S : Sto} {B : List Nat} {i j : Nat} {h1 h2 : Hs} (t : Two S B i j h1 h2) : House S B j h2 := t.swap.h1
theorem Two.st {S S' : Sto} {B : List Nat} {b i j : Nat} {h1 h2 : Hs} (t : Two S B i j h1 h2) (hb : b ∈ B) (s : Pv.St b S S') (c : Clo S') : Two S' B i j h1 h2 := by
  obtain ⟨A1, A2, H1, H2, d, k⟩ := t.ex
  have n1 := (k b hb).2.1
  have n2 := (k b hb).2.2
  refine ⟨A1, A2, ?_, ?_, d, fun x hx => ⟨by rw [s.1]; exact (k x hx).1, (k x hx).2⟩⟩
  · obtain ⟨dd, l, p, q, rs, a, e⟩ := H1
    subst e
    exact ⟨dd, l, p, q, rs, a.mv (fun x hx => s.2 x fun z => n1 (z ▸ hx)) c, rfl⟩
  · obtain ⟨dd, l, p, q, rs, a, e⟩ := H2
    subst e
    exact ⟨dd, l, p, q, rs, a.mv (fun x hx => s.2 x fun z => n2 (z ▸ hx)) c, rfl⟩
/-! ### three comparisons as a test -/
section
variable {X : Cx} {G : Gb} {Wx : WX} {a b c d : Expr} {ta tb tc td : TE} {pos : Pos} {ma mb mc md : ME PV} {op op' op2 : CmpOp}
end
/-! ### plain facts -/
end Pv

/-! Parts of the store, each apart from the others. -/
namespace Pv
open PySem PySem.Spec PyProof.Rows L2 Tc
abbrev Cs := List (Nat × Ob)
/-- these things stand in the store, each in a slot of its own -/
structure Hv (S : Sto) (L : Cs) : Prop where
  get : ∀ c ∈ L, S[c.1]? = some c.2
  nd : (L.map (·.1)).Nodup
  clo : Clo S
/-- what is said of a part -/
abbrev Pt := Cs → Prop
def Sepl : List Pt → Cs → Prop
  | [], L => L = []
  | A :: l, L => ∃ L1 L2, L = L1 ++ L2 ∧ A L1 ∧ Sepl l L2
/-- the store has these parts, and maybe others -/
def Has (S : Sto) (l : List Pt) : Prop := ∃ L, Hv S L ∧ Sepl l L
def cl (i : Nat) (o : Ob) : Pt := fun L => L = [(i, o)]
def exP {α : Type} (A : α → Pt) : Pt := fun L => ∃ x, A x L
def pur (p : Prop) : Pt := fun L => L = [] ∧ p
theorem Hv.perm {S : Sto} {L L' : Cs} (h : Hv S L) (p : L'.Perm L) : Hv S L' := ⟨fun c hc => h.get c (p.mem_iff.mp hc), ((p.map _).nodup_iff).mpr h.nd, h.clo⟩
theorem Hv.left {S : Sto} {L1 L2 : Cs} (h : Hv S (L1 ++ L2)) : Hv S L1 := ⟨fun c hc => h.get c (List.mem_append_left _ hc), by have := h.nd; rw [List.map_append] at this; exact (List.nodup_append.mp this).1, h.clo⟩
theorem Hv.right {S : Sto} {L1 L2 : Cs} (h : Hv S (L1 ++ L2)) : Hv S L2 := ⟨fun c hc => h.get c (List.mem_append_right _ hc), by have := h.nd; rw [List.map_append] at this; exact (List.nodup_append.mp this).2.1, h.clo⟩
theorem Hv.lt {S : Sto} {L : Cs} (h : Hv S L) : ∀ c ∈ L, c.1 < S.length := fun c hc => (List.getElem?_eq_some_iff.mp (h.get c hc)).1
theorem sepl_perm {l l' : List Pt} (p : l.Perm l') : ∀ {L : Cs}, Sepl l L → ∃ L', Sepl l' L' ∧ L'.Perm L := by
  induction p with
  | nil => intro L h; exact ⟨L, h, .refl _⟩
  | cons A p ih =>
    rintro L ⟨L1, L2, rfl, a, r⟩
    obtain ⟨L2', r', p'⟩ := ih r
    exact ⟨L1 ++ L2', ⟨L1, L2', rfl, a, r'⟩, p'.append_left L1⟩
  | swap A B l =>
    rintro L ⟨L1, L2, rfl, a, L3, L4, rfl, b, r⟩
    refine ⟨L3 ++ (L1 ++ L4), ⟨L3, _, rfl, b, L1, L4, rfl, a, r⟩, ?_⟩
    rw [← List.append_assoc, ← List.append_assoc]
    exact List.perm_append_comm.append_right L4
  | trans p q ihp ihq =>
    intro L h
    obtain ⟨L1, h1, p1⟩ := ihp h
    obtain ⟨L2, h2, p2⟩ := ihq h1
    exact ⟨L2, h2, p2.trans p1⟩
theorem sepl_app {l1 l2 : List Pt} : ∀ {L : Cs}, Sepl (l1 ++ l2) L ↔ ∃ L1 L2, L = L1 ++ L2 ∧ Sepl l1 L1 ∧ Sepl l2 L2 := by
  induction l1 with
  | nil => intro L; exact ⟨fun h => ⟨[], L, rfl, rfl, h⟩, fun ⟨L1, L2, e, e1, h⟩ => by subst e; rw [show L1 = [] from e1]; exact h⟩
  | cons A l1 ih =>
    intro L
    constructor
    · rintro ⟨M1, M2, rfl, a, r⟩
      obtain ⟨L1, L2, rfl, r1, r2⟩ := ih.mp r
      exact ⟨M1 ++ L1, L2, by rw [List.append_assoc], ⟨M1, L1, rfl, a, r1⟩, r2⟩
    · rintro ⟨L1, L2, rfl, ⟨M1, M2, rfl, a, r1⟩, r2⟩
      exact ⟨M1, M2 ++ L2, by rw [List.append_assoc], a, ih.mpr ⟨M2, L2, rfl, r1, r2⟩⟩
theorem Has.perm {S : Sto} {l l' : List Pt} (h : Has S l) (p : l.Perm l') : Has S l' := by
  obtain ⟨L, v, s⟩ := h
  obtain ⟨L', s', q⟩ := sepl_perm p s
  exact ⟨L', v.perm q, s'⟩
/-- the n-th one ahead -/
def mvL {α : Type} : Nat → List α → List α
  | 0, l => l
  | _ + 1, [] => []
  | n + 1, a :: l => match mvL n l with
    | [] => [a]
    | b :: r => b :: a :: r
/-- the first one to place n -/
def bkL {α : Type} : Nat → List α → List α
  | 0, l => l
  | n + 1, a :: b :: l => b :: bkL n (a :: l)
  | _ + 1, l => l
theorem mvL_perm {α : Type} : ∀ {n : Nat} {l : List α}, l.Perm (mvL n l)
  | 0, l => .refl _
  | _ + 1, [] => .refl _
  | n + 1, a :: l => by
    have ih := mvL_perm (n := n) (l := l)
    show (a :: l).Perm (match mvL n l with | [] => [a] | b :: r => b :: a :: r)
    cases e : mvL n l with
    | nil => rw [e] at ih; exact ih.cons a
    | cons b r => rw [e] at ih; exact (ih.cons a).trans (.swap b a r)
theorem bkL_perm {α : Type} : ∀ {n : Nat} {l : List α}, l.Perm (bkL n l)
  | 0, l => .refl _
  | n + 1, a :: b :: l => (List.Perm.swap b a l).trans ((bkL_perm (n := n) (l := a :: l)).cons b)
  | _ + 1, [] => .refl _
  | _ + 1, [a] => .refl _
section
variable {S S' : Sto} {A B : Pt} {l l1 l2 : List Pt} {i j : Nat} {o u : Ob}
theorem Has.mv (h : Has S l) (n : Nat) : Has S (mvL n l) := h.perm mvL_perm
theorem Has.bk (h : Has S l) (n : Nat) : Has S (bkL n l) := h.perm bkL_perm
theorem Has.clo (h : Has S l) : Clo S := let ⟨_, v, _⟩ := h; v.clo
theorem Has.tail (h : Has S (A :: l)) : Has S l := by
  obtain ⟨L, v, L1, L2, rfl, a, r⟩ := h
  exact ⟨L2, v.right, r⟩
theorem Has.imp (h : Has S (A :: l)) (k : ∀ L, A L → B L) : Has S (B :: l) := by
  obtain ⟨L, v, L1, L2, e, a, r⟩ := h
  exact ⟨L, v, L1, L2, e, k _ a, r⟩
theorem Has.ex {α : Type} {A : α → Pt} (h : Has S (exP A :: l)) : ∃ x, Has S (A x :: l) := by
  obtain ⟨L, v, L1, L2, e, ⟨x, a⟩, r⟩ := h
  exact ⟨x, L, v, L1, L2, e, a, r⟩
theorem Has.mk {α : Type} {A : α → Pt} (x : α) (h : Has S (A x :: l)) : Has S (exP A :: l) := h.imp fun _ a => ⟨x, a⟩
theorem Has.pure {p : Prop} (h : Has S (pur p :: l)) : p ∧ Has S l := by
  obtain ⟨L, v, L1, L2, rfl, ⟨rfl, a⟩, r⟩ := h
  exact ⟨a, L2, v, r⟩
theorem Has.pur {p : Prop} (h : Has S l) (a : p) : Has S (pur p :: l) := by
  obtain ⟨L, v, r⟩ := h
  exact ⟨L, v, [], L, rfl, ⟨rfl, a⟩, r⟩
/-- several parts told as one -/
theorem Has.open (h : Has S (Sepl l1 :: l2)) : Has S (l1 ++ l2) := by
  obtain ⟨L, v, L1, L2, e, a, r⟩ := h
  exact ⟨L, v, sepl_app.mpr ⟨L1, L2, e, a, r⟩⟩
theorem Has.close (h : Has S (l1 ++ l2)) : Has S (Sepl l1 :: l2) := by
  obtain ⟨L, v, r⟩ := h
  obtain ⟨L1, L2, e, a, r⟩ := sepl_app.mp r
  exact ⟨L, v, L1, L2, e, a, r⟩
theorem Has.get (h : Has S (cl i o :: l)) : S[i]? = some o := by
  obtain ⟨L, v, L1, L2, rfl, rfl, r⟩ := h
  exact v.get (i, o) (by simp)
theorem Has.lt (h : Has S (cl i o :: l)) : i < S.length := (List.getElem?_eq_some_iff.mp h.get).1
theorem Has.ne (h : Has S (cl i o :: cl j u :: l)) : i ≠ j := by
  obtain ⟨L, v, L1, L2, rfl, rfl, L3, L4, rfl, rfl, r⟩ := h
  have := v.nd
  simp only [List.cons_append, List.nil_append, List.map_cons, List.nodup_cons, List.mem_cons, not_or] at this
  exact this.1.1
/-- all parts stay where their slots stay -/
theorem Has.fr (h : Has S l) : ∃ B : List Nat, (∀ b ∈ B, b < S.length) ∧ ∀ S', Fr B S S' → Clo S' → Has S' l := by
  obtain ⟨L, v, r⟩ := h
  refine ⟨L.map (·.1), fun b hb => ?_, fun S' f c => ⟨L, ⟨fun x hx => ?_, v.nd, c⟩, r⟩⟩
  · obtain ⟨x, hx, rfl⟩ := List.mem_map.mp hb
    exact v.lt x hx
  · rw [f.2 _ (List.mem_map_of_mem hx)]
    exact v.get x hx
theorem Has.set (h : Has S (cl i o :: l)) (c : LtO S.length u) : Has (S.set i u) (cl i u :: l) := by
  have il := h.lt
  obtain ⟨L, v, L1, L2, rfl, rfl, r⟩ := h
  have n := v.nd
  rw [List.map_append] at n
  refine ⟨[(i, u)] ++ L2, ⟨fun x hx => ?_, by rw [List.map_append]; exact n, v.clo.set c⟩, [(i, u)], L2, rfl, rfl, r⟩
  rcases List.mem_append.mp hx with z | z
  · cases List.mem_singleton.mp z
    exact List.getElem?_set_self il
  · rw [List.getElem?_set_ne]
    · exact v.get x (List.mem_append_right _ z)
    · intro e
      exact (List.nodup_append.mp n).2.2 i (by simp) x.1 (List.mem_map_of_mem z) e
theorem Has.new (h : Has S l) (c : LtO (S.length + 1) u) : Has (S ++ [u]) (cl S.length u :: l) := by
  obtain ⟨L, v, r⟩ := h
  refine ⟨[(S.length, u)] ++ L, ⟨fun x hx => ?_, ?_, v.clo.app c⟩, [(S.length, u)], L, rfl, rfl, r⟩
  · rcases List.mem_append.mp hx with z | z
    · cases List.mem_singleton.mp z; exact get_app
    · exact get_old (v.get x z)
  · rw [List.map_append]
    refine List.nodup_append.mpr ⟨by simp, v.nd, fun a ha b hb e => ?_⟩
    subst e
    cases List.mem_singleton.mp ha
    obtain ⟨x, hx, e⟩ := List.mem_map.mp hb
    have := v.lt x hx
    have e : x.1 = S.length := e
    omega
/-- a part told anew: all that it was stays another's -/
theorem Has.upd (h : Has S (A :: l)) : ∃ B : List Nat, (∀ b ∈ B, b < S.length) ∧ (∀ L1, A L1 → Hv S L1 → (∀ c ∈ L1, c.1 ∉ B) → True) ∧ ∀ S' L1', Fr B S S' → Hv S' L1' → (∀ c ∈ L1', c.1 ∉ B) → ∀ A' : Pt, A' L1' → Has S' (A' :: l) := by
  obtain ⟨L, v, L1, L2, rfl, a, r⟩ := h
  refine ⟨L2.map (·.1), fun b hb => ?_, fun _ _ _ _ => trivial, fun S' L1' f v' d A' a' => ⟨L1' ++ L2, ⟨fun x hx => ?_, ?_, v'.clo⟩, L1', L2, rfl, a', r⟩⟩
  · obtain ⟨x, hx, rfl⟩ := List.mem_map.mp hb
    exact v.right.lt x hx
  · rcases List.mem_append.mp hx with z | z
    · exact v'.get x z
    · rw [f.2 _ (List.mem_map_of_mem z)]
      exact v.right.get x z
  · rw [List.map_append]
    refine List.nodup_append.mpr ⟨v'.nd, v.right.nd, fun a ha b hb e => ?_⟩
    subst e
    obtain ⟨x, hx, e⟩ := List.mem_map.mp ha
    exact d x hx (by have e : x.1 = a := e; rw [e]; exact hb)
end
/-! ### the draws -/
def bagP (b : Nat) : Pt := exP fun p : Int × Int => Sepl [pur (0 ≤ p.1 ∧ 0 ≤ p.2 ∧ p.2 < 2147483647), cl b (.lst [.int p.1, .int p.2])]
section
variable {S S' : Sto} {l : List Pt} {b : Nat}
theorem Has.bg (h : Has S (bagP b :: l)) : Bg b S := by
  obtain ⟨p, h⟩ := h.ex
  have h := h.open
  obtain ⟨q, h⟩ := h.pure
  exact ⟨⟨p.1, p.2, h.get, q⟩, h.clo⟩
theorem Has.bag (h : Has S (bagP b :: l)) (hb : Bg b S') (s : St b S S') : Has S' (bagP b :: l) := by
  obtain ⟨⟨x, y, e, q⟩, c⟩ := hb
  obtain ⟨p, h⟩ := h.ex
  have h := h.open
  obtain ⟨_, h⟩ := h.pure
  obtain ⟨L, v, L1, L2, rfl, rfl, r⟩ := h
  have n := v.nd
  rw [List.map_append] at n
  have hv : Hv S' ([(b, .lst [.int x, .int y])] ++ L2) := by
    refine ⟨fun z hz => ?_, by rw [List.map_append]; exact n, c⟩
    rcases List.mem_append.mp hz with w | w
    · cases List.mem_singleton.mp w; exact e
    · rw [s.2 _ (fun e => (List.nodup_append.mp n).2.2 b (by simp) z.1 (List.mem_map_of_mem w) e.symm)]
      exact v.get z (List.mem_append_right _ w)
  have h2 : Has S' (cl b (.lst [.int x, .int y]) :: l) := ⟨_, hv, _, L2, rfl, rfl, r⟩
  exact Has.mk (x, y) (Has.close (l1 := [_, _]) (h2.pur q))
theorem has_nil (c : Clo S) : Has S [] := ⟨[], ⟨fun _ h => (List.not_mem_nil h).elim, List.nodup_nil, c⟩, rfl⟩
end
/-! ### houses -/
def houseP (i : Nat) (h : Hs) : Pt := fun L => ∃ (d l p q : Nat) (zs : List (Int × Nat × Rd)), h.ps = zs.map (fun z => (z.1, z.2.2)) ∧
  L = [(i, hsO h d l p q), (d, .dic (kvP h.w)), (l, .lst (h.ls.map entP)), (p, .dic (kvG optI h.hs)), (q, .dic (kvG refP (zs.map fun z => (z.1, z.2.1))))] ++ zs.map fun z => (z.2.1, rdO z.2.2)
theorem prs_map {S : Sto} {zs : List (Int × Nat × Rd)} : (∀ z ∈ zs, S[z.2.1]? = some (rdO z.2.2)) → Prs S (zs.map fun z => (z.1, z.2.1)) (zs.map fun z => (z.1, z.2.2)) := by
  induction zs with
  | nil => intro _; exact .nil
  | cons z zs ih => intro h; exact .cons ⟨rfl, h z List.mem_cons_self⟩ (ih fun y hy => h y (List.mem_cons_of_mem _ hy))
theorem prs_split {S : Sto} {rs : List (Int × Nat)} {ps : List (Int × Rd)} (h : Prs S rs ps) : ∃ zs : List (Int × Nat × Rd), rs = zs.map (fun z => (z.1, z.2.1)) ∧ ps = zs.map (fun z => (z.1, z.2.2)) ∧ ∀ z ∈ zs, S[z.2.1]? = some (rdO z.2.2) := by
  induction h with
  | nil => exact ⟨[], rfl, rfl, fun _ h => by cases h⟩
  | cons h t ih =>
    rename_i a b rs ps
    obtain ⟨zs, rfl, rfl, k⟩ := ih
    obtain ⟨a1, a2⟩ := a
    obtain ⟨b1, b2⟩ := b
    obtain ⟨e, g⟩ := h
    have e : a1 = b1 := e
    subst e
    exact ⟨(a1, a2, b2) :: zs, rfl, rfl, fun z hz => by
      rcases List.mem_cons.mp hz with rfl | hz
      · exact g
      · exact k z hz⟩
theorem house_hv {S : Sto} {i d l p q : Nat} {zs : List (Int × Nat × Rd)} {h : Hs} (e : h.ps = zs.map (fun z => (z.1, z.2.2)))
    (v : Hv S ([(i, hsO h d l p q), (d, .dic (kvP h.w)), (l, .lst (h.ls.map entP)), (p, .dic (kvG optI h.hs)), (q, .dic (kvG refP (zs.map fun z => (z.1, z.2.1))))] ++ zs.map fun z => (z.2.1, rdO z.2.2))) : HouseA S i d l p q (zs.map fun z => (z.1, z.2.1)) h := by
  have g := v.get
  refine ⟨g (i, hsO h d l p q) (by simp), g (d, .dic (kvP h.w)) (by simp), g (l, .lst (h.ls.map entP)) (by simp), g (p, .dic (kvG optI h.hs)) (by simp), g (q, .dic (kvG refP (zs.map fun z => (z.1, z.2.1)))) (by simp), ?_, ?_, v.clo⟩
  · rw [e]
    exact prs_map fun z hz => g (z.2.1, rdO z.2.2) (List.mem_append_right _ (List.mem_map.mpr ⟨z, hz, rfl⟩))
  · have n := v.nd
    rw [List.map_append, List.map_map] at n
    rw [List.map_map]
    exact n
theorem hv_house {S : Sto} {i d l p q : Nat} {zs : List (Int × Nat × Rd)} {h : Hs} (e : h.ps = zs.map (fun z => (z.1, z.2.2))) (k : ∀ z ∈ zs, S[z.2.1]? = some (rdO z.2.2))
    (a : HouseA S i d l p q (zs.map fun z => (z.1, z.2.1)) h) : Hv S ([(i, hsO h d l p q), (d, .dic (kvP h.w)), (l, .lst (h.ls.map entP)), (p, .dic (kvG optI h.hs)), (q, .dic (kvG refP (zs.map fun z => (z.1, z.2.1))))] ++ zs.map fun z => (z.2.1, rdO z.2.2)) := by
  refine ⟨fun c hc => ?_, ?_, a.clo⟩
  · rcases List.mem_append.mp hc with z | z
    · simp only [List.mem_cons, List.not_mem_nil, or_false] at z
      rcases z with rfl | rfl | rfl | rfl | rfl
      · exact a.ho
      · exact a.hw
      · exact a.hl
      · exact a.hp
      · exact a.hq
    · obtain ⟨y, hz, rfl⟩ := List.mem_map.mp z
      exact k y hz
  · have n := a.nd
    rw [List.map_append, List.map_map]
    rw [List.map_map] at n
    exact n
section
variable {S S' : Sto} {l : List Pt} {i : Nat} {h : Hs}
/-- a house among other parts; behind a call of it all stand again -/
theorem Has.house (hp : Has S (houseP i h :: l)) : ∃ B, House S B i h ∧ ∀ S' h', House S' B i h' → Fr B S S' → Has S' (houseP i h' :: l) := by
  obtain ⟨L, v, L1, L2, rfl, ⟨d, ll, p, q, zs, e, rfl⟩, r⟩ := hp
  have hB : ∀ b ∈ L2.map (·.1), b < S.length ∧ b ∉ ownH i d ll p q (zs.map fun z => (z.1, z.2.1)) := fun b hb => by
    obtain ⟨x, hx, rfl⟩ := List.mem_map.mp hb
    refine ⟨v.right.lt x hx, fun z => ?_⟩
    have n := v.nd
    rw [List.map_append (l₁ := _ ++ _)] at n
    refine (List.nodup_append.mp n).2.2 x.1 ?_ x.1 (List.mem_map_of_mem hx) rfl
    unfold ownH at z
    rw [List.map_map] at z
    rw [List.map_append, List.map_map]
    exact z
  refine ⟨L2.map (·.1), ⟨d, ll, p, q, _, house_hv e v.left, hB⟩, fun S' h' H' f => ?_⟩
  obtain ⟨d', l', p', q', rs', a', k'⟩ := H'
  obtain ⟨zs', rfl, e', g'⟩ := prs_split a'.hr
  have v' := hv_house e' g' a'
  refine ⟨_ ++ L2, ⟨fun x hx => ?_, ?_, a'.clo⟩, _, L2, rfl, ⟨d', l', p', q', zs', e', rfl⟩, r⟩
  · rcases List.mem_append.mp hx with z | z
    · exact v'.get x z
    · rw [f.2 _ (List.mem_map_of_mem z)]
      exact v.right.get x z
  · rw [List.map_append (l₁ := _ ++ _)]
    refine List.nodup_append.mpr ⟨v'.nd, v.right.nd, fun a ha b hb e => ?_⟩
    subst e
    refine (k' a hb).2 ?_
    unfold ownH
    rw [List.map_map]
    rw [List.map_append, List.map_map] at ha
    exact ha
end
end Pv

/-! Calls with keywords in any order, some left out; d.update(e). -/
namespace Pv
open PySem PySem.Spec PyProof.Rows L2 Tc
section
variable {X : Cx} {G : Gb} {Wx : WX} {e o : Expr} {es : List Expr} {pos p apos : Pos} {mo : ME PV} {ms mk : ME (List PV)} {c m x : Str} {C f : Addr} {fd : FuncData} {ps ks : List Str} {kws : List Keyword}
def eMakeK (c : Str) (n kn : Nat) (dv : List PV) (g : List PV → List PV → List PV → List PV) (fn : List PV → Sto → ER PV) (ms mk : ME (List PV)) : ME PV := fun env S => (ms env S).bind fun xs S => (mk env S).bind fun zs S => if xs.length = n ∧ zs.length = kn then ((fn (g (.ref S.length :: xs) dv zs) (S ++ [.ins c []])).bind fun r S' => match r with
  | .non => .ok (.ref S.length) S'
  | _ => .err) else .err
/-- o.m(e, .., k = v, ..) -/
def eMethK (c m : Str) (n kn : Nat) (dv : List PV) (g : List PV → List PV → List PV → List PV) (fn : List PV → Sto → ER PV) (mo : ME PV) (ms mk : ME (List PV)) : ME PV := fun env S => (mo env S).bind fun x S => match headS S c m x with
  | some _ => (ms env S).bind fun xs S => (mk env S).bind fun zs S => if xs.length = n ∧ zs.length = kn then fn (g (x :: xs) dv zs) S else .err
  | none => .err
/-- f(e, .., k = v, ..) -/
def eCallK (n kn : Nat) (dv : List PV) (g : List PV → List PV → List PV → List PV) (fn : List PV → Sto → ER PV) (ms mk : ME (List PV)) : ME PV := fun env S => (ms env S).bind fun xs S => (mk env S).bind fun zs S => if xs.length = n ∧ zs.length = kn then fn (g xs dv zs) S else .err
end
/-! ### d.update(e) of two dicts -/
def eUpd (mo : ME PV) (ms : ME (List PV)) : ME PV := fun env S => (mo env S).bind fun x S => match dicS S x with
  | some _ => (ms env S).bind fun ys S => (match ys with
    | [y] => (match lockS S x, lockS S y with
      | some p, some q => if p.1 ≠ q.1 ∧ p.2.length + q.2.length ≤ 100000 then .ok .non (S.set p.1 (.dic (mergeP p.2 q.2))) else .err
      | _, _ => .err)
    | _ => .err)
  | none => .err
/-! ### by values -/
section
variable {env : En} {S : Sto} {X : WXE} {Q : PV → Sto → Prop} {n kn : Nat} {c m f : Str} {mo : ME PV} {ms mk : ME (List PV)} {fn : List PV → Sto → ER PV} {dv : List PV} {g : List PV → List PV → List PV → List PV}
theorem w_eUpd : wE (eUpd mo ms env S) Q X = wE (mo env S) (fun x S => wO (dicS S x) fun _ => wE (ms env S) (fun ys S => wO ys[0]? fun y => ys.length = 1 ∧ wO (lockS S x) fun p => wO (lockS S y) fun q => (p.1 ≠ q.1 ∧ p.2.length + q.2.length ≤ 100000) ∧ Q .non (S.set p.1 (.dic (mergeP p.2 q.2)))) X) X := by
  unfold eUpd
  rw [w_bind]
  congr 1
  funext x S
  cases dicS S x with
  | none => rw [w_err]; rfl
  | some zs =>
    show wE ((ms env S).bind _) Q X = wE (ms env S) _ X
    rw [w_bind]
    congr 1
    funext ys S
    match ys with
    | [] => rw [w_err]; rfl
    | _ :: _ :: _ =>
      rw [w_err]
      exact propext ⟨fun z => z.elim, fun z => by have z : _ ∧ _ := z; have := z.1; simp at this⟩
    | [y] =>
      have e1 : ([y] : List PV).length = 1 := rfl
      show _ = (_ ∧ _)
      rw [e1]
      show wE (match lockS S x, lockS S y with
        | some p, some q => if p.1 ≠ q.1 ∧ p.2.length + q.2.length ≤ 100000 then .ok .non (S.set p.1 (.dic (mergeP p.2 q.2))) else .err
        | _, _ => .err) Q X = _
      generalize lockS S x = o1
      generalize hb : lockS S y = o2
      cases o1 with
      | none => show wE .err Q X = _; rw [w_err]; exact propext ⟨fun z => z.elim, fun z => z.2⟩
      | some p =>
        cases o2 with
        | none => show wE .err Q X = _; rw [w_err]; exact propext ⟨fun z => z.elim, fun z => z.2⟩
        | some q =>
          show wE (if p.1 ≠ q.1 ∧ p.2.length + q.2.length ≤ 100000 then .ok .non (S.set p.1 (.dic (mergeP p.2 q.2))) else .err) Q X = _
          rw [w_guard, w_ok]
          exact propext ⟨fun z => ⟨rfl, z⟩, fun z => z.2⟩
theorem w_callK : wE (eCallK n kn dv g fn ms mk env S) Q X = wE (ms env S) (fun xs S => wE (mk env S) (fun zs S => (xs.length = n ∧ zs.length = kn) ∧ wE (fn (g xs dv zs) S) Q X) X) X := by unfold eCallK; simp only [w_bind, w_guard]
theorem w_methK : wE (eMethK c m n kn dv g fn mo ms mk env S) Q X = wE (mo env S) (fun x S => (∃ i, headS S c m x = some i) ∧ wE (ms env S) (fun xs S => wE (mk env S) (fun zs S => (xs.length = n ∧ zs.length = kn) ∧ wE (fn (g (x :: xs) dv zs) S) Q X) X) X) X := by
  unfold eMethK
  rw [w_bind]
  congr 1
  funext x S
  cases h : headS S c m x with
  | none => rw [w_err]; exact propext ⟨fun z => z.elim, fun ⟨⟨_, z⟩, _⟩ => by cases z⟩
  | some i =>
    simp only [w_bind, w_guard]
    exact propext ⟨fun z => ⟨⟨i, rfl⟩, z⟩, fun z => z.2⟩
theorem w_makeK : wE (eMakeK c n kn dv g fn ms mk env S) Q X = wE (ms env S) (fun xs S => wE (mk env S) (fun zs S => (xs.length = n ∧ zs.length = kn) ∧ wE (fn (g (.ref S.length :: xs) dv zs) (S ++ [.ins c []])) (fun v S' => v = .non ∧ Q (.ref S.length) S') X) X) X := by
  unfold eMakeK
  simp only [w_bind, w_guard]
  congr 1
  funext xs S
  congr 1
  funext zs S
  congr 2
  funext r S'
  cases r with
  | non => rw [w_ok]; exact propext ⟨fun z => ⟨rfl, z⟩, fun z => z.2⟩
  | _ => rw [w_err]; exact propext ⟨fun z => z.elim, fun ⟨z, _⟩ => by cases z⟩
end
/-! ### one of a list, as a list -/
def pk1 {α : Type} (l : List α) (i : Nat) : List α := (l.drop i).take 1
theorem pk1_0 {α : Type} {a : α} {l : List α} : pk1 (a :: l) 0 = [a] := rfl
theorem pk1_1 {α : Type} {a b : α} {l : List α} : pk1 (a :: b :: l) 1 = [b] := rfl
theorem pk1_2 {α : Type} {a b c : α} {l : List α} : pk1 (a :: b :: c :: l) 2 = [c] := rfl
theorem pk1_3 {α : Type} {a b c d : α} {l : List α} : pk1 (a :: b :: c :: d :: l) 3 = [d] := rfl
theorem pk1_4 {α : Type} {a b c d e : α} {l : List α} : pk1 (a :: b :: c :: d :: e :: l) 4 = [e] := rfl
theorem pk1_5 {α : Type} {a b c d e f : α} {l : List α} : pk1 (a :: b :: c :: d :: e :: f :: l) 5 = [f] := rfl
end Pv

/-! A taker in the store. -/
namespace Pv
open PySem PySem.Spec PyProof.Rows L2 Tc
/-! ### dicts with int keys, once more -/
def mapV {α β : Type} (f : α → β) (M : List (Int × α)) : List (Int × β) := M.map fun r => (r.1, f r.2)
section
variable {α β : Type} {f : α → β}
theorem getG_split {M : List (Int × α)} {n : Int} {v : α} (e : getG M n = some v) (nd : (M.map (·.1)).Nodup) : ∃ a b, M = a ++ (n, v) :: b ∧ (∀ r ∈ a, r.1 ≠ n) ∧ ∀ r ∈ b, r.1 ≠ n := by
  induction M with
  | nil => cases e
  | cons r M ih =>
    rw [List.map_cons, List.nodup_cons] at nd
    by_cases c : r.1 = n
    · have : getG (r :: M) n = some r.2 := by unfold getG; rw [List.find?_cons_of_pos (by simpa using c)]; rfl
      rw [this] at e
      cases e
      exact ⟨[], M, (by rw [← c]; rfl), (fun r hr => (List.not_mem_nil hr).elim), fun x hx z => nd.1 (List.mem_map.mpr ⟨x, hx, z.trans c.symm⟩)⟩
    · have : getG (r :: M) n = getG M n := by unfold getG; rw [List.find?_cons_of_neg (by simpa using c)]
      rw [this] at e
      obtain ⟨a, b, rfl, h1, h2⟩ := ih e nd.2
      exact ⟨r :: a, b, rfl, fun x hx => by
        rcases List.mem_cons.mp hx with rfl | hx
        · exact c
        · exact h1 x hx, h2⟩
theorem putG_split {a b : List (Int × α)} {n : Int} {v w : α} (h1 : ∀ r ∈ a, r.1 ≠ n) (h2 : ∀ r ∈ b, r.1 ≠ n) : putG (a ++ (n, v) :: b) n w = a ++ (n, w) :: b := by
  unfold putG
  rw [if_pos (by rw [List.any_append, List.any_cons]; simp)]
  have id1 : ∀ l : List (Int × α), (∀ r ∈ l, r.1 ≠ n) → l.map (fun r => if r.1 = n then (r.1, w) else r) = l := fun l h => by
    conv => rhs; rw [← List.map_id l]
    exact List.map_congr_left fun r hr => by rw [if_neg (h r hr)]; rfl
  rw [List.map_append, List.map_cons, id1 a h1, id1 b h2]
  simp
theorem putG_keysE {M : List (Int × α)} {n : Int} {v w : α} (e : getG M n = some v) (nd : (M.map (·.1)).Nodup) : (putG M n w).map (·.1) = M.map (·.1) := by
  obtain ⟨a, b, rfl, h1, h2⟩ := getG_split e nd
  rw [putG_split h1 h2]
  simp
theorem dropG_keys {M : List (Int × α)} {n : Int} (nd : (M.map (·.1)).Nodup) : ((dropG M n).map (·.1)).Nodup := (List.filter_sublist.map _).nodup nd
end
/-! ### the taker -/
structure Pc where
  fst : Int
  lst : Int
  way : Bool
  came : Option (List Rw)
def cameP : Option (List Rw) → PV
  | none => .non
  | some r => tabP r
def pcF (p : Pc) : List (Str × PV) := [("span", .tup [.int p.fst, .int p.lst]), ("under_way", .bl p.way), ("came", cameP p.came)]
def pcO (p : Pc) : Ob := .ins "Asked" (pcF p)
structure Tk where
  own : Int
  pos : Int
  w : List Rw
  known : List Int
  ps : List (Int × Pc)
  ever : List Int
  out : List Ev
def tkF (t : Tk) (d k p e l : Nat) : List (Str × PV) := [("own", .int t.own), ("at", .int t.pos), ("worths", .ref d), ("known", .ref k), ("pieces", .ref p), ("ever", .ref e), ("out", .ref l)]
def tkO (t : Tk) (d k p e l : Nat) : Ob := .ins "Taker" (tkF t d k p e l)
def refZ (z : Nat × Pc) : PV := .ref z.1
def pcs (zs : List (Int × Nat × Pc)) : List Pt := zs.map fun z => cl z.2.1 (pcO z.2.2)
structure TkL where
  d : Nat
  k : Nat
  p : Nat
  e : Nat
  l : Nat
  zs : List (Int × Nat × Pc)
/-- the taker's parts -/
def tkA (i : Nat) (t : Tk) (x : TkL) : List Pt := pur (t.ps = mapV Prod.snd x.zs) :: cl i (tkO t x.d x.k x.p x.e x.l) :: cl x.d (.dic (kvP t.w)) :: cl x.k (.dic (kbP t.known)) :: cl x.p (.dic (kvG refZ x.zs)) :: cl x.e (.dic (kbP t.ever)) :: cl x.l (.lst (t.out.map evP)) :: pcs x.zs
def tkP (i : Nat) (t : Tk) : Pt := exP fun x : TkL => Sepl (tkA i t x)
theorem tk_o {t : Tk} {d k p e l : Nat} : Ob.ins "Taker" (tkF t d k p e l) = tkO t d k p e l := rfl
theorem pc_o {p : Pc} : Ob.ins "Asked" (pcF p) = pcO p := rfl
theorem tk_len {t : Tk} {d k p e l : Nat} : (tkF t d k p e l).length < 900 := by show 7 < 900; decide
theorem pc_len {p : Pc} : (pcF p).length < 900 := by show 3 < 900; decide
section
variable {t : Tk} {d k p e l n : Nat} {r : Pc}
theorem tkF_1 : (tkF t d k p e l).lookup ("own" : Str) = some (.int t.own) := by rfl
theorem tkF_2 : (tkF t d k p e l).lookup ("at" : Str) = some (.int t.pos) := by rfl
theorem tkF_3 : (tkF t d k p e l).lookup ("worths" : Str) = some (.ref d) := by rfl
theorem tkF_4 : (tkF t d k p e l).lookup ("known" : Str) = some (.ref k) := by rfl
theorem tkF_5 : (tkF t d k p e l).lookup ("pieces" : Str) = some (.ref p) := by rfl
theorem tkF_6 : (tkF t d k p e l).lookup ("ever" : Str) = some (.ref e) := by rfl
theorem tkF_7 : (tkF t d k p e l).lookup ("out" : Str) = some (.ref l) := by rfl
theorem tkU_2 {i : Int} : putFp "at" (.int i) (tkF t d k p e l) = tkF { t with pos := i } d k p e l := by rfl
theorem pcF_1 : (pcF r).lookup ("span" : Str) = some (.tup [.int r.fst, .int r.lst]) := by rfl
theorem pcF_2 : (pcF r).lookup ("under_way" : Str) = some (.bl r.way) := by rfl
theorem pcF_3 : (pcF r).lookup ("came" : Str) = some (cameP r.came) := by rfl
theorem pcU_2 {b : Bool} : putFp "under_way" (.bl b) (pcF r) = pcF { r with way := b } := by rfl
theorem pcU_3 {rows : List Rw} : putFp "came" (tabP rows) (pcF r) = pcF { r with came := some rows } := by rfl
theorem ev_lt {N : Nat} : ∀ vs : List Ev, LtPs N (vs.map evP)
  | [] => trivial
  | v :: vs => ⟨⟨trivial, trivial, trivial, by cases v.w <;> trivial, trivial⟩, ev_lt vs⟩
end
/-! ### opening, closing -/
section
variable {S : Sto} {i n : Nat} {t t' : Tk} {x : TkL} {R : List Pt} {m : Str}
theorem Has.tk (h : Has S (tkP i t :: R)) : ∃ x : TkL, t.ps = mapV Prod.snd x.zs ∧ Has S (cl i (tkO t x.d x.k x.p x.e x.l) :: cl x.d (.dic (kvP t.w)) :: cl x.k (.dic (kbP t.known)) :: cl x.p (.dic (kvG refZ x.zs)) :: cl x.e (.dic (kbP t.ever)) :: cl x.l (.lst (t.out.map evP)) :: (pcs x.zs ++ R)) := by
  obtain ⟨x, h⟩ := h.ex
  obtain ⟨e, h⟩ := h.open.pure
  exact ⟨x, e, h⟩
theorem Has.drops {l1 : List Pt} (h : Has S (l1 ++ R)) : Has S R := by
  induction l1 with
  | nil => exact h
  | cons A l1 ih => exact ih h.tail
end
/-! ### what it does -/
def evC (p : Int) : Ch → Ev
  | .put k w => ⟨p, "put", k, some w⟩
  | .drop k => ⟨p, "drop", k, none⟩
def Tk.group (t : Tk) (cs : List Ch) : Tk := { t with pos := t.pos + 1, w := cs.foldl chM t.w, known := chsK t.known cs, out := t.out ++ cs.map (evC (t.pos + 1)) }
def stepIn (M : List Rw) (t : Tk) (k : Int) : Tk := if k ∈ t.known then t else match getM M k with
  | some x => { t with known := t.known ++ [k], w := putM t.w k x, out := t.out ++ [⟨t.pos + 1, "copy", k, some x⟩] }
  | none => { t with known := t.known ++ [k] }
def rngI (a b : Int) : List Int := (List.range (b - a).toNat).map fun k : Nat => a + (k : Int)
def Tk.putIn (t : Tk) (p : Pc) (rows : List Rw) : Tk := (rngI p.fst p.lst).foldl (stepIn (normM rows)) t
/-- what refuses a taker's call -/
inductive TErr where
  | waits (n : Int)
  | twice
  | noStretch
  | notAsked (n : Int)
  | noRows
  | noKey (k : Int)
  | notSure (k : Int)
def Tk.take (t : Tk) : Ent → TErr ⊕ Tk
  | .group cs => .inr (t.group cs)
  | .mark lo l n => if l = t.own then (match getG t.ps n with
      | none => .inr { t with pos := t.pos + 1 }
      | some p => if lo = true then .inr { t with ps := putG t.ps n { p with way := true }, pos := t.pos + 1 }
        else match p.way, p.came with
          | true, none => .inl (.waits n)
          | true, some rows => .inr { ({ t with ps := dropG t.ps n } : Tk).putIn p rows with pos := t.pos + 1 }
          | false, _ => .inr { t with ps := dropG t.ps n, pos := t.pos + 1 })
    else .inr { t with pos := t.pos + 1 }
def Tk.ask (t : Tk) (n f l : Int) : TErr ⊕ Tk := if n ∈ t.ever then .inl .twice else if 0 ≤ f ∧ f < l ∧ l ≤ 1000 then .inr { t with ever := t.ever ++ [n], ps := putG t.ps n ⟨f, l, false, none⟩ } else .inl .noStretch
/-! ### reading and writing the n-th part -/
section
variable {S : Sto} {A B C D E F : Pt} {l : List Pt} {i : Nat} {o u : Ob}
theorem Has.g1 (h : Has S (A :: cl i o :: l)) : S[i]? = some o := (h.mv 1).get
theorem Has.g2 (h : Has S (A :: B :: cl i o :: l)) : S[i]? = some o := (h.mv 2).get
theorem Has.g3 (h : Has S (A :: B :: C :: cl i o :: l)) : S[i]? = some o := (h.mv 3).get
theorem Has.g6 (h : Has S (A :: B :: C :: D :: E :: F :: cl i o :: l)) : S[i]? = some o := (h.mv 6).get
theorem Has.s1 (h : Has S (A :: cl i o :: l)) (c : LtO S.length u) : Has (S.set i u) (A :: cl i u :: l) := ((h.mv 1).set c).bk 1
theorem Has.s2 (h : Has S (A :: B :: cl i o :: l)) (c : LtO S.length u) : Has (S.set i u) (A :: B :: cl i u :: l) := ((h.mv 2).set c).bk 2
theorem Has.s3 (h : Has S (A :: B :: C :: cl i o :: l)) (c : LtO S.length u) : Has (S.set i u) (A :: B :: C :: cl i u :: l) := ((h.mv 3).set c).bk 3
theorem Has.s4 (h : Has S (A :: B :: C :: D :: cl i o :: l)) (c : LtO S.length u) : Has (S.set i u) (A :: B :: C :: D :: cl i u :: l) := ((h.mv 4).set c).bk 4
theorem Has.s5 (h : Has S (A :: B :: C :: D :: E :: cl i o :: l)) (c : LtO S.length u) : Has (S.set i u) (A :: B :: C :: D :: E :: cl i u :: l) := ((h.mv 5).set c).bk 5
theorem Has.s6 (h : Has S (A :: B :: C :: D :: E :: F :: cl i o :: l)) (c : LtO S.length u) : Has (S.set i u) (A :: B :: C :: D :: E :: F :: cl i u :: l) := ((h.mv 6).set c).bk 6
theorem Has.n12 {j : Nat} (h : Has S (cl i o :: cl j u :: l)) : j ≠ i := Ne.symm h.ne
end
end Pv

namespace Pv
open PySem PySem.Spec PyProof.Rows L2 Tc
def PVA0 := (And.intro @Pv.w_dpn (And.intro @Pv.w_dpc (And.intro @Pv.w_disp (And.intro @Pv.s_augIx (And.intro @Pv.key_str (And.intro @Pv.max_int16 (And.intro @Pv.w_callK (And.intro @Pv.w_methK (And.intro @Pv.w_makeK (And.intro @Pv.w_eUpd (And.intro @Pv.pk1_0 (And.intro @Pv.pk1_1 (And.intro @Pv.pk1_2 (And.intro @Pv.pk1_3 (And.intro @Pv.pk1_4 (And.intro @Pv.pk1_5 (And.intro @Pv.tkF_1 (And.intro @Pv.tkF_2 (And.intro @Pv.tkF_3 @Pv.tkF_4)))))))))))))))))))
def PVA1 := (And.intro @Pv.tkF_5 (And.intro @Pv.tkF_6 (And.intro @Pv.tkF_7 (And.intro @Pv.tkU_2 (And.intro @Pv.pcF_1 (And.intro @Pv.pcF_2 (And.intro @Pv.pcF_3 (And.intro @Pv.pcU_2 (And.intro @Pv.pcU_3 (And.intro @Pv.tk_o (And.intro @Pv.pc_o (And.intro @Pv.tk_len @Pv.pc_len))))))))))))
end Pv

/-! Takers: plain facts. -/
namespace Pv
open PySem PySem.Spec PyProof.Rows L2 Tc
theorem rngI_map {a b : Int} : rngL a (b - a).toNat = (rngI a b).map PV.int := by
  unfold rngL rngI
  rw [List.map_map]
  rfl
theorem rngI_len {a b : Int} : (rngI a b).length = (b - a).toNat := by unfold rngI; rw [List.length_map, List.length_range]
def keysF (acc : List Int) (ss : List Rw) : List Int := ss.foldl (fun acc s => Pv.addAll acc (rngI s.1 s.2)) acc
def keysL (ss : List Rw) : List Int := keysF [] ss
theorem rngI_mem {a b k : Int} : k ∈ rngI a b ↔ a ≤ k ∧ k < b := by
  unfold rngI
  rw [List.mem_map]
  constructor
  · rintro ⟨n, hn, rfl⟩
    have := List.mem_range.mp hn
    omega
  · rintro ⟨h1, h2⟩
    exact ⟨(k - a).toNat, List.mem_range.mpr (by omega), by omega⟩
theorem in_thousand {ks : List Int} (nd : ks.Nodup) (h : ∀ k ∈ ks, 0 ≤ k ∧ k < 1000) : ks.length ≤ 1000 := by
  have := nodup_len (b := rngI 0 1000) nd fun x hx => rngI_mem.mpr (h x hx)
  rw [rngI_len] at this
  exact this
/-- a taker as it begins -/
def Tk.new (life : Int) (s : Int × List Rw × List Rw) : Tk := ⟨life, s.1, normM s.2.1, keysL s.2.2, [], [], []⟩
end Pv

/-! Takers: what their steps come to, plain. -/
namespace Pv
open PySem PySem.Spec PyProof.Rows L2 Tc
/-! ### stretches of keys -/
/-! ### rows -/
theorem putM_nd {M : List Rw} {k w : Int} (h : (M.map (·.1)).Nodup) : ((putM M k w).map (·.1)).Nodup := by
  unfold putM
  split
  · rw [List.map_map]
    have : (fun r : Rw => r.1) ∘ (fun r : Rw => if r.1 = k then (r.1, w) else r) = fun r => r.1 := by
      funext r
      show (if r.1 = k then (r.1, w) else r).1 = r.1
      split <;> rfl
    rw [this]
    exact h
  · rename_i c
    rw [List.map_append]
    refine List.nodup_append.mpr ⟨h, by simp, fun a ha b hb e => ?_⟩
    cases List.mem_singleton.mp hb
    subst e
    obtain ⟨r, hr, e⟩ := List.mem_map.mp ha
    exact c (List.any_eq_true.mpr ⟨r, hr, decide_eq_true e⟩)
theorem dropM_nd {M : List Rw} {k : Int} (h : (M.map (·.1)).Nodup) : ((dropM M k).map (·.1)).Nodup := (List.filter_sublist.map _).nodup h
theorem chM_nd {M : List Rw} {c : Ch} (h : (M.map (·.1)).Nodup) : ((chM M c).map (·.1)).Nodup := by
  cases c with
  | put k w => exact putM_nd h
  | drop k => exact dropM_nd h
theorem chs_nd : ∀ {cs : List Ch} {M : List Rw}, (M.map (·.1)).Nodup → ((cs.foldl chM M).map (·.1)).Nodup
  | [], _, h => h
  | _ :: cs, _, h => chs_nd (cs := cs) (chM_nd h)
theorem putM_mem {M : List Rw} {k w : Int} {r : Rw} (h : r ∈ putM M k w) : r ∈ M ∨ r = (k, w) := by
  unfold putM at h
  split at h
  · obtain ⟨x, hx, e⟩ := List.mem_map.mp h
    split at e
    · rename_i c
      exact .inr (by rw [← e, c])
    · exact .inl (e ▸ hx)
  · rcases List.mem_append.mp h with z | z
    · exact .inl z
    · exact .inr (List.mem_singleton.mp z)
theorem chM_mem {M : List Rw} {c : Ch} {r : Rw} (h : r ∈ chM M c) : r ∈ M ∨ (r.1 = c.key ∧ ∃ w, c = .put r.1 w ∧ r.2 = w) := by
  cases c with
  | put k w =>
    rcases putM_mem h with z | z
    · exact .inl z
    · subst z; exact .inr ⟨rfl, w, rfl, rfl⟩
  | drop k => exact .inl (List.mem_filter.mp h).1
/-! ### a taker's order -/
structure Tk.Ok (t : Tk) : Prop where
  nw : (t.w.map (·.1)).Nodup
  ws : ∀ r ∈ t.w, r.1 ∈ t.known
  nk : t.known.Nodup
  kr : ∀ k ∈ t.known, 0 ≤ k ∧ k < 1000
  np : (t.ps.map (·.1)).Nodup
  pe : ∀ x ∈ t.ps, x.1 ∈ t.ever
  pr : ∀ x ∈ t.ps, 0 ≤ x.2.fst ∧ x.2.fst < x.2.lst ∧ x.2.lst ≤ 1000
theorem Tk.Ok.kl {t : Tk} (h : t.Ok) : t.known.length ≤ 1000 := in_thousand h.nk h.kr
theorem Tk.Ok.wl {t : Tk} (h : t.Ok) : t.w.length ≤ 1000 := by
  rw [← List.length_map (f := (·.1))]
  refine in_thousand h.nw fun k hk => ?_
  obtain ⟨r, hr, rfl⟩ := List.mem_map.mp hk
  exact h.kr _ (h.ws r hr)
theorem Tk.Ok.group {t : Tk} {cs : List Ch} (h : t.Ok) (hc : ∀ c ∈ cs, 0 ≤ c.key ∧ c.key ≤ 999) : (t.group cs).Ok where
  nw := chs_nd h.nw
  ws := by
    have key : ∀ (cs : List Ch) (M : List Rw) (K : List Int), (∀ r ∈ M, r.1 ∈ K) → ∀ r ∈ cs.foldl chM M, r.1 ∈ chsK K cs := by
      intro cs
      induction cs with
      | nil => intro M K h; exact h
      | cons c cs ih =>
        intro M K h
        refine ih _ _ fun r hr => ?_
        rcases chM_mem hr with z | z
        · exact addK_mem.mpr (.inl (h r z))
        · exact addK_mem.mpr (.inr z.1)
    exact key cs t.w t.known h.ws
  nk := chsK_nd h.nk
  kr k hk := by
    rcases chsK_mem.mp hk with z | ⟨c, hc2, e⟩
    · exact h.kr k z
    · have := hc c hc2; omega
  np := h.np
  pe := h.pe
  pr := h.pr
theorem Tk.Ok.stepIn {M : List Rw} {t : Tk} {k : Int} (h : t.Ok) (hk : 0 ≤ k ∧ k < 1000) : (stepIn M t k).Ok := by
  unfold Pv.stepIn
  split
  · exact h
  · rename_i c
    have nk2 : (t.known ++ [k]).Nodup := List.nodup_append.mpr ⟨h.nk, by simp, fun a ha b hb e => by cases List.mem_singleton.mp hb; exact c (e ▸ ha)⟩
    have kr2 : ∀ j ∈ t.known ++ [k], 0 ≤ j ∧ j < 1000 := fun j hj => by
      rcases List.mem_append.mp hj with z | z
      · exact h.kr j z
      · cases List.mem_singleton.mp z; exact hk
    split
    · exact ⟨putM_nd h.nw, fun r hr => by
        rcases putM_mem hr with z | z
        · exact List.mem_append_left _ (h.ws r z)
        · rw [z]; exact List.mem_append_right _ (List.mem_singleton.mpr rfl), nk2, kr2, h.np, h.pe, h.pr⟩
    · exact ⟨h.nw, fun r hr => List.mem_append_left _ (h.ws r hr), nk2, kr2, h.np, h.pe, h.pr⟩
theorem Tk.Ok.foldIn {M : List Rw} : ∀ {ks : List Int} {t : Tk}, t.Ok → (∀ k ∈ ks, 0 ≤ k ∧ k < 1000) → (ks.foldl (Pv.stepIn M) t).Ok
  | [], _, h, _ => h
  | k :: ks, t, h, hk => Tk.Ok.foldIn (ks := ks) (h.stepIn (hk k List.mem_cons_self)) fun j hj => hk j (List.mem_cons_of_mem _ hj)
theorem Tk.Ok.putIn {t : Tk} {p : Pc} {rows : List Rw} (h : t.Ok) (h0 : 0 ≤ p.fst) (h1 : p.lst ≤ 1000) : (t.putIn p rows).Ok := h.foldIn fun k hk => by
  have := rngI_mem.mp hk
  omega
theorem Tk.Ok.at {t : Tk} (h : t.Ok) (p : Int) : ({ t with pos := p } : Tk).Ok := ⟨h.nw, h.ws, h.nk, h.kr, h.np, h.pe, h.pr⟩
theorem Tk.Ok.drop {t : Tk} (h : t.Ok) (n : Int) : ({ t with ps := dropG t.ps n } : Tk).Ok := ⟨h.nw, h.ws, h.nk, h.kr, dropG_keys h.np, fun x hx => h.pe x (List.mem_filter.mp hx).1, fun x hx => h.pr x (List.mem_filter.mp hx).1⟩
theorem putG_mem {α : Type} {M : List (Int × α)} {n : Int} {v : α} {x : Int × α} (h : x ∈ putG M n v) : (x ∈ M) ∨ x = (n, v) := by
  unfold putG at h
  split at h
  · obtain ⟨y, hy, e⟩ := List.mem_map.mp h
    split at e
    · rename_i c
      exact .inr (by rw [← e, c])
    · exact .inl (e ▸ hy)
  · rcases List.mem_append.mp h with z | z
    · exact .inl z
    · exact .inr (List.mem_singleton.mp z)
theorem Tk.Ok.set {t : Tk} {n : Int} {p p' : Pc} (h : t.Ok) (g : getG t.ps n = some p) (e1 : p'.fst = p.fst) (e2 : p'.lst = p.lst) : ({ t with ps := putG t.ps n p' } : Tk).Ok := by
  have hp := h.pr _ (getG_some g)
  have he := h.pe _ (getG_some g)
  refine ⟨h.nw, h.ws, h.nk, h.kr, by rw [show (putG t.ps n p').map (·.1) = t.ps.map (·.1) from putG_keysE g h.np]; exact h.np, fun x hx => ?_, fun x hx => ?_⟩
  · rcases putG_mem hx with z | z
    · exact h.pe x z
    · subst z; exact he
  · rcases putG_mem hx with z | z
    · exact h.pr x z
    · subst z
      show 0 ≤ p'.fst ∧ p'.fst < p'.lst ∧ p'.lst ≤ 1000
      rw [e1, e2]
      exact hp
theorem Tk.Ok.ask {t t' : Tk} {n f l : Int} (h : t.Ok) (e : t.ask n f l = .inr t') : t'.Ok := by
  unfold Tk.ask at e
  split at e
  · cases e
  · rename_i c
    split at e
    · rename_i c2
      cases e
      have nn : getG t.ps n = none := getG_none.mpr fun r hr z => c (z ▸ h.pe r hr)
      refine ⟨h.nw, h.ws, h.nk, h.kr, ?_, fun x hx => ?_, fun x hx => ?_⟩
      · show ((putG t.ps n _).map (·.1)).Nodup
        rw [putG_new nn, List.map_append]
        refine List.nodup_append.mpr ⟨h.np, by simp, fun a ha b hb e => ?_⟩
        cases List.mem_singleton.mp hb
        obtain ⟨r, hr, e2⟩ := List.mem_map.mp ha
        exact getG_none.mp nn r hr (e2.trans e)
      · rcases putG_mem hx with z | z
        · exact List.mem_append_left _ (h.pe x z)
        · subst z; exact List.mem_append_right _ (List.mem_singleton.mpr rfl)
      · rcases putG_mem hx with z | z
        · exact h.pr x z
        · subst z; exact c2
    · cases e
theorem Tk.Ok.take {t t' : Tk} {e : Ent} (h : t.Ok) (hc : ∀ c ∈ chsOf e, 0 ≤ c.key ∧ c.key ≤ 999) (r : t.take e = .inr t') : t'.Ok := by
  cases e with
  | group cs => cases r; exact h.group hc
  | mark lo l n =>
    unfold Tk.take at r
    dsimp only at r
    split at r
    · split at r
      · cases r; exact h.at _
      · rename_i p g
        have hp := h.pr _ (getG_some g)
        split at r
        · cases r; exact (h.set (p' := { p with way := true }) g rfl rfl).at _
        · split at r
          · cases r
          · cases r; exact ((h.drop n).putIn hp.1 hp.2.2).at _
          · cases r; exact (h.drop n).at _
    · cases r; exact h.at _
/-! ### what rows that come put in -/
end Pv

/-! A law's own taker: a dict of what it is. -/
namespace Pv
open PySem PySem.Spec PyProof.Rows L2 Tc
structure OwL where
  r : Nat
  k : Nat
  p : Nat
  e : Nat
  o : Nat
section
variable {S : Sto} {i : Nat} {t : Tk} {R : List Pt} {x : OwL}
end
section
variable {t : Tk} {r k p e o : Nat} {v : PV} {i : Int}
end
/-! ### things laid behind the store -/
end Pv

/-! Rows put over rows; what is known and kept, once more from what was saved. -/
namespace Pv
open PySem PySem.Spec PyProof.Rows L2 Tc
theorem ne_evs {S : Sto} {vs : List Ev} : neP S (.fl (vs.map evP)) (.fl (vs.map evP)) = some (.bl false) :=
  ne_refl (by rw [okD_fl]; exact okD_map (fun v => by obtain ⟨a, b, c, d⟩ := v; cases d <;> rfl) vs)
theorem Has.fst {S : Sto} {l : List Pt} (h : Has S l) (n : Nat) : Has S (l.take n) := by
  have e : l.Perm (l.drop n ++ l.take n) := (List.perm_append_comm.trans (by rw [List.take_append_drop])).symm
  exact Has.drops (h.perm e)
end Pv

/-! len(x), x of a class of the program. -/
namespace Pv
open PySem PySem.Spec PyProof.Rows L2 Tc
section
variable {prog : Program} {w : World} {A : Around} {E : Value → Shared → Prop} {s : Shared} {K : PySem.W.Frag} {x C f : Addr} {ox : Obj} {od : Option Obj}
end
section
variable {X : Cx} {G : Gb} {Wx : WX} {C : Addr} {c : Str}
end
end Pv

/-! range with a step. -/
namespace Pv
open PySem PySem.Spec PyProof.Rows L2 Tc
section
variable {X : Cx} {G : Gb} {Wx : WX} {a b c : Expr} {ms : ME (List PV)} {tg : Expr}
end
end Pv

/-! A cut behind one statement. -/
namespace Pv
open PySem PySem.Spec PyProof.Rows L2 Tc
theorem mid_w {r : SR} {N B C : En → Sto → Prop} {R : PV → Sto → Prop} {X : WXE} (J : En → Sto → Prop) (h1 : wS r ⟨J, R, B, C, X⟩) (h2 : ∀ env S, J env S → N env S) : wS r ⟨N, R, B, C, X⟩ := by
  obtain ⟨h⟩ := h1
  refine ⟨?_⟩
  cases r with
  | nx env S => exact h2 env S h
  | _ => exact h
end Pv

/-! isinstance(x, (A, B)), A and B built-in types. -/
namespace Pv
open PySem PySem.Spec PyProof.Rows L2 Tc
section
variable {X : Cx} {G : Gb} {Wx : WX} {e a b : Expr} {mo : ME PV} {p tp pos : Pos} {T1 T2 : String}
end
end Pv

/-! Plain data of any kind, and what of it is a table's rows. -/
namespace Pv
open PySem PySem.Spec PyProof.Rows L2 Tc
/-- plain data of so many levels -/
def Pl : Nat → PV → Prop
  | _, .non => True
  | _, .bl _ => True
  | _, .int n => n.natAbs.log2 < 1000
  | _, .str s => s.length ≤ 1000
  | n + 1, .tup xs => xs.length ≤ 3000 ∧ ∀ x ∈ xs, Pl n x
  | n + 1, .fl xs => xs.length ≤ 3000 ∧ ∀ x ∈ xs, Pl n x
  | _, _ => False
theorem Pl.up : ∀ {n : Nat} {v : PV}, Pl n v → Pl (n + 1) v
  | 0, .non, _ => trivial
  | 0, .bl _, _ => trivial
  | 0, .int _, h => h
  | 0, .str _, h => h
  | _ + 1, .non, _ => trivial
  | _ + 1, .bl _, _ => trivial
  | _ + 1, .int _, h => h
  | _ + 1, .str _, h => h
  | n + 1, .tup xs, h => ⟨h.1, fun x hx => (h.2 x hx).up⟩
  | n + 1, .fl xs, h => ⟨h.1, fun x hx => (h.2 x hx).up⟩
theorem Pl.mono {n m : Nat} {v : PV} (h : Pl n v) (l : n ≤ m) : Pl m v := by
  induction l with
  | refl => exact h
  | step _ ih => exact ih.up
theorem Pl.okD : ∀ {n : Nat} {v : PV}, Pl n v → okD n v = true
  | 0, .non, _ => rfl
  | 0, .bl _, _ => rfl
  | 0, .int _, _ => rfl
  | 0, .str _, _ => rfl
  | _ + 1, .non, _ => rfl
  | _ + 1, .bl _, _ => rfl
  | _ + 1, .int _, _ => rfl
  | _ + 1, .str _, _ => rfl
  | n + 1, .tup xs, h => List.all_eq_true.mpr fun x hx => (h.2 x hx).okD
  | n + 1, .fl xs, h => List.all_eq_true.mpr fun x hx => (h.2 x hx).okD
mutual
theorem Pl.lt : ∀ {n N : Nat} {v : PV}, Pl n v → LtP N v
  | _, _, .non, _ => trivial
  | _, _, .bl _, _ => trivial
  | _, _, .int _, _ => trivial
  | _, _, .str _, _ => trivial
  | n + 1, _, .tup xs, h => Pl.lts xs h.2
  | n + 1, _, .fl xs, h => Pl.lts xs h.2
  | 0, _, .tup xs, h => h.elim
  | 0, _, .fl xs, h => h.elim
  | 0, _, .ro xs, h => h.elim
  | 0, _, .ref _, h => h.elim
  | 0, _, .ty _, h => h.elim
theorem Pl.lts {n N : Nat} : ∀ (xs : List PV), (∀ x ∈ xs, Pl n x) → LtPs N xs
  | [], _ => trivial
  | x :: xs, h => ⟨(h x List.mem_cons_self).lt, Pl.lts xs fun y hy => h y (List.mem_cons_of_mem _ hy)⟩
end
/-! ### rows among plain data -/
end Pv

/-! Changes among plain data. -/
namespace Pv
open PySem PySem.Spec PyProof.Rows L2 Tc
end Pv

/-! == by an own __eq__; isinstance(x, a class of the program). -/
namespace Pv
open PySem PySem.Spec PyProof.Rows L2 Tc
structure OwnQ (K : PySem.W.Frag) (C : Addr) : Prop where
  cl : Cls K C
  ha : PySem.W.findIn K (.ref C) "__class__" = some (some (.builtin "object.__class__"))
  hn : PySem.W.specialIn K (.builtin "object.__class__") "__get__" = some (some (.builtin "getset_descriptor.__get__"))
  ht : PySem.W.takesIn K (.builtin "object.__class__") = some true
  hm : PySem.W.mroIn K C (.type "object") = some true
  ic : ((PySem.W.clsIn K C).isSome && PySem.W.typeIn K (.ref C) == some (.type "type")) = true
/-! ### isinstance -/
section
variable {X : Cx} {G : Gb} {Wx : WX} {e a b : Expr} {mo ma mb : ME PV} {p tp pos : Pos} {c : Str} {C : Addr}
/-! ### == -/
end
/-! ### by values -/
section
variable {env : En} {S : Sto} {X : WXE} {Q : PV → Sto → Prop} {c : Str} {ma mb mo : ME PV} {fn : List PV → Sto → ER PV}
end
end Pv

namespace K29
open PySem PySem.Spec PyProof.Rows L2 Tc Pv
theorem sc_NoPlace___init__ : FnScope ["self", "at"] ["self", "at"] (defScope s_NoPlace___init__) := ⟨rfl, rfl, rfl, by decide +kernel, rfl, by decide +kernel, by decide +kernel⟩
theorem sc_changes_of : FnScope ["entry"] ["entry"] (defScope s_changes_of) := ⟨rfl, rfl, rfl, by decide +kernel, rfl, by decide +kernel, by decide +kernel⟩
theorem sc_put_change : FnScope ["rows", "change"] ["rows", "change"] (defScope s_put_change) := ⟨rfl, rfl, rfl, by decide +kernel, rfl, by decide +kernel, by decide +kernel⟩
theorem sc_pairs_of : FnScope ["rows", "key"] ["rows"] (defScope s_pairs_of) := ⟨rfl, rfl, rfl, by decide +kernel, rfl, by decide +kernel, by decide +kernel⟩
theorem sc_need_place : FnScope ["place", "least", "most"] ["place", "least", "most"] (defScope s_need_place) := ⟨rfl, rfl, rfl, by decide +kernel, rfl, by decide +kernel, by decide +kernel⟩
theorem sc_all_tables : FnScope ["table", "log", "rows", "found", "entry", "change"] ["table", "log"] (defScope s_all_tables) := ⟨rfl, rfl, rfl, by decide +kernel, rfl, by decide +kernel, by decide +kernel⟩
theorem sc_changed : FnScope ["log", "low", "high", "entry", "change"] ["log", "low", "high"] (defScope s_changed) := ⟨rfl, rfl, rfl, by decide +kernel, rfl, by decide +kernel, by decide +kernel⟩
theorem sc_due_changes : FnScope ["log", "start", "found", "at", "entry", "word", "key", "worth"] ["log", "start"] (defScope s_due_changes) := ⟨rfl, rfl, rfl, by decide +kernel, rfl, by decide +kernel, by decide +kernel⟩
theorem sc_is_copy : FnScope ["tables", "log", "start", "event", "place", "word", "key", "worth"] ["tables", "log", "start", "event"] (defScope s_is_copy) := ⟨rfl, rfl, rfl, by decide +kernel, rfl, by decide +kernel, by decide +kernel⟩
theorem sc_first_wrong : FnScope ["table", "log", "events", "start", "tables", "left", "copied", "last", "at", "event", "place", "word", "key", "worth"] ["table", "log", "events", "start"] (defScope s_first_wrong) := ⟨rfl, rfl, rfl, by decide +kernel, rfl, by decide +kernel, by decide +kernel⟩
theorem sc__law_bag : FnScope ["script", "k", "cell"] ["script", "k"] (defScope s__law_bag) := ⟨rfl, rfl, rfl, by decide +kernel, rfl, by decide +kernel, by decide +kernel⟩
theorem sc__law_take : FnScope ["bag", "many", "found"] ["bag", "many"] (defScope s__law_take) := ⟨rfl, rfl, rfl, by decide +kernel, rfl, by decide +kernel, by decide +kernel⟩
theorem sc__law_of : FnScope ["bag", "some"] ["bag", "some"] (defScope s__law_of) := ⟨rfl, rfl, rfl, by decide +kernel, rfl, by decide +kernel, by decide +kernel⟩
theorem sc__law_keys : FnScope ["bag", "step", "first", "at"] ["bag"] (defScope s__law_keys) := ⟨rfl, rfl, rfl, by decide +kernel, rfl, by decide +kernel, by decide +kernel⟩
theorem sc__law_table : FnScope ["bag", "keys", "key"] ["bag", "keys"] (defScope s__law_table) := ⟨rfl, rfl, rfl, by decide +kernel, rfl, by decide +kernel, by decide +kernel⟩
theorem sc__law_changes : FnScope ["bag", "keys", "most", "found", "turn", "key"] ["bag", "keys", "most"] (defScope s__law_changes) := ⟨rfl, rfl, rfl, by decide +kernel, rfl, by decide +kernel, by decide +kernel⟩
theorem sc__law_entry : FnScope ["bag", "keys"] ["bag", "keys"] (defScope s__law_entry) := ⟨rfl, rfl, rfl, by decide +kernel, rfl, by decide +kernel, by decide +kernel⟩
theorem sc__law_log : FnScope ["bag", "keys", "most", "turn"] ["bag", "keys", "most"] (defScope s__law_log) := ⟨rfl, rfl, rfl, by decide +kernel, rfl, by decide +kernel, by decide +kernel⟩
theorem sc__law_done : FnScope ["rows", "changes", "change"] ["rows", "changes"] (defScope s__law_done) := ⟨rfl, rfl, rfl, by decide +kernel, rfl, by decide +kernel, by decide +kernel⟩
theorem sc__law_pairs : FnScope ["rows", "key"] ["rows"] (defScope s__law_pairs) := ⟨rfl, rfl, rfl, by decide +kernel, rfl, by decide +kernel, by decide +kernel⟩
theorem sc__law_groups : FnScope ["log", "entry"] ["log"] (defScope s__law_groups) := ⟨rfl, rfl, rfl, by decide +kernel, rfl, by decide +kernel, by decide +kernel⟩
theorem sc__law_at : FnScope ["table", "log", "place", "rows", "changes"] ["table", "log", "place"] (defScope s__law_at) := ⟨rfl, rfl, rfl, by decide +kernel, rfl, by decide +kernel, by decide +kernel⟩
theorem sc__law_moved : FnScope ["log", "low", "high", "found", "changes", "change"] ["log", "low", "high"] (defScope s__law_moved) := ⟨rfl, rfl, rfl, by decide +kernel, rfl, by decide +kernel, by decide +kernel⟩
theorem sc__law_wrong_at : FnScope ["table", "log", "events", "sta1", "due", "at", "changes", "copied", "last", "event", "place", "word", "key", "worth", "change"] ["table", "log", "events", "sta1"] (defScope s__law_wrong_at) := ⟨rfl, rfl, rfl, by decide +kernel, rfl, by decide +kernel, by decide +kernel⟩
theorem sc__law_true_events : FnScope ["bag", "table", "log", "sta1", "found", "copied", "place", "change", "key", "worth"] ["bag", "table", "log", "sta1"] (defScope s__law_true_events) := ⟨rfl, rfl, rfl, by decide +kernel, rfl, by decide +kernel, by decide +kernel⟩
theorem sc__law_other_events : FnScope ["bag", "events", "keys", "rows", "at", "way", "new", "event", "part"] ["bag", "events", "keys"] (defScope s__law_other_events) := ⟨rfl, rfl, rfl, by decide +kernel, rfl, by decide +kernel, by decide +kernel⟩
theorem sc_law : FnScope ["script", "k", "bag", "keys", "table", "log", "sta1", "events", "turn", "handed", "found", "due"] ["script"] (defScope s_law) := ⟨rfl, rfl, rfl, by decide +kernel, rfl, by decide +kernel, by decide +kernel⟩
set_option maxHeartbeats 0 in
structure Txt (K : PySem.W.Frag) (mg : Str → Option Value) where
  f_changes_of : Addr
  fd_changes_of : FuncData
  F_changes_of : Fun K "changes_of" "changes_of" s_changes_of f_changes_of fd_changes_of
  b_changes_of : Binds K fd_changes_of ["entry"] []
  g_changes_of : mg "changes_of" = some (.ref f_changes_of)
  f_put_change : Addr
  fd_put_change : FuncData
  F_put_change : Fun K "put_change" "put_change" s_put_change f_put_change fd_put_change
  b_put_change : Binds K fd_put_change ["rows", "change"] []
  g_put_change : mg "put_change" = some (.ref f_put_change)
  f_pairs_of : Addr
  fd_pairs_of : FuncData
  F_pairs_of : Fun K "pairs_of" "pairs_of" s_pairs_of f_pairs_of fd_pairs_of
  b_pairs_of : Binds K fd_pairs_of ["rows"] []
  g_pairs_of : mg "pairs_of" = some (.ref f_pairs_of)
  f_need_place : Addr
  fd_need_place : FuncData
  F_need_place : Fun K "need_place" "need_place" s_need_place f_need_place fd_need_place
  b_need_place : Binds K fd_need_place ["place", "least", "most"] []
  g_need_place : mg "need_place" = some (.ref f_need_place)
  f_all_tables : Addr
  fd_all_tables : FuncData
  F_all_tables : Fun K "all_tables" "all_tables" s_all_tables f_all_tables fd_all_tables
  b_all_tables : Binds K fd_all_tables ["table", "log"] []
  g_all_tables : mg "all_tables" = some (.ref f_all_tables)
  f_changed : Addr
  fd_changed : FuncData
  F_changed : Fun K "changed" "changed" s_changed f_changed fd_changed
  b_changed : Binds K fd_changed ["log", "low", "high"] []
  g_changed : mg "changed" = some (.ref f_changed)
  f_due_changes : Addr
  fd_due_changes : FuncData
  F_due_changes : Fun K "due_changes" "due_changes" s_due_changes f_due_changes fd_due_changes
  b_due_changes : Binds K fd_due_changes ["log", "start"] []
  g_due_changes : mg "due_changes" = some (.ref f_due_changes)
  f_is_copy : Addr
  fd_is_copy : FuncData
  F_is_copy : Fun K "is_copy" "is_copy" s_is_copy f_is_copy fd_is_copy
  b_is_copy : Binds K fd_is_copy ["tables", "log", "start", "event"] []
  g_is_copy : mg "is_copy" = some (.ref f_is_copy)
  f_first_wrong : Addr
  fd_first_wrong : FuncData
  F_first_wrong : Fun K "first_wrong" "first_wrong" s_first_wrong f_first_wrong fd_first_wrong
  kb_first_wrong : KBn K fd_first_wrong ["table", "log", "events", "start"] 3 ["start"] (fun us ws => us ++ ws) (fun us ws => us ++ ws)
  g_first_wrong : mg "first_wrong" = some (.ref f_first_wrong)
  f__law_bag : Addr
  fd__law_bag : FuncData
  F__law_bag : Fun K "_law_bag" "_law_bag" s__law_bag f__law_bag fd__law_bag
  b__law_bag : Binds K fd__law_bag ["script", "k"] []
  g__law_bag : mg "_law_bag" = some (.ref f__law_bag)
  f__law_take : Addr
  fd__law_take : FuncData
  F__law_take : Fun K "_law_take" "_law_take" s__law_take f__law_take fd__law_take
  b__law_take : Binds K fd__law_take ["bag", "many"] []
  g__law_take : mg "_law_take" = some (.ref f__law_take)
  f__law_of : Addr
  fd__law_of : FuncData
  F__law_of : Fun K "_law_of" "_law_of" s__law_of f__law_of fd__law_of
  b__law_of : Binds K fd__law_of ["bag", "some"] []
  g__law_of : mg "_law_of" = some (.ref f__law_of)
  f__law_keys : Addr
  fd__law_keys : FuncData
  F__law_keys : Fun K "_law_keys" "_law_keys" s__law_keys f__law_keys fd__law_keys
  b__law_keys : Binds K fd__law_keys ["bag"] []
  g__law_keys : mg "_law_keys" = some (.ref f__law_keys)
  f__law_table : Addr
  fd__law_table : FuncData
  F__law_table : Fun K "_law_table" "_law_table" s__law_table f__law_table fd__law_table
  b__law_table : Binds K fd__law_table ["bag", "keys"] []
  g__law_table : mg "_law_table" = some (.ref f__law_table)
  f__law_changes : Addr
  fd__law_changes : FuncData
  F__law_changes : Fun K "_law_changes" "_law_changes" s__law_changes f__law_changes fd__law_changes
  b__law_changes : Binds K fd__law_changes ["bag", "keys", "most"] []
  g__law_changes : mg "_law_changes" = some (.ref f__law_changes)
  f__law_entry : Addr
  fd__law_entry : FuncData
  F__law_entry : Fun K "_law_entry" "_law_entry" s__law_entry f__law_entry fd__law_entry
  b__law_entry : Binds K fd__law_entry ["bag", "keys"] []
  g__law_entry : mg "_law_entry" = some (.ref f__law_entry)
  f__law_log : Addr
  fd__law_log : FuncData
  F__law_log : Fun K "_law_log" "_law_log" s__law_log f__law_log fd__law_log
  b__law_log : Binds K fd__law_log ["bag", "keys", "most"] []
  g__law_log : mg "_law_log" = some (.ref f__law_log)
  f__law_done : Addr
  fd__law_done : FuncData
  F__law_done : Fun K "_law_done" "_law_done" s__law_done f__law_done fd__law_done
  b__law_done : Binds K fd__law_done ["rows", "changes"] []
  g__law_done : mg "_law_done" = some (.ref f__law_done)
  f__law_pairs : Addr
  fd__law_pairs : FuncData
  F__law_pairs : Fun K "_law_pairs" "_law_pairs" s__law_pairs f__law_pairs fd__law_pairs
  b__law_pairs : Binds K fd__law_pairs ["rows"] []
  g__law_pairs : mg "_law_pairs" = some (.ref f__law_pairs)
  f__law_groups : Addr
  fd__law_groups : FuncData
  F__law_groups : Fun K "_law_groups" "_law_groups" s__law_groups f__law_groups fd__law_groups
  b__law_groups : Binds K fd__law_groups ["log"] []
  g__law_groups : mg "_law_groups" = some (.ref f__law_groups)
  f__law_at : Addr
  fd__law_at : FuncData
  F__law_at : Fun K "_law_at" "_law_at" s__law_at f__law_at fd__law_at
  b__law_at : Binds K fd__law_at ["table", "log", "place"] []
  g__law_at : mg "_law_at" = some (.ref f__law_at)
  f__law_moved : Addr
  fd__law_moved : FuncData
  F__law_moved : Fun K "_law_moved" "_law_moved" s__law_moved f__law_moved fd__law_moved
  b__law_moved : Binds K fd__law_moved ["log", "low", "high"] []
  g__law_moved : mg "_law_moved" = some (.ref f__law_moved)
  f__law_wrong_at : Addr
  fd__law_wrong_at : FuncData
  F__law_wrong_at : Fun K "_law_wrong_at" "_law_wrong_at" s__law_wrong_at f__law_wrong_at fd__law_wrong_at
  b__law_wrong_at : Binds K fd__law_wrong_at ["table", "log", "events", "sta1"] []
  g__law_wrong_at : mg "_law_wrong_at" = some (.ref f__law_wrong_at)
  f__law_true_events : Addr
  fd__law_true_events : FuncData
  F__law_true_events : Fun K "_law_true_events" "_law_true_events" s__law_true_events f__law_true_events fd__law_true_events
  b__law_true_events : Binds K fd__law_true_events ["bag", "table", "log", "sta1"] []
  g__law_true_events : mg "_law_true_events" = some (.ref f__law_true_events)
  f__law_other_events : Addr
  fd__law_other_events : FuncData
  F__law_other_events : Fun K "_law_other_events" "_law_other_events" s__law_other_events f__law_other_events fd__law_other_events
  b__law_other_events : Binds K fd__law_other_events ["bag", "events", "keys"] []
  g__law_other_events : mg "_law_other_events" = some (.ref f__law_other_events)
  f_law : Addr
  fd_law : FuncData
  F_law : Fun K "law" "law" s_law f_law fd_law
  b_law : Binds K fd_law ["script"] []
  g_law : mg "law" = some (.ref f_law)
  z_tuple : mg "tuple" = none
  z_sorted : mg "sorted" = none
  z_dict : mg "dict" = none
  z_len : mg "len" = none
  z_enumerate : mg "enumerate" = none
  z_abs : mg "abs" = none
  z_set : mg "set" = none
  z_range : mg "range" = none
  z_list : mg "list" = none
  z_min : mg "min" = none
  d0_first_wrong : ∃ ds, Vals [.int 0] ds ∧ Binds K fd_first_wrong ["table", "log", "events", "start"] ds
def gb (K : PySem.W.Frag) (mg : Str → Option Value) : Gb := ⟨K, mg, fun _ _ _ => False⟩
section
variable {P : Program} {w : World} {K : PySem.W.Frag} {mg : Str → Option Value} {base : Heap}
def b_changes_of : MS := (sRet (eIf (tOf (eOp eqP (eOp ixP (eVar 0) (eC (.int 0))) (eC (.str "group")))) (eOp ixP (eVar 0) (eC (.int 1))) (eTup aNil)))
def m_changes_of : List PV → Sto → ER PV := runB 1 b_changes_of
theorem ok_changes_of (T : Txt K mg) : FnOk P w K mg base (L2N.CX P w) 1 T.f_changes_of T.fd_changes_of ["entry"] (spM (gb K mg) 1 m_changes_of) :=
  okX T.F_changes_of sc_changes_of rfl rfl fun cdv A outer s H E hr tk hp => by
    unfold b_changes_of
    exact (vss_one (vs_ret (ve_if (vt_cmp (vo_eq hr.units) (ve_ix (G := gb K mg) hr.units (ve_var 0 (pn 0)) (ve_c pe_int fun _ => .int _) (fun _ _ => rfl)) (ve_c pe_str fun _ => .str _) (nomark _)) (ve_ix (G := gb K mg) hr.units (ve_var 0 (pn 0)) (ve_c pe_int fun _ => .int _) (fun _ _ => rfl)) (ve_tup (G := gb K mg) va_nil))))
def b_put_change : MS := (sIf (tOf (eOp eqP (eOp ixP (eVar 1) (eC (.int 0))) (eC (.str "put"))))
    (sAsg (eOp ixP (eVar 1) (eC (.int 2))) (gIx (eVar 0) (eOp ixP (eVar 1) (eC (.int 1)))))
    (sExpr (ePop2 (eVar 0) (eOp ixP (eVar 1) (eC (.int 1))) (eC .non))))
def m_put_change : List PV → Sto → ER PV := runB 2 b_put_change
theorem ok_put_change (T : Txt K mg) : FnOk P w K mg base (L2N.CX P w) 1 T.f_put_change T.fd_put_change ["rows", "change"] (spM (gb K mg) 2 m_put_change) :=
  okX T.F_put_change sc_put_change rfl rfl fun cdv A outer s H E hr tk hp => by
    unfold b_put_change
    exact (vss_one (vs_if (vt_cmp (vo_eq hr.units) (ve_ix (G := gb K mg) hr.units (ve_var 1 (pn 1)) (ve_c pe_int fun _ => .int _) (fun _ _ => rfl)) (ve_c pe_str fun _ => .str _) (nomark _))
      (vss_one (vs_asg (ve_ix (G := gb K mg) hr.units (ve_var 1 (pn 1)) (ve_c pe_int fun _ => .int _) (fun _ _ => rfl)) (vg_ix (Wx := fun cls d _ H => E cls d H) hr.units (ve_var 0 (pn 0)) (ve_ix (G := gb K mg) hr.units (ve_var 1 (pn 1)) (ve_c pe_int fun _ => .int _) (fun _ _ => rfl)))))
      (vss_one (vs_expr (ve_pop2 (ve_var 0 (pn 0)) (ve_ix (G := gb K mg) hr.units (ve_var 1 (pn 1)) (ve_c pe_int fun _ => .int _) (fun _ _ => rfl)) (ve_c pe_non fun _ => .non) ⟨by rfl, by rfl, by rfl, by rfl⟩)))))
noncomputable def b_pairs_of : MS := (sRet (eCB (oneF tupG) (aCons (eFl (nLc (iSeq (eFl (nCB (oneF sortA) (aCons (eVar 0) aNil)))) (bN1 1) yesT (eTup (aCons (eVar 1) (aCons (eOp ixP (eVar 0) (eVar 1)) aNil))) [1])) aNil)))
noncomputable def m_pairs_of : List PV → Sto → ER PV := runB 2 b_pairs_of
theorem ok_pairs_of (T : Txt K mg) : FnOk P w K mg base (L2N.CX P w) 1 T.f_pairs_of T.fd_pairs_of ["rows"] (spM (gb K mg) 1 m_pairs_of) :=
  okX T.F_pairs_of sc_pairs_of rfl rfl fun cdv A outer s H E hr tk hp => by
    unfold b_pairs_of
    exact (vss_one (vs_ret (ve_callT vc_tup (by rfl) T.z_tuple Tc.boot_tuple (va_cons (ve_fl (vn_lc (G := gb K mg) (own := [("key", 1)]) rfl sc_pairs_of.nd (vi_seq (ve_fl (vn_callB (vc_sortA rfl) (by rfl) T.z_sorted Tc.boot_sorted (va_cons (ve_var 0 (pn 0)) va_nil)))) (blkOk_by (own := [("key", 1)]) (N := ["rows", "key"]) (sc := defScope s_pairs_of) (by decide +kernel)) (fun _ _ _ _ _ => by exact (pg_name (i := 1) sc_pairs_of.nd rfl (Or.inl rfl))) (fun _ _ _ _ _ => by exact vts_nil) (fun _ _ _ _ _ => by exact (ve_tup (G := gb K mg) (va_cons (ve_var 1 (pn 1)) (va_cons (ve_ix (G := gb K mg) hr.units (ve_var 0 (pn 0)) (ve_var 1 (pn 1)) (fun _ _ => rfl)) va_nil)))) (ct_name (i := 1)) (fun _ _ _ _ _ _ r => r))) va_nil))))
def b_need_place : MS := (sIf (tNotP (tOf (eChain leP leP (eVar 1) (eVar 0) (eVar 2))))
    sNever
    sNil)
def m_need_place : List PV → Sto → ER PV := runB 3 b_need_place
theorem ok_need_place (T : Txt K mg) : FnOk P w K mg base (L2N.CX P w) 1 T.f_need_place T.fd_need_place ["place", "least", "most"] (spM (gb K mg) 3 m_need_place) :=
  okX T.F_need_place sc_need_place rfl rfl fun cdv A outer s H E hr tk hp => by
    unfold b_need_place
    exact (vss_one (vs_if (vt_not (vt_chain vo_le vo_le (ve_var 1 (pn 1)) (ve_var 0 (pn 0)) (ve_var 2 (pn 2))))
      (vss_one vs_never)
      vss_nil))
def b__law_bag : MS := (sSeq (sSet 2 (eC (.int 0)))
    (sSeq (sIf (tOf (eOp ltP (eVar 1) (eCB (oneF lenG) (aCons (eVar 0) aNil))))
    (sSet 2 (eCB (oneF absG) (aCons (eOp ixP (eVar 0) (eVar 1)) aNil)))
    sNil)
    (sSeq (sIf (tOf (eOp ltP (eVar 2) (eOp powP (eC (.int 10)) (eC (.int 18)))))
    (sRet (eNew (nLst (aCons (eC (.int 0)) (aCons (eOp addP (eC (.int 1)) (eOp modP (eOp addP (eOp mulP (eVar 2) (eC (.int 7919))) (eOp mulP (eC (.int 104729)) (eVar 1))) (eC (.int 2147483646)))) aNil)))))
    sNil)
    (sRet (eNew (nLst (aCons (eVar 2) (aCons (eOp addP (eC (.int 1)) (eOp modP (eOp addP (eVar 2) (eVar 1)) (eC (.int 2147483646)))) aNil))))))))
def m__law_bag : List PV → Sto → ER PV := runB 3 b__law_bag
theorem ok__law_bag (T : Txt K mg) : FnOk P w K mg base (L2N.CX P w) 1 T.f__law_bag T.fd__law_bag ["script", "k"] (spM (gb K mg) 2 m__law_bag) :=
  okX T.F__law_bag sc__law_bag rfl rfl fun cdv A outer s H E hr tk hp => by
    unfold b__law_bag
    exact (vss_cons (vs_set (i := 2) sc__law_bag.nd rfl (Or.inl rfl) (ve_c pe_int fun _ => .int _))
      (vss_cons (vs_if (vt_cmp vo_lt (ve_var 1 (pn 1)) (ve_callB vc_len (by rfl) T.z_len Tc.boot_len (va_cons (ve_var 0 (pn 0)) va_nil)) (nomark _))
      (vss_one (vs_set (i := 2) sc__law_bag.nd rfl (Or.inl rfl) (ve_callB vc_abs (by rfl) T.z_abs Tc.boot_abs (va_cons (ve_ix (G := gb K mg) hr.units (ve_var 0 (pn 0)) (ve_var 1 (pn 1)) (fun _ _ => rfl)) va_nil))))
      vss_nil)
      (vss_cons (vs_if (vt_cmp vo_lt (ve_var 2 (pn 2)) (ve_op (G := gb K mg) vo_pow (ve_c pe_int fun _ => .int _) (ve_c pe_int fun _ => .int _)) (nomark _))
      (vss_one (vs_ret (ve_new (vn_lst (va_cons (ve_c pe_int fun _ => .int _) (va_cons (ve_op (G := gb K mg) vo_add (ve_c pe_int fun _ => .int _) (ve_op (G := gb K mg) vo_mod (ve_op (G := gb K mg) vo_add (ve_op (G := gb K mg) vo_mul (ve_var 2 (pn 2)) (ve_c pe_int fun _ => .int _)) (ve_op (G := gb K mg) vo_mul (ve_c pe_int fun _ => .int _) (ve_var 1 (pn 1)))) (ve_c pe_int fun _ => .int _))) va_nil))))))
      vss_nil)
      (vss_one (vs_ret (ve_new (vn_lst (va_cons (ve_var 2 (pn 2)) (va_cons (ve_op (G := gb K mg) vo_add (ve_c pe_int fun _ => .int _) (ve_op (G := gb K mg) vo_mod (ve_op (G := gb K mg) vo_add (ve_var 2 (pn 2)) (ve_var 1 (pn 1))) (ve_c pe_int fun _ => .int _))) va_nil)))))))))
def b__law_take : MS := (sSeq (sIf (tOf (eOp gtP (eOp ixP (eVar 0) (eC (.int 0))) (eC (.int 0))))
    (sSeq (sSet 2 (eOp modP (eOp ixP (eVar 0) (eC (.int 0))) (eVar 1)))
    (sSeq (sAsg (eOp divP (eOp ixP (eVar 0) (eC (.int 0))) (eVar 1)) (gIx (eVar 0) (eC (.int 0))))
    (sRet (eVar 2))))
    sNil)
    (sSeq (sAsg (eOp modP (eOp mulP (eOp ixP (eVar 0) (eC (.int 1))) (eC (.int 48271))) (eC (.int 2147483647))) (gIx (eVar 0) (eC (.int 1))))
    (sRet (eOp modP (eOp divP (eOp modP (eOp mulP (eOp ixP (eVar 0) (eC (.int 1))) (eOp ixP (eVar 0) (eC (.int 1)))) (eC (.int 2147483629))) (eC (.int 64))) (eVar 1)))))
def m__law_take : List PV → Sto → ER PV := runB 3 b__law_take
theorem ok__law_take (T : Txt K mg) : FnOk P w K mg base (L2N.CX P w) 1 T.f__law_take T.fd__law_take ["bag", "many"] (spM (gb K mg) 2 m__law_take) :=
  okX T.F__law_take sc__law_take rfl rfl fun cdv A outer s H E hr tk hp => by
    unfold b__law_take
    exact (vss_cons (vs_if (vt_cmp vo_gt (ve_ix (G := gb K mg) hr.units (ve_var 0 (pn 0)) (ve_c pe_int fun _ => .int _) (fun _ _ => rfl)) (ve_c pe_int fun _ => .int _) (nomark _))
      (vss_cons (vs_set (i := 2) sc__law_take.nd rfl (Or.inl rfl) (ve_op (G := gb K mg) vo_mod (ve_ix (G := gb K mg) hr.units (ve_var 0 (pn 0)) (ve_c pe_int fun _ => .int _) (fun _ _ => rfl)) (ve_var 1 (pn 1))))
      (vss_cons (vs_asg (ve_op (G := gb K mg) vo_div (ve_ix (G := gb K mg) hr.units (ve_var 0 (pn 0)) (ve_c pe_int fun _ => .int _) (fun _ _ => rfl)) (ve_var 1 (pn 1))) (vg_ix (Wx := fun cls d _ H => E cls d H) hr.units (ve_var 0 (pn 0)) (ve_c pe_int fun _ => .int _)))
      (vss_one (vs_ret (ve_var 2 (pn 2))))))
      vss_nil)
      (vss_cons (vs_asg (ve_op (G := gb K mg) vo_mod (ve_op (G := gb K mg) vo_mul (ve_ix (G := gb K mg) hr.units (ve_var 0 (pn 0)) (ve_c pe_int fun _ => .int _) (fun _ _ => rfl)) (ve_c pe_int fun _ => .int _)) (ve_c pe_int fun _ => .int _)) (vg_ix (Wx := fun cls d _ H => E cls d H) hr.units (ve_var 0 (pn 0)) (ve_c pe_int fun _ => .int _)))
      (vss_one (vs_ret (ve_op (G := gb K mg) vo_mod (ve_op (G := gb K mg) vo_div (ve_op (G := gb K mg) vo_mod (ve_op (G := gb K mg) vo_mul (ve_ix (G := gb K mg) hr.units (ve_var 0 (pn 0)) (ve_c pe_int fun _ => .int _) (fun _ _ => rfl)) (ve_ix (G := gb K mg) hr.units (ve_var 0 (pn 0)) (ve_c pe_int fun _ => .int _) (fun _ _ => rfl))) (ve_c pe_int fun _ => .int _)) (ve_c pe_int fun _ => .int _)) (ve_var 1 (pn 1)))))))
noncomputable def b__law_done : MS := (sFor (iSeq (eVar 1)) (gNm 2)
    (sIf (tOf (eOp eqP (eOp ixP (eVar 2) (eC (.int 0))) (eC (.str "put"))))
    (sAsg (eOp ixP (eVar 2) (eC (.int 2))) (gIx (eVar 0) (eOp ixP (eVar 2) (eC (.int 1)))))
    (sExpr (ePop2 (eVar 0) (eOp ixP (eVar 2) (eC (.int 1))) (eC .non)))))
noncomputable def m__law_done : List PV → Sto → ER PV := runB 3 b__law_done
theorem ok__law_done (T : Txt K mg) : FnOk P w K mg base (L2N.CX P w) 1 T.f__law_done T.fd__law_done ["rows", "changes"] (spM (gb K mg) 2 m__law_done) :=
  okX T.F__law_done sc__law_done rfl rfl fun cdv A outer s H E hr tk hp => by
    unfold b__law_done
    exact (vss_one (vs_for hp rfl (vi_seq (ve_var 1 (pn 1))) (vg_A (vg_name (pg_name (i := 2) sc__law_done.nd rfl (Or.inl rfl))))
      (vss_one (vs_if (vt_cmp (vo_eq hr.units) (ve_ix (G := gb K mg) hr.units (ve_var 2 (pn 2)) (ve_c pe_int fun _ => .int _) (fun _ _ => rfl)) (ve_c pe_str fun _ => .str _) (nomark _))
      (vss_one (vs_asg (ve_ix (G := gb K mg) hr.units (ve_var 2 (pn 2)) (ve_c pe_int fun _ => .int _) (fun _ _ => rfl)) (vg_ix (Wx := fun cls d _ H => E cls d H) hr.units (ve_var 0 (pn 0)) (ve_ix (G := gb K mg) hr.units (ve_var 2 (pn 2)) (ve_c pe_int fun _ => .int _) (fun _ _ => rfl)))))
      (vss_one (vs_expr (ve_pop2 (ve_var 0 (pn 0)) (ve_ix (G := gb K mg) hr.units (ve_var 2 (pn 2)) (ve_c pe_int fun _ => .int _) (fun _ _ => rfl)) (ve_c pe_non fun _ => .non) ⟨by rfl, by rfl, by rfl, by rfl⟩)))))))
noncomputable def b__law_pairs : MS := (sRet (eCB (oneF tupG) (aCons (eFl (nLc (iSeq (eFl (nCB (oneF sortA) (aCons (eVar 0) aNil)))) (bN1 1) yesT (eTup (aCons (eVar 1) (aCons (eOp ixP (eVar 0) (eVar 1)) aNil))) [1])) aNil)))
noncomputable def m__law_pairs : List PV → Sto → ER PV := runB 2 b__law_pairs
theorem ok__law_pairs (T : Txt K mg) : FnOk P w K mg base (L2N.CX P w) 1 T.f__law_pairs T.fd__law_pairs ["rows"] (spM (gb K mg) 1 m__law_pairs) :=
  okX T.F__law_pairs sc__law_pairs rfl rfl fun cdv A outer s H E hr tk hp => by
    unfold b__law_pairs
    exact (vss_one (vs_ret (ve_callT vc_tup (by rfl) T.z_tuple Tc.boot_tuple (va_cons (ve_fl (vn_lc (G := gb K mg) (own := [("key", 1)]) rfl sc__law_pairs.nd (vi_seq (ve_fl (vn_callB (vc_sortA rfl) (by rfl) T.z_sorted Tc.boot_sorted (va_cons (ve_var 0 (pn 0)) va_nil)))) (blkOk_by (own := [("key", 1)]) (N := ["rows", "key"]) (sc := defScope s__law_pairs) (by decide +kernel)) (fun _ _ _ _ _ => by exact (pg_name (i := 1) sc__law_pairs.nd rfl (Or.inl rfl))) (fun _ _ _ _ _ => by exact vts_nil) (fun _ _ _ _ _ => by exact (ve_tup (G := gb K mg) (va_cons (ve_var 1 (pn 1)) (va_cons (ve_ix (G := gb K mg) hr.units (ve_var 0 (pn 0)) (ve_var 1 (pn 1)) (fun _ _ => rfl)) va_nil)))) (ct_name (i := 1)) (fun _ _ _ _ _ _ r => r))) va_nil))))
noncomputable def b__law_groups : MS := (sRet (eFl (nLc (iSeq (eVar 0)) (bN1 1) yesT (eIf (tOf (eOp eqP (eOp ixP (eVar 1) (eC (.int 0))) (eC (.str "group")))) (eOp ixP (eVar 1) (eC (.int 1))) (eTup aNil)) [1])))
noncomputable def m__law_groups : List PV → Sto → ER PV := runB 2 b__law_groups
theorem ok__law_groups (T : Txt K mg) : FnOk P w K mg base (L2N.CX P w) 1 T.f__law_groups T.fd__law_groups ["log"] (spM (gb K mg) 1 m__law_groups) :=
  okX T.F__law_groups sc__law_groups rfl rfl fun cdv A outer s H E hr tk hp => by
    unfold b__law_groups
    exact (vss_one (vs_ret (ve_fl (vn_lc (G := gb K mg) (own := [("entry", 1)]) rfl sc__law_groups.nd (vi_seq (ve_var 0 (pn 0))) (blkOk_by (own := [("entry", 1)]) (N := ["log", "entry"]) (sc := defScope s__law_groups) (by decide +kernel)) (fun _ _ _ _ _ => by exact (pg_name (i := 1) sc__law_groups.nd rfl (Or.inl rfl))) (fun _ _ _ _ _ => by exact vts_nil) (fun _ _ _ _ _ => by exact (ve_if (vt_cmp (vo_eq hr.units) (ve_ix (G := gb K mg) hr.units (ve_var 1 (pn 1)) (ve_c pe_int fun _ => .int _) (fun _ _ => rfl)) (ve_c pe_str fun _ => .str _) (nomark _)) (ve_ix (G := gb K mg) hr.units (ve_var 1 (pn 1)) (ve_c pe_int fun _ => .int _) (fun _ _ => rfl)) (ve_tup (G := gb K mg) va_nil))) (ct_name (i := 1)) (fun _ _ _ _ _ _ r => r)))))
noncomputable def b_all_tables : MS := (sSeq (sSet 2 (eDB (oneF dictA) (aCons (eVar 0) aNil)))
    (sSeq (sSet 3 (eNew (nLst (aCons (eCall 1 m_pairs_of (aCons (eVar 2) aNil)) aNil))))
    (sSeq (sFor (iSeq (eVar 1)) (gNm 4)
    (sSeq (sFor (iSeq (eCall 1 m_changes_of (aCons (eVar 4) aNil))) (gNm 5)
    (sExpr (eCall 2 m_put_change (aCons (eVar 2) (aCons (eVar 5) aNil)))))
    (sExpr (mL apF (eVar 3) (aCons (eCall 1 m_pairs_of (aCons (eVar 2) aNil)) aNil)))))
    (sRet (eVar 3)))))
noncomputable def m_all_tables : List PV → Sto → ER PV := runT 6 b_all_tables
theorem ok_all_tables (T : Txt K mg) : FnOk P w K mg base (L2N.CX P w) 2 T.f_all_tables T.fd_all_tables ["table", "log"] (spM (gb K mg) 2 m_all_tables) :=
  (okX T.F_all_tables sc_all_tables rfl rfl fun cdv A outer s H E hr tk hp => by
    unfold b_all_tables
    exact (vss_cons (vs_set (i := 2) sc_all_tables.nd rfl (Or.inl rfl) (ve_callD (G := gb K mg) (vc_dictA rfl) (by rfl) T.z_dict Tc.boot_dict (va_cons (ve_var 0 (pn 0)) va_nil)))
      (vss_cons (vs_set (i := 3) sc_all_tables.nd rfl (Or.inl rfl) (ve_new (vn_lst (va_cons (ve_call (ok_pairs_of T) hr (by rfl) T.g_pairs_of T.F_pairs_of.kp T.b_pairs_of (L2N.passAt tk) (va_cons (ve_var 2 (pn 2)) va_nil)) va_nil))))
      (vss_cons (vs_for hp rfl (vi_seq (ve_var 1 (pn 1))) (vg_A (vg_name (pg_name (i := 4) sc_all_tables.nd rfl (Or.inl rfl))))
      (vss_cons (vs_for hp rfl (vi_seq (ve_call (ok_changes_of T) hr (by rfl) T.g_changes_of T.F_changes_of.kp T.b_changes_of (L2N.passAt tk) (va_cons (ve_var 4 (pn 4)) va_nil))) (vg_A (vg_name (pg_name (i := 5) sc_all_tables.nd rfl (Or.inl rfl))))
      (vss_one (vs_expr (ve_call (ok_put_change T) hr (by rfl) T.g_put_change T.F_put_change.kp T.b_put_change (L2N.passAt tk) (va_cons (ve_var 2 (pn 2)) (va_cons (ve_var 5 (pn 5)) va_nil))))))
      (vss_one (vs_expr (ve_mL (pe_bm PySem.F.plainAttrs_list PySem.F.slot_list_append PySem.F.type_list_append (vm_append (G := gb K mg)) (ve_var 3 (pn 3)) (va_cons (ve_call (ok_pairs_of T) hr (by rfl) T.g_pairs_of T.F_pairs_of.kp T.b_pairs_of (L2N.passAt tk) (va_cons (ve_var 2 (pn 2)) va_nil)) va_nil)))))))
      (vss_one (vs_ret (ve_var 3 (pn 3)))))))).imp fun vs H Q E h => spT h
noncomputable def b_changed : MS := (sSeq (sExpr (eCall 3 m_need_place (aCons (eVar 1) (aCons (eC (.int 0)) (aCons (eCB (oneF lenG) (aCons (eVar 0) aNil)) aNil)))))
    (sSeq (sExpr (eCall 3 m_need_place (aCons (eVar 2) (aCons (eC (.int 0)) (aCons (eCB (oneF lenG) (aCons (eVar 0) aNil)) aNil)))))
    (sRet (eFl (nSortC (α := Unit) (iSeq (eSl (eVar 0) (oSome (eVar 1)) (oSome (eVar 2)))) (bN1 3) yesT (putIn (iSeq (eCall 1 m_changes_of (aCons (eVar 3) aNil))) (bN1 4) yesT (putS (eOp ixP (eVar 4) (eC (.int 1)))) [4]) [3, 4])))))
noncomputable def m_changed : List PV → Sto → ER PV := runB 5 b_changed
theorem ok_changed (T : Txt K mg) : FnOk P w K mg base (L2N.CX P w) 2 T.f_changed T.fd_changed ["log", "low", "high"] (spM (gb K mg) 3 m_changed) :=
  okX T.F_changed sc_changed rfl rfl fun cdv A outer s H E hr tk hp => by
    unfold b_changed
    exact (vss_cons (vs_expr (ve_call (ok_need_place T) hr (by rfl) T.g_need_place T.F_need_place.kp T.b_need_place (L2N.passAt tk) (va_cons (ve_var 1 (pn 1)) (va_cons (ve_c pe_int fun _ => .int _) (va_cons (ve_callB vc_len (by rfl) T.z_len Tc.boot_len (va_cons (ve_var 0 (pn 0)) va_nil)) va_nil)))))
      (vss_cons (vs_expr (ve_call (ok_need_place T) hr (by rfl) T.g_need_place T.F_need_place.kp T.b_need_place (L2N.passAt tk) (va_cons (ve_var 2 (pn 2)) (va_cons (ve_c pe_int fun _ => .int _) (va_cons (ve_callB vc_len (by rfl) T.z_len Tc.boot_len (va_cons (ve_var 0 (pn 0)) va_nil)) va_nil)))))
      (vss_one (vs_ret (ve_fl (vn_sortC2 (G := gb K mg) (own := [("entry", 3), ("change", 4)]) (vs1 := [4]) rfl (by rfl) T.z_sorted sc_changed.nd (vi_seq (ve_sl (ve_var 0 (pn 0)) (vp_some (ve_var 1 (pn 1))) (vp_some (ve_var 2 (pn 2))))) (blkOk_by (own := [("entry", 3), ("change", 4)]) (N := ["log", "low", "high", "entry", "change"]) (sc := defScope s_changed) (by decide +kernel)) (fun _ _ _ _ _ => by exact (pg_name (i := 3) sc_changed.nd rfl (Or.inl rfl))) (fun _ _ _ _ _ => by exact vts_nil) (fun _ _ _ _ _ => by exact (vi_seq (ve_call (ok_changes_of T) hr (by rfl) T.g_changes_of T.F_changes_of.kp T.b_changes_of (fun σ => passN) (va_cons (ve_var 3 (pn 3)) va_nil)))) (fun _ _ _ _ _ => by exact (pg_name (i := 4) sc_changed.nd rfl (Or.inl rfl))) (fun _ _ _ _ _ => by exact vts_nil) (fun _ _ _ _ _ => by exact (ve_ix (G := gb K mg) hr.units (ve_var 4 (pn 4)) (ve_c pe_int fun _ => .int _) (fun _ _ => rfl))) (ct_name (i := 3)) (fun _ _ _ _ _ _ r => r) (ct_name (i := 4)) (fun _ _ _ _ _ _ r => r)))))))
noncomputable def b_due_changes : MS := (sSeq (sSet 2 (eNew (nLst aNil)))
    (sSeq (sFor (iEnu (aCons (eVar 0) aNil)) (gPr (gCn (gNm 3) (gCn (gNm 4) gN0)))
    (sIf (tOf (eOp geP (eVar 3) (eVar 1)))
    (sFor (iSeq (eCall 1 m_changes_of (aCons (eVar 4) aNil))) (gSt3 (gCn (gNm 5) (gCn (gNm 6) (gCn (gNm 7) gN0))))
    (sExpr (mL apF (eVar 2) (aCons (eTup (aCons (eOp addP (eVar 3) (eC (.int 1))) (aCons (eVar 5) (aCons (eVar 6) (aCons (eIf (tOf (eOp eqP (eVar 5) (eC (.str "put")))) (eOp ixP (eVar 7) (eC (.int 0))) (eC .non)) aNil))))) aNil))))
    sNil))
    (sRet (eVar 2))))
noncomputable def m_due_changes : List PV → Sto → ER PV := runB 8 b_due_changes
theorem ok_due_changes (T : Txt K mg) : FnOk P w K mg base (L2N.CX P w) 2 T.f_due_changes T.fd_due_changes ["log", "start"] (spM (gb K mg) 2 m_due_changes) :=
  okX T.F_due_changes sc_due_changes rfl rfl fun cdv A outer s H E hr tk hp => by
    unfold b_due_changes
    exact (vss_cons (vs_set (i := 2) sc_due_changes.nd rfl (Or.inl rfl) (ve_new (vn_lst va_nil)))
      (vss_cons (vs_for hp rfl (vi_enu (by rfl) T.z_enumerate (va_cons (ve_var 0 (pn 0)) va_nil)) (vg_B rfl (vgs_cons (vg_name (pg_name (i := 3) sc_due_changes.nd rfl (Or.inl rfl))) (vgs_cons (vg_name (pg_name (i := 4) sc_due_changes.nd rfl (Or.inl rfl))) vgs_nil)))
      (vss_one (vs_if (vt_cmp vo_ge (ve_var 3 (pn 3)) (ve_var 1 (pn 1)) (nomark _))
      (vss_one (vs_for hp rfl (vi_seq (ve_call (ok_changes_of T) hr (by rfl) T.g_changes_of T.F_changes_of.kp T.b_changes_of (L2N.passAt tk) (va_cons (ve_var 4 (pn 4)) va_nil))) (vg_A (vg_star3 rfl (vgs_cons (vg_name (pg_name (i := 5) sc_due_changes.nd rfl (Or.inl rfl))) (vgs_cons (vg_name (pg_name (i := 6) sc_due_changes.nd rfl (Or.inl rfl))) (vgs_cons (vg_name (pg_name (i := 7) sc_due_changes.nd rfl (Or.inl rfl))) vgs_nil)))))
      (vss_one (vs_expr (ve_mL (pe_bm PySem.F.plainAttrs_list PySem.F.slot_list_append PySem.F.type_list_append (vm_append (G := gb K mg)) (ve_var 2 (pn 2)) (va_cons (ve_tup (G := gb K mg) (va_cons (ve_op (G := gb K mg) vo_add (ve_var 3 (pn 3)) (ve_c pe_int fun _ => .int _)) (va_cons (ve_var 5 (pn 5)) (va_cons (ve_var 6 (pn 6)) (va_cons (ve_if (vt_cmp (vo_eq hr.units) (ve_var 5 (pn 5)) (ve_c pe_str fun _ => .str _) (nomark _)) (ve_ix (G := gb K mg) hr.units (ve_var 7 (pn 7)) (ve_c pe_int fun _ => .int _) (fun _ _ => rfl)) (ve_c pe_non fun _ => .non)) va_nil))))) va_nil)))))))
      vss_nil)))
      (vss_one (vs_ret (ve_var 2 (pn 2))))))
def b__law_of : MS := (sRet (eOp ixP (eVar 1) (eCall 2 m__law_take (aCons (eVar 0) (aCons (eCB (oneF lenG) (aCons (eVar 1) aNil)) aNil)))))
def m__law_of : List PV → Sto → ER PV := runB 2 b__law_of
theorem ok__law_of (T : Txt K mg) : FnOk P w K mg base (L2N.CX P w) 2 T.f__law_of T.fd__law_of ["bag", "some"] (spM (gb K mg) 2 m__law_of) :=
  okX T.F__law_of sc__law_of rfl rfl fun cdv A outer s H E hr tk hp => by
    unfold b__law_of
    exact (vss_one (vs_ret (ve_ix (G := gb K mg) hr.units (ve_var 1 (pn 1)) (ve_call (ok__law_take T) hr (by rfl) T.g__law_take T.F__law_take.kp T.b__law_take (L2N.passAt tk) (va_cons (ve_var 0 (pn 0)) (va_cons (ve_callB vc_len (by rfl) T.z_len Tc.boot_len (va_cons (ve_var 1 (pn 1)) va_nil)) va_nil))) (fun _ _ => rfl))))
noncomputable def b__law_keys : MS := (sSeq (sSet 1 (eOp ixP (eFl (nLst (aCons (eC (.int 1)) (aCons (eC (.int 2)) (aCons (eC (.int 7)) (aCons (eC (.int 90)) aNil)))))) (eCall 2 m__law_take (aCons (eVar 0) (aCons (eC (.int 4)) aNil)))))
    (sSeq (sSet 2 (eCall 2 m__law_take (aCons (eVar 0) (aCons (eOp subP (eC (.int 1000)) (eOp mulP (eC (.int 9)) (eVar 1))) aNil))))
    (sRet (eFl (nSortU (aCons (eOp addP (eFl (nLc (iRng1 (aCons (eC (.int 10)) aNil)) (bN1 3) yesT (eOp addP (eVar 2) (eOp mulP (eVar 1) (eVar 3))) [3])) (eFl (nLst (aCons (eC (.int 0)) (aCons (eC (.int 999)) aNil))))) aNil))))))
noncomputable def m__law_keys : List PV → Sto → ER PV := runB 4 b__law_keys
theorem ok__law_keys (T : Txt K mg) : FnOk P w K mg base (L2N.CX P w) 2 T.f__law_keys T.fd__law_keys ["bag"] (spM (gb K mg) 1 m__law_keys) :=
  okX T.F__law_keys sc__law_keys rfl rfl fun cdv A outer s H E hr tk hp => by
    unfold b__law_keys
    exact (vss_cons (vs_set (i := 1) sc__law_keys.nd rfl (Or.inr rfl) (ve_ix (G := gb K mg) hr.units (ve_fl (vn_lst (va_cons (ve_c pe_int fun _ => .int _) (va_cons (ve_c pe_int fun _ => .int _) (va_cons (ve_c pe_int fun _ => .int _) (va_cons (ve_c pe_int fun _ => .int _) va_nil)))))) (ve_call (ok__law_take T) hr (by rfl) T.g__law_take T.F__law_take.kp T.b__law_take (L2N.passAt tk) (va_cons (ve_var 0 (pn 0)) (va_cons (ve_c pe_int fun _ => .int _) va_nil))) (fun _ _ => rfl)))
      (vss_cons (vs_set (i := 2) sc__law_keys.nd rfl (Or.inr rfl) (ve_call (ok__law_take T) hr (by rfl) T.g__law_take T.F__law_take.kp T.b__law_take (L2N.passAt tk) (va_cons (ve_var 0 (pn 0)) (va_cons (ve_op (G := gb K mg) vo_sub (ve_c pe_int fun _ => .int _) (ve_op (G := gb K mg) vo_mul (ve_c pe_int fun _ => .int _) (ve_var 1 (pn 1)))) va_nil))))
      (vss_one (vs_ret (ve_fl (vn_sortU rfl (by rfl) T.z_sorted (by rfl) T.z_set (va_cons (ve_op (G := gb K mg) vo_add (ve_fl (vn_lc (G := gb K mg) (own := [("at", 3)]) rfl sc__law_keys.nd (vi_rng1 (by rfl) T.z_range (va_cons (ve_c pe_int fun _ => .int _) va_nil)) (blkOk_by (own := [("at", 3)]) (N := ["bag", "step", "first", "at"]) (sc := defScope s__law_keys) (by decide +kernel)) (fun _ _ _ _ _ => by exact (pg_name (i := 3) sc__law_keys.nd rfl (Or.inl rfl))) (fun _ _ _ _ _ => by exact vts_nil) (fun _ _ _ _ _ => by exact (ve_op (G := gb K mg) vo_add (ve_var 2 (pn 2)) (ve_op (G := gb K mg) vo_mul (ve_var 1 (pn 1)) (ve_var 3 (pn 3))))) (ct_name (i := 3)) (fun _ _ _ _ _ _ r => r))) (ve_fl (vn_lst (va_cons (ve_c pe_int fun _ => .int _) (va_cons (ve_c pe_int fun _ => .int _) va_nil))))) va_nil)))))))
noncomputable def b__law_table : MS := (sRet (eCB (oneF tupG) (aCons (eFl (nLc (iSeq (eVar 1)) (bN1 2) (tOf (eOp gtP (eCall 2 m__law_take (aCons (eVar 0) (aCons (eC (.int 3)) aNil))) (eC (.int 0)))) (eTup (aCons (eVar 2) (aCons (eCall 2 m__law_take (aCons (eVar 0) (aCons (eC (.int 1000)) aNil))) aNil))) [2])) aNil)))
noncomputable def m__law_table : List PV → Sto → ER PV := runB 3 b__law_table
theorem ok__law_table (T : Txt K mg) : FnOk P w K mg base (L2N.CX P w) 2 T.f__law_table T.fd__law_table ["bag", "keys"] (spM (gb K mg) 2 m__law_table) :=
  okX T.F__law_table sc__law_table rfl rfl fun cdv A outer s H E hr tk hp => by
    unfold b__law_table
    exact (vss_one (vs_ret (ve_callT vc_tup (by rfl) T.z_tuple Tc.boot_tuple (va_cons (ve_fl (vn_lc (G := gb K mg) (own := [("key", 2)]) rfl sc__law_table.nd (vi_seq (ve_var 1 (pn 1))) (blkOk_by (own := [("key", 2)]) (N := ["bag", "keys", "key"]) (sc := defScope s__law_table) (by decide +kernel)) (fun _ _ _ _ _ => by exact (pg_name (i := 2) sc__law_table.nd rfl (Or.inl rfl))) (fun _ _ _ _ _ => by exact (vts_one (vt_cmp vo_gt (ve_call (ok__law_take T) hr (by rfl) T.g__law_take T.F__law_take.kp T.b__law_take (fun σ => passN) (va_cons (ve_var 0 (pn 0)) (va_cons (ve_c pe_int fun _ => .int _) va_nil))) (ve_c pe_int fun _ => .int _) (nomark _)))) (fun _ _ _ _ _ => by exact (ve_tup (G := gb K mg) (va_cons (ve_var 2 (pn 2)) (va_cons (ve_call (ok__law_take T) hr (by rfl) T.g__law_take T.F__law_take.kp T.b__law_take (fun σ => passN) (va_cons (ve_var 0 (pn 0)) (va_cons (ve_c pe_int fun _ => .int _) va_nil))) va_nil)))) (ct_name (i := 2)) (fun _ _ _ _ _ _ r => r))) va_nil))))
noncomputable def b__law_at : MS := (sSeq (sSet 3 (eDB (oneF dictA) (aCons (eVar 0) aNil)))
    (sSeq (sFor (iSeq (eSl (eCall 1 m__law_groups (aCons (eVar 1) aNil)) oNone (oSome (eVar 2)))) (gNm 4)
    (sExpr (eCall 2 m__law_done (aCons (eVar 3) (aCons (eVar 4) aNil)))))
    (sRet (eCall 1 m__law_pairs (aCons (eVar 3) aNil)))))
noncomputable def m__law_at : List PV → Sto → ER PV := runT 5 b__law_at
theorem ok__law_at (T : Txt K mg) : FnOk P w K mg base (L2N.CX P w) 2 T.f__law_at T.fd__law_at ["table", "log", "place"] (spM (gb K mg) 3 m__law_at) :=
  (okX T.F__law_at sc__law_at rfl rfl fun cdv A outer s H E hr tk hp => by
    unfold b__law_at
    exact (vss_cons (vs_set (i := 3) sc__law_at.nd rfl (Or.inl rfl) (ve_callD (G := gb K mg) (vc_dictA rfl) (by rfl) T.z_dict Tc.boot_dict (va_cons (ve_var 0 (pn 0)) va_nil)))
      (vss_cons (vs_for hp rfl (vi_seq (ve_sl (ve_call (ok__law_groups T) hr (by rfl) T.g__law_groups T.F__law_groups.kp T.b__law_groups (L2N.passAt tk) (va_cons (ve_var 1 (pn 1)) va_nil)) vp_none (vp_some (ve_var 2 (pn 2))))) (vg_A (vg_name (pg_name (i := 4) sc__law_at.nd rfl (Or.inl rfl))))
      (vss_one (vs_expr (ve_call (ok__law_done T) hr (by rfl) T.g__law_done T.F__law_done.kp T.b__law_done (L2N.passAt tk) (va_cons (ve_var 3 (pn 3)) (va_cons (ve_var 4 (pn 4)) va_nil))))))
      (vss_one (vs_ret (ve_call (ok__law_pairs T) hr (by rfl) T.g__law_pairs T.F__law_pairs.kp T.b__law_pairs (L2N.passAt tk) (va_cons (ve_var 3 (pn 3)) va_nil))))))).imp fun vs H Q E h => spT h
noncomputable def b__law_moved : MS := (sSeq (sSet 3 eDNew)
    (sSeq (sFor (iSeq (eSl (eCall 1 m__law_groups (aCons (eVar 0) aNil)) (oSome (eVar 1)) (oSome (eVar 2)))) (gNm 4)
    (sFor (iSeq (eVar 4)) (gNm 5)
    (sAsg (eC (.bl true)) (gIx (eVar 3) (eOp ixP (eVar 5) (eC (.int 1)))))))
    (sRet (eVar 3))))
noncomputable def m__law_moved : List PV → Sto → ER PV := runT 6 b__law_moved
theorem ok__law_moved (T : Txt K mg) : FnOk P w K mg base (L2N.CX P w) 2 T.f__law_moved T.fd__law_moved ["log", "low", "high"] (spM (gb K mg) 3 m__law_moved) :=
  (okX T.F__law_moved sc__law_moved rfl rfl fun cdv A outer s H E hr tk hp => by
    unfold b__law_moved
    exact (vss_cons (vs_set (i := 3) sc__law_moved.nd rfl (Or.inl rfl) (ve_dnew pe_dnewK))
      (vss_cons (vs_for hp rfl (vi_seq (ve_sl (ve_call (ok__law_groups T) hr (by rfl) T.g__law_groups T.F__law_groups.kp T.b__law_groups (L2N.passAt tk) (va_cons (ve_var 0 (pn 0)) va_nil)) (vp_some (ve_var 1 (pn 1))) (vp_some (ve_var 2 (pn 2))))) (vg_A (vg_name (pg_name (i := 4) sc__law_moved.nd rfl (Or.inl rfl))))
      (vss_one (vs_for hp rfl (vi_seq (ve_var 4 (pn 4))) (vg_A (vg_name (pg_name (i := 5) sc__law_moved.nd rfl (Or.inl rfl))))
      (vss_one (vs_asg (ve_c pe_bl fun _ => .bl _) (vg_ix (Wx := fun cls d _ H => E cls d H) hr.units (ve_var 3 (pn 3)) (ve_ix (G := gb K mg) hr.units (ve_var 5 (pn 5)) (ve_c pe_int fun _ => .int _) (fun _ _ => rfl))))))))
      (vss_one (vs_ret (ve_var 3 (pn 3))))))).imp fun vs H Q E h => spT h
noncomputable def b_is_copy : MS := (sSeq (sAsg (eVar 3) (gTp 4 (gCn (gNm 4) (gCn (gNm 5) (gCn (gNm 6) (gCn (gNm 7) gN0))))))
    (sSeq (sIf (tOrP (tNotP (tOf (eChain leP leP (eVar 2) (eVar 4) (eCB (oneF lenG) (aCons (eVar 1) aNil))))) (tOf (eOp inP (eVar 6) (eCall 3 m_changed (aCons (eVar 1) (aCons (eVar 2) (aCons (eVar 4) aNil)))))))
    (sRet (eC (.bl false)))
    sNil)
    (sRet (eOp inP (eTup (aCons (eVar 6) (aCons (eVar 7) aNil))) (eOp ixP (eVar 0) (eVar 4))))))
noncomputable def m_is_copy : List PV → Sto → ER PV := runB 8 b_is_copy
theorem ok_is_copy (T : Txt K mg) : FnOk P w K mg base (L2N.CX P w) 3 T.f_is_copy T.fd_is_copy ["tables", "log", "start", "event"] (spM (gb K mg) 4 m_is_copy) :=
  okX T.F_is_copy sc_is_copy rfl rfl fun cdv A outer s H E hr tk hp => by
    unfold b_is_copy
    exact (vss_cons (vs_asg (ve_var 3 (pn 3)) (vg_tup rfl (vgs_cons (vg_name (pg_name (i := 4) sc_is_copy.nd rfl (Or.inl rfl))) (vgs_cons (vg_name (pg_name (i := 5) sc_is_copy.nd rfl (Or.inl rfl))) (vgs_cons (vg_name (pg_name (i := 6) sc_is_copy.nd rfl (Or.inl rfl))) (vgs_cons (vg_name (pg_name (i := 7) sc_is_copy.nd rfl (Or.inl rfl))) vgs_nil))))))
      (vss_cons (vs_if (PW.pt (vw_or (vt_not (vt_chain vo_le vo_le (ve_var 2 (pn 2)) (ve_var 4 (pn 4)) (ve_callB vc_len (by rfl) T.z_len Tc.boot_len (va_cons (ve_var 1 (pn 1)) va_nil)))) (vw_or1 (vt_cmp (vo_in hr.units) (ve_var 6 (pn 6)) (ve_call (ok_changed T) hr (by rfl) T.g_changed T.F_changed.kp T.b_changed (L2N.passAt tk) (va_cons (ve_var 1 (pn 1)) (va_cons (ve_var 2 (pn 2)) (va_cons (ve_var 4 (pn 4)) va_nil)))) (by rfl)))))
      (vss_one (vs_ret (ve_c pe_bl fun _ => .bl _)))
      vss_nil)
      (vss_one (vs_ret (ve_cmp (vo_in hr.units) (ve_tup (G := gb K mg) (va_cons (ve_var 6 (pn 6)) (va_cons (ve_var 7 (pn 7)) va_nil))) (ve_ix (G := gb K mg) hr.units (ve_var 0 (pn 0)) (ve_var 4 (pn 4)) (fun _ _ => rfl)) (by rfl))))))
noncomputable def b__law_changes : MS := (sSeq (sSet 3 (eNew (nLst aNil)))
    (sSeq (sFor (iRng1 (aCons (eOp addP (eC (.int 1)) (eCall 2 m__law_take (aCons (eVar 0) (aCons (eVar 2) aNil)))) aNil)) (gNm 4)
    (sSeq (sSet 5 (eCall 2 m__law_of (aCons (eVar 0) (aCons (eVar 1) aNil))))
    (sIf (tOf (eOp eqP (eCall 2 m__law_take (aCons (eVar 0) (aCons (eC (.int 3)) aNil))) (eC (.int 0))))
    (sExpr (mL apF (eVar 3) (aCons (eTup (aCons (eC (.str "drop")) (aCons (eVar 5) aNil))) aNil)))
    (sExpr (mL apF (eVar 3) (aCons (eTup (aCons (eC (.str "put")) (aCons (eVar 5) (aCons (eOp ixP (eFl (nLst (aCons (eCall 2 m__law_take (aCons (eVar 0) (aCons (eC (.int 1000)) aNil))) (aCons (eCall 2 m__law_take (aCons (eVar 0) (aCons (eC (.int 3)) aNil))) aNil)))) (eCall 2 m__law_take (aCons (eVar 0) (aCons (eC (.int 2)) aNil)))) aNil)))) aNil))))))
    (sRet (eCB (oneF tupG) (aCons (eVar 3) aNil)))))
noncomputable def m__law_changes : List PV → Sto → ER PV := runT 6 b__law_changes
theorem ok__law_changes (T : Txt K mg) : FnOk P w K mg base (L2N.CX P w) 3 T.f__law_changes T.fd__law_changes ["bag", "keys", "most"] (spM (gb K mg) 3 m__law_changes) :=
  (okX T.F__law_changes sc__law_changes rfl rfl fun cdv A outer s H E hr tk hp => by
    unfold b__law_changes
    exact (vss_cons (vs_set (i := 3) sc__law_changes.nd rfl (Or.inl rfl) (ve_new (vn_lst va_nil)))
      (vss_cons (vs_for hp rfl (vi_rng1 (by rfl) T.z_range (va_cons (ve_op (G := gb K mg) vo_add (ve_c pe_int fun _ => .int _) (ve_call (ok__law_take T) (hr.mono (by decide)) (by rfl) T.g__law_take T.F__law_take.kp T.b__law_take (L2N.passAt tk) (va_cons (ve_var 0 (pn 0)) (va_cons (ve_var 2 (pn 2)) va_nil)))) va_nil)) (vg_A (vg_name (pg_name (i := 4) sc__law_changes.nd rfl (Or.inl rfl))))
      (vss_cons (vs_set (i := 5) sc__law_changes.nd rfl (Or.inl rfl) (ve_call (ok__law_of T) hr (by rfl) T.g__law_of T.F__law_of.kp T.b__law_of (L2N.passAt tk) (va_cons (ve_var 0 (pn 0)) (va_cons (ve_var 1 (pn 1)) va_nil))))
      (vss_one (vs_if (vt_cmp (vo_eq hr.units) (ve_call (ok__law_take T) (hr.mono (by decide)) (by rfl) T.g__law_take T.F__law_take.kp T.b__law_take (L2N.passAt tk) (va_cons (ve_var 0 (pn 0)) (va_cons (ve_c pe_int fun _ => .int _) va_nil))) (ve_c pe_int fun _ => .int _) (nomark _))
      (vss_one (vs_expr (ve_mL (pe_bm PySem.F.plainAttrs_list PySem.F.slot_list_append PySem.F.type_list_append (vm_append (G := gb K mg)) (ve_var 3 (pn 3)) (va_cons (ve_tup (G := gb K mg) (va_cons (ve_c pe_str fun _ => .str _) (va_cons (ve_var 5 (pn 5)) va_nil))) va_nil)))))
      (vss_one (vs_expr (ve_mL (pe_bm PySem.F.plainAttrs_list PySem.F.slot_list_append PySem.F.type_list_append (vm_append (G := gb K mg)) (ve_var 3 (pn 3)) (va_cons (ve_tup (G := gb K mg) (va_cons (ve_c pe_str fun _ => .str _) (va_cons (ve_var 5 (pn 5)) (va_cons (ve_ix (G := gb K mg) hr.units (ve_fl (vn_lst (va_cons (ve_call (ok__law_take T) (hr.mono (by decide)) (by rfl) T.g__law_take T.F__law_take.kp T.b__law_take (L2N.passAt tk) (va_cons (ve_var 0 (pn 0)) (va_cons (ve_c pe_int fun _ => .int _) va_nil))) (va_cons (ve_call (ok__law_take T) (hr.mono (by decide)) (by rfl) T.g__law_take T.F__law_take.kp T.b__law_take (L2N.passAt tk) (va_cons (ve_var 0 (pn 0)) (va_cons (ve_c pe_int fun _ => .int _) va_nil))) va_nil)))) (ve_call (ok__law_take T) (hr.mono (by decide)) (by rfl) T.g__law_take T.F__law_take.kp T.b__law_take (L2N.passAt tk) (va_cons (ve_var 0 (pn 0)) (va_cons (ve_c pe_int fun _ => .int _) va_nil))) (fun _ _ => rfl)) va_nil)))) va_nil)))))))))
      (vss_one (vs_ret (ve_callT vc_tup (by rfl) T.z_tuple Tc.boot_tuple (va_cons (ve_var 3 (pn 3)) va_nil))))))).imp fun vs H Q E h => spT h
noncomputable def b__law_wrong_at : MS := (sSeq (sSet 4 (eNew (nLst aNil)))
    (sSeq (sFor (iEnu (aCons (eCall 1 m__law_groups (aCons (eVar 1) aNil)) aNil)) (gPr (gCn (gNm 5) (gCn (gNm 6) gN0)))
    (sIf (tOf (eOp geP (eVar 5) (eVar 3)))
    (sSet 4 (eNew (nCat (eVar 4) (eFl (nLc (iSeq (eVar 6)) (bN1 14) yesT (eOp addP (eOp addP (eTup (aCons (eOp addP (eVar 5) (eC (.int 1))) aNil)) (eSl (eVar 14) oNone (oSome (eC (.int 2))))) (eTup (aCons (eOp ixP (eOp addP (eVar 14) (eTup (aCons (eC .non) aNil))) (eC (.int 2))) aNil))) [14])))))
    sNil))
    (sSeq (sSet 7 (eNew (nLst aNil)))
    (sSeq (sSet 8 (eVar 3))
    (sSeq (sFor (iEnu (aCons (eVar 2) aNil)) (gPr (gCn (gNm 5) (gCn (gNm 9) gN0)))
    (sSeq (sAsg (eVar 9) (gTp 4 (gCn (gNm 10) (gCn (gNm 11) (gCn (gNm 12) (gCn (gNm 13) gN0))))))
    (sSeq (sIf (tOf (eOp ltP (eVar 10) (eVar 8)))
    (sRet (eVar 5))
    sNil)
    (sSeq (sIf (tOf (eOp eqP (eVar 11) (eC (.str "copy"))))
    (sSeq (sIf (tOrP (tOf (eOp gtP (eVar 10) (eCB (oneF lenG) (aCons (eVar 1) aNil)))) (tOrP (tOf (eOp inP (eVar 12) (eCall 3 m__law_moved (aCons (eVar 1) (aCons (eVar 3) (aCons (eVar 10) aNil)))))) (tOf (eOp inP (eVar 12) (eVar 7)))))
    (sRet (eVar 5))
    sNil)
    (sSeq (sIf (tOf (eOp notinP (eTup (aCons (eVar 12) (aCons (eVar 13) aNil))) (eCall 3 m__law_at (aCons (eVar 0) (aCons (eVar 1) (aCons (eVar 10) aNil))))))
    (sRet (eVar 5))
    sNil)
    (sExpr (mL apF (eVar 7) (aCons (eVar 12) aNil)))))
    (sIf (tOrP (tOf (eOp eqP (eVar 4) (eFl (nLst aNil)))) (tOf (eOp neP (mL popAtF (eVar 4) (aCons (eC (.int 0)) aNil)) (eVar 9))))
    (sRet (eVar 5))
    sNil))
    (sSet 8 (eVar 10))))))
    (sRet (eC .non)))))))
noncomputable def m__law_wrong_at : List PV → Sto → ER PV := runT 15 b__law_wrong_at
theorem ok__law_wrong_at (T : Txt K mg) : FnOk P w K mg base (L2N.CX P w) 3 T.f__law_wrong_at T.fd__law_wrong_at ["table", "log", "events", "sta1"] (spM (gb K mg) 4 m__law_wrong_at) :=
  (okX T.F__law_wrong_at sc__law_wrong_at rfl rfl fun cdv A outer s H E hr tk hp => by
    unfold b__law_wrong_at
    exact (vss_cons (vs_set (i := 4) sc__law_wrong_at.nd rfl (Or.inl rfl) (ve_new (vn_lst va_nil)))
      (vss_cons (vs_for hp rfl (vi_enu (by rfl) T.z_enumerate (va_cons (ve_call (ok__law_groups T) (hr.mono (by decide)) (by rfl) T.g__law_groups T.F__law_groups.kp T.b__law_groups (L2N.passAt tk) (va_cons (ve_var 1 (pn 1)) va_nil)) va_nil)) (vg_B rfl (vgs_cons (vg_name (pg_name (i := 5) sc__law_wrong_at.nd rfl (Or.inr rfl))) (vgs_cons (vg_name (pg_name (i := 6) sc__law_wrong_at.nd rfl (Or.inl rfl))) vgs_nil)))
      (vss_one (vs_if (vt_cmp vo_ge (ve_var 5 (pn 5)) (ve_var 3 (pn 3)) (nomark _))
      (vss_one (vs_set (i := 4) sc__law_wrong_at.nd rfl (Or.inl rfl) (ve_new (vn_cat (ve_var 4 (pn 4)) (ve_fl (vn_lc (G := gb K mg) (own := [("change", 14)]) rfl sc__law_wrong_at.nd (vi_seq (ve_var 6 (pn 6))) (blkOk_by (own := [("change", 14)]) (N := ["table", "log", "events", "sta1", "due", "at", "changes", "copied", "last", "event", "place", "word", "key", "worth", "change"]) (sc := defScope s__law_wrong_at) (by decide +kernel)) (fun _ _ _ _ _ => by exact (pg_name (i := 14) sc__law_wrong_at.nd rfl (Or.inl rfl))) (fun _ _ _ _ _ => by exact vts_nil) (fun _ _ _ _ _ => by exact (ve_op (G := gb K mg) vo_add (ve_op (G := gb K mg) vo_add (ve_tup (G := gb K mg) (va_cons (ve_op (G := gb K mg) vo_add (ve_var 5 (pn 5)) (ve_c pe_int fun _ => .int _)) va_nil)) (ve_sl (ve_var 14 (pn 14)) vp_none (vp_some (ve_c pe_int fun _ => .int _)))) (ve_tup (G := gb K mg) (va_cons (ve_ix (G := gb K mg) hr.units (ve_op (G := gb K mg) vo_add (ve_var 14 (pn 14)) (ve_tup (G := gb K mg) (va_cons (ve_c pe_non fun _ => .non) va_nil))) (ve_c pe_int fun _ => .int _) (fun _ _ => rfl)) va_nil)))) (ct_name (i := 14)) (fun _ _ _ _ _ _ r => r)))))))
      vss_nil)))
      (vss_cons (vs_set (i := 7) sc__law_wrong_at.nd rfl (Or.inl rfl) (ve_new (vn_lst va_nil)))
      (vss_cons (vs_set (i := 8) sc__law_wrong_at.nd rfl (Or.inl rfl) (ve_var 3 (pn 3)))
      (vss_cons (vs_for hp rfl (vi_enu (by rfl) T.z_enumerate (va_cons (ve_var 2 (pn 2)) va_nil)) (vg_B rfl (vgs_cons (vg_name (pg_name (i := 5) sc__law_wrong_at.nd rfl (Or.inr rfl))) (vgs_cons (vg_name (pg_name (i := 9) sc__law_wrong_at.nd rfl (Or.inl rfl))) vgs_nil)))
      (vss_cons (vs_asg (ve_var 9 (pn 9)) (vg_tup rfl (vgs_cons (vg_name (pg_name (i := 10) sc__law_wrong_at.nd rfl (Or.inl rfl))) (vgs_cons (vg_name (pg_name (i := 11) sc__law_wrong_at.nd rfl (Or.inl rfl))) (vgs_cons (vg_name (pg_name (i := 12) sc__law_wrong_at.nd rfl (Or.inl rfl))) (vgs_cons (vg_name (pg_name (i := 13) sc__law_wrong_at.nd rfl (Or.inl rfl))) vgs_nil))))))
      (vss_cons (vs_if (vt_cmp vo_lt (ve_var 10 (pn 10)) (ve_var 8 (pn 8)) (nomark _))
      (vss_one (vs_ret (ve_var 5 (pn 5))))
      vss_nil)
      (vss_cons (vs_if (vt_cmp (vo_eq hr.units) (ve_var 11 (pn 11)) (ve_c pe_str fun _ => .str _) (nomark _))
      (vss_cons (vs_if (PW.pt (vw_or (vt_cmp vo_gt (ve_var 10 (pn 10)) (ve_callB vc_len (by rfl) T.z_len Tc.boot_len (va_cons (ve_var 1 (pn 1)) va_nil)) (nomark _)) (vw_or (vt_cmp (vo_in hr.units) (ve_var 12 (pn 12)) (ve_call (ok__law_moved T) hr (by rfl) T.g__law_moved T.F__law_moved.kp T.b__law_moved (L2N.passAt tk) (va_cons (ve_var 1 (pn 1)) (va_cons (ve_var 3 (pn 3)) (va_cons (ve_var 10 (pn 10)) va_nil)))) (by rfl)) (vw_or1 (vt_cmp (vo_in hr.units) (ve_var 12 (pn 12)) (ve_var 7 (pn 7)) (by rfl))))))
      (vss_one (vs_ret (ve_var 5 (pn 5))))
      vss_nil)
      (vss_cons (vs_if (vt_cmp (vo_notin hr.units) (ve_tup (G := gb K mg) (va_cons (ve_var 12 (pn 12)) (va_cons (ve_var 13 (pn 13)) va_nil))) (ve_call (ok__law_at T) hr (by rfl) T.g__law_at T.F__law_at.kp T.b__law_at (L2N.passAt tk) (va_cons (ve_var 0 (pn 0)) (va_cons (ve_var 1 (pn 1)) (va_cons (ve_var 10 (pn 10)) va_nil)))) (by rfl))
      (vss_one (vs_ret (ve_var 5 (pn 5))))
      vss_nil)
      (vss_one (vs_expr (ve_mL (pe_bm PySem.F.plainAttrs_list PySem.F.slot_list_append PySem.F.type_list_append (vm_append (G := gb K mg)) (ve_var 7 (pn 7)) (va_cons (ve_var 12 (pn 12)) va_nil)))))))
      (vss_one (vs_if (PW.pt (vw_or (vt_cmp (vo_eq hr.units) (ve_var 4 (pn 4)) (ve_fl (vn_lst va_nil)) (nomark _)) (vw_or1 (vt_cmp (vo_ne hr.units) (ve_mL (pe_bm PySem.F.plainAttrs_list PySem.F.slot_list_pop PySem.F.type_list_pop (vm_popAt (G := gb K mg)) (ve_var 4 (pn 4)) (va_cons (ve_c pe_int fun _ => .int _) va_nil))) (ve_var 9 (pn 9)) (nomark _)))))
      (vss_one (vs_ret (ve_var 5 (pn 5))))
      vss_nil)))
      (vss_one (vs_set (i := 8) sc__law_wrong_at.nd rfl (Or.inl rfl) (ve_var 10 (pn 10))))))))
      (vss_one (vs_ret (ve_c pe_non fun _ => .non))))))))).imp fun vs H Q E h => spT h
noncomputable def b__law_true_events : MS := (sSeq (sSet 4 (eNew (nLst aNil)))
    (sSeq (sSet 5 eDNew)
    (sSeq (sFor (iRng2 (aCons (eVar 3) (aCons (eOp addP (eCB (oneF lenG) (aCons (eVar 2) aNil)) (eC (.int 1))) aNil))) (gNm 6)
    (sSeq (sIf (tOf (eOp gtP (eVar 6) (eVar 3)))
    (sFor (iSeq (eOp ixP (eCall 1 m__law_groups (aCons (eVar 2) aNil)) (eOp subP (eVar 6) (eC (.int 1))))) (gNm 7)
    (sExpr (mL apF (eVar 4) (aCons (eOp addP (eOp addP (eTup (aCons (eVar 6) aNil)) (eSl (eVar 7) oNone (oSome (eC (.int 2))))) (eTup (aCons (eOp ixP (eOp addP (eVar 7) (eTup (aCons (eC .non) aNil))) (eC (.int 2))) aNil))) aNil))))
    sNil)
    (sIf (tOf (eOp eqP (eCall 2 m__law_take (aCons (eVar 0) (aCons (eC (.int 3)) aNil))) (eC (.int 0))))
    (sFor (iSeq (eCall 3 m__law_at (aCons (eVar 1) (aCons (eVar 2) (aCons (eVar 6) aNil))))) (gTp 2 (gCn (gNm 8) (gCn (gNm 9) gN0)))
    (sIf (tAndP (tOf (eOp notinP (eVar 8) (eVar 5))) (tAndP (tOf (eOp notinP (eVar 8) (eCall 3 m__law_moved (aCons (eVar 2) (aCons (eVar 3) (aCons (eVar 6) aNil)))))) (tOf (eOp eqP (eCall 2 m__law_take (aCons (eVar 0) (aCons (eC (.int 3)) aNil))) (eC (.int 0))))))
    (sSeq (sAsg (eC (.bl true)) (gIx (eVar 5) (eVar 8)))
    (sExpr (mL apF (eVar 4) (aCons (eTup (aCons (eVar 6) (aCons (eC (.str "copy")) (aCons (eVar 8) (aCons (eVar 9) aNil))))) aNil))))
    sNil))
    sNil)))
    (sRet (eVar 4)))))
noncomputable def m__law_true_events : List PV → Sto → ER PV := runT 10 b__law_true_events
theorem ok__law_true_events (T : Txt K mg) : FnOk P w K mg base (L2N.CX P w) 3 T.f__law_true_events T.fd__law_true_events ["bag", "table", "log", "sta1"] (spM (gb K mg) 4 m__law_true_events) :=
  (okX T.F__law_true_events sc__law_true_events rfl rfl fun cdv A outer s H E hr tk hp => by
    unfold b__law_true_events
    exact (vss_cons (vs_set (i := 4) sc__law_true_events.nd rfl (Or.inl rfl) (ve_new (vn_lst va_nil)))
      (vss_cons (vs_set (i := 5) sc__law_true_events.nd rfl (Or.inl rfl) (ve_dnew pe_dnewK))
      (vss_cons (vs_for hp rfl (vi_rng2 (by rfl) T.z_range (va_cons (ve_var 3 (pn 3)) (va_cons (ve_op (G := gb K mg) vo_add (ve_callB vc_len (by rfl) T.z_len Tc.boot_len (va_cons (ve_var 2 (pn 2)) va_nil)) (ve_c pe_int fun _ => .int _)) va_nil))) (vg_A (vg_name (pg_name (i := 6) sc__law_true_events.nd rfl (Or.inl rfl))))
      (vss_cons (vs_if (vt_cmp vo_gt (ve_var 6 (pn 6)) (ve_var 3 (pn 3)) (nomark _))
      (vss_one (vs_for hp rfl (vi_seq (ve_ix (G := gb K mg) hr.units (ve_call (ok__law_groups T) (hr.mono (by decide)) (by rfl) T.g__law_groups T.F__law_groups.kp T.b__law_groups (L2N.passAt tk) (va_cons (ve_var 2 (pn 2)) va_nil)) (ve_op (G := gb K mg) vo_sub (ve_var 6 (pn 6)) (ve_c pe_int fun _ => .int _)) (fun _ _ => rfl))) (vg_A (vg_name (pg_name (i := 7) sc__law_true_events.nd rfl (Or.inl rfl))))
      (vss_one (vs_expr (ve_mL (pe_bm PySem.F.plainAttrs_list PySem.F.slot_list_append PySem.F.type_list_append (vm_append (G := gb K mg)) (ve_var 4 (pn 4)) (va_cons (ve_op (G := gb K mg) vo_add (ve_op (G := gb K mg) vo_add (ve_tup (G := gb K mg) (va_cons (ve_var 6 (pn 6)) va_nil)) (ve_sl (ve_var 7 (pn 7)) vp_none (vp_some (ve_c pe_int fun _ => .int _)))) (ve_tup (G := gb K mg) (va_cons (ve_ix (G := gb K mg) hr.units (ve_op (G := gb K mg) vo_add (ve_var 7 (pn 7)) (ve_tup (G := gb K mg) (va_cons (ve_c pe_non fun _ => .non) va_nil))) (ve_c pe_int fun _ => .int _) (fun _ _ => rfl)) va_nil))) va_nil)))))))
      vss_nil)
      (vss_one (vs_if (vt_cmp (vo_eq hr.units) (ve_call (ok__law_take T) (hr.mono (by decide)) (by rfl) T.g__law_take T.F__law_take.kp T.b__law_take (L2N.passAt tk) (va_cons (ve_var 0 (pn 0)) (va_cons (ve_c pe_int fun _ => .int _) va_nil))) (ve_c pe_int fun _ => .int _) (nomark _))
      (vss_one (vs_for hp rfl (vi_seq (ve_call (ok__law_at T) hr (by rfl) T.g__law_at T.F__law_at.kp T.b__law_at (L2N.passAt tk) (va_cons (ve_var 1 (pn 1)) (va_cons (ve_var 2 (pn 2)) (va_cons (ve_var 6 (pn 6)) va_nil))))) (vg_A (vg_tup rfl (vgs_cons (vg_name (pg_name (i := 8) sc__law_true_events.nd rfl (Or.inl rfl))) (vgs_cons (vg_name (pg_name (i := 9) sc__law_true_events.nd rfl (Or.inl rfl))) vgs_nil))))
      (vss_one (vs_if (PW.pt (vw_and (vt_cmp (vo_notin hr.units) (ve_var 8 (pn 8)) (ve_var 5 (pn 5)) (by rfl)) (vw_and (vt_cmp (vo_notin hr.units) (ve_var 8 (pn 8)) (ve_call (ok__law_moved T) hr (by rfl) T.g__law_moved T.F__law_moved.kp T.b__law_moved (L2N.passAt tk) (va_cons (ve_var 2 (pn 2)) (va_cons (ve_var 3 (pn 3)) (va_cons (ve_var 6 (pn 6)) va_nil)))) (by rfl)) (vw_and1 (vt_cmp (vo_eq hr.units) (ve_call (ok__law_take T) (hr.mono (by decide)) (by rfl) T.g__law_take T.F__law_take.kp T.b__law_take (L2N.passAt tk) (va_cons (ve_var 0 (pn 0)) (va_cons (ve_c pe_int fun _ => .int _) va_nil))) (ve_c pe_int fun _ => .int _) (nomark _))))))
      (vss_cons (vs_asg (ve_c pe_bl fun _ => .bl _) (vg_ix (Wx := fun cls d _ H => E cls d H) hr.units (ve_var 5 (pn 5)) (ve_var 8 (pn 8))))
      (vss_one (vs_expr (ve_mL (pe_bm PySem.F.plainAttrs_list PySem.F.slot_list_append PySem.F.type_list_append (vm_append (G := gb K mg)) (ve_var 4 (pn 4)) (va_cons (ve_tup (G := gb K mg) (va_cons (ve_var 6 (pn 6)) (va_cons (ve_c pe_str fun _ => .str _) (va_cons (ve_var 8 (pn 8)) (va_cons (ve_var 9 (pn 9)) va_nil))))) va_nil))))))
      vss_nil))))
      vss_nil))))
      (vss_one (vs_ret (ve_var 4 (pn 4)))))))).imp fun vs H Q E h => spT h
noncomputable def b__law_other_events : MS := (sSeq (sSet 3 (eNew (nCB (oneF lstG) (aCons (eVar 1) aNil))))
    (sSeq (sSet 4 (eCall 2 m__law_take (aCons (eVar 0) (aCons (eOp addP (eCB (oneF lenG) (aCons (eVar 3) aNil)) (eC (.int 1))) aNil))))
    (sSeq (sSet 5 (eCall 2 m__law_take (aCons (eVar 0) (aCons (eC (.int 7)) aNil))))
    (sSeq (sSet 6 (eTup (aCons (eCall 2 m__law_take (aCons (eVar 0) (aCons (eC (.int 12)) aNil))) (aCons (eOp ixP (eFl (nLst (aCons (eC (.str "put")) (aCons (eC (.str "drop")) (aCons (eC (.str "copy")) aNil))))) (eCall 2 m__law_take (aCons (eVar 0) (aCons (eC (.int 3)) aNil)))) (aCons (eCall 2 m__law_of (aCons (eVar 0) (aCons (eVar 2) aNil))) (aCons (eCall 2 m__law_take (aCons (eVar 0) (aCons (eC (.int 3)) aNil))) aNil))))))
    (sSeq (sIf (tOrP (tOf (eOp eqP (eVar 3) (eFl (nLst aNil)))) (tOf (eOp eqP (eVar 5) (eC (.int 0)))))
    (sSeq (sExpr (mL insF (eVar 3) (aCons (eVar 4) (aCons (eVar 6) aNil))))
    (sRet (eVar 3)))
    sNil)
    (sSeq (sSet 4 (eOp modP (eVar 4) (eCB (oneF lenG) (aCons (eVar 3) aNil))))
    (sSeq (sIf (tOf (eOp eqP (eVar 5) (eC (.int 1))))
    (sExpr (mL popAtF (eVar 3) (aCons (eVar 4) aNil)))
    (sIf (tOf (eOp eqP (eVar 5) (eC (.int 2))))
    (sExpr (mL insF (eVar 3) (aCons (eVar 4) (aCons (eOp ixP (eVar 3) (eVar 4)) aNil))))
    (sIf (tOf (eOp eqP (eVar 5) (eC (.int 3))))
    (sExpr (mL insF (eVar 3) (aCons (eCall 2 m__law_take (aCons (eVar 0) (aCons (eCB (oneF lenG) (aCons (eVar 3) aNil)) aNil))) (aCons (mL popAtF (eVar 3) (aCons (eVar 4) aNil)) aNil))))
    (sSeq (sSet 7 (eNew (nCB (oneF lstG) (aCons (eOp ixP (eVar 3) (eVar 4)) aNil))))
    (sSeq (sSet 8 (eCall 2 m__law_take (aCons (eVar 0) (aCons (eC (.int 4)) aNil))))
    (sSeq (sAsg (eOp ixP (eVar 6) (eVar 8)) (gIx (eVar 7) (eVar 8)))
    (sAsg (eCB (oneF tupG) (aCons (eVar 7) aNil)) (gIx (eVar 3) (eVar 4)))))))))
    (sRet (eVar 3)))))))))
noncomputable def m__law_other_events : List PV → Sto → ER PV := runT 9 b__law_other_events
theorem ok__law_other_events (T : Txt K mg) : FnOk P w K mg base (L2N.CX P w) 3 T.f__law_other_events T.fd__law_other_events ["bag", "events", "keys"] (spM (gb K mg) 3 m__law_other_events) :=
  (okX T.F__law_other_events sc__law_other_events rfl rfl fun cdv A outer s H E hr tk hp => by
    unfold b__law_other_events
    exact (vss_cons (vs_set (i := 3) sc__law_other_events.nd rfl (Or.inl rfl) (ve_new (vn_callT (vc_list rfl) (by rfl) T.z_list Tc.boot_list (va_cons (ve_var 1 (pn 1)) va_nil))))
      (vss_cons (vs_set (i := 4) sc__law_other_events.nd rfl (Or.inl rfl) (ve_call (ok__law_take T) (hr.mono (by decide)) (by rfl) T.g__law_take T.F__law_take.kp T.b__law_take (L2N.passAt tk) (va_cons (ve_var 0 (pn 0)) (va_cons (ve_op (G := gb K mg) vo_add (ve_callB vc_len (by rfl) T.z_len Tc.boot_len (va_cons (ve_var 3 (pn 3)) va_nil)) (ve_c pe_int fun _ => .int _)) va_nil))))
      (vss_cons (vs_set (i := 5) sc__law_other_events.nd rfl (Or.inl rfl) (ve_call (ok__law_take T) (hr.mono (by decide)) (by rfl) T.g__law_take T.F__law_take.kp T.b__law_take (L2N.passAt tk) (va_cons (ve_var 0 (pn 0)) (va_cons (ve_c pe_int fun _ => .int _) va_nil))))
      (vss_cons (vs_set (i := 6) sc__law_other_events.nd rfl (Or.inl rfl) (ve_tup (G := gb K mg) (va_cons (ve_call (ok__law_take T) (hr.mono (by decide)) (by rfl) T.g__law_take T.F__law_take.kp T.b__law_take (L2N.passAt tk) (va_cons (ve_var 0 (pn 0)) (va_cons (ve_c pe_int fun _ => .int _) va_nil))) (va_cons (ve_ix (G := gb K mg) hr.units (ve_fl (vn_lst (va_cons (ve_c pe_str fun _ => .str _) (va_cons (ve_c pe_str fun _ => .str _) (va_cons (ve_c pe_str fun _ => .str _) va_nil))))) (ve_call (ok__law_take T) (hr.mono (by decide)) (by rfl) T.g__law_take T.F__law_take.kp T.b__law_take (L2N.passAt tk) (va_cons (ve_var 0 (pn 0)) (va_cons (ve_c pe_int fun _ => .int _) va_nil))) (fun _ _ => rfl)) (va_cons (ve_call (ok__law_of T) hr (by rfl) T.g__law_of T.F__law_of.kp T.b__law_of (L2N.passAt tk) (va_cons (ve_var 0 (pn 0)) (va_cons (ve_var 2 (pn 2)) va_nil))) (va_cons (ve_call (ok__law_take T) (hr.mono (by decide)) (by rfl) T.g__law_take T.F__law_take.kp T.b__law_take (L2N.passAt tk) (va_cons (ve_var 0 (pn 0)) (va_cons (ve_c pe_int fun _ => .int _) va_nil))) va_nil))))))
      (vss_cons (vs_if (PW.pt (vw_or (vt_cmp (vo_eq hr.units) (ve_var 3 (pn 3)) (ve_fl (vn_lst va_nil)) (nomark _)) (vw_or1 (vt_cmp (vo_eq hr.units) (ve_var 5 (pn 5)) (ve_c pe_int fun _ => .int _) (nomark _)))))
      (vss_cons (vs_expr (ve_mL (pe_bm PySem.F.plainAttrs_list PySem.F.slot_list_insert PySem.F.type_list_insert (vm_insert (G := gb K mg)) (ve_var 3 (pn 3)) (va_cons (ve_var 4 (pn 4)) (va_cons (ve_var 6 (pn 6)) va_nil)))))
      (vss_one (vs_ret (ve_var 3 (pn 3)))))
      vss_nil)
      (vss_cons (vs_set (i := 4) sc__law_other_events.nd rfl (Or.inl rfl) (ve_op (G := gb K mg) vo_mod (ve_var 4 (pn 4)) (ve_callB vc_len (by rfl) T.z_len Tc.boot_len (va_cons (ve_var 3 (pn 3)) va_nil))))
      (vss_cons (vs_if (vt_cmp (vo_eq hr.units) (ve_var 5 (pn 5)) (ve_c pe_int fun _ => .int _) (nomark _))
      (vss_one (vs_expr (ve_mL (pe_bm PySem.F.plainAttrs_list PySem.F.slot_list_pop PySem.F.type_list_pop (vm_popAt (G := gb K mg)) (ve_var 3 (pn 3)) (va_cons (ve_var 4 (pn 4)) va_nil)))))
      (vss_one (vs_if (vt_cmp (vo_eq hr.units) (ve_var 5 (pn 5)) (ve_c pe_int fun _ => .int _) (nomark _))
      (vss_one (vs_expr (ve_mL (pe_bm PySem.F.plainAttrs_list PySem.F.slot_list_insert PySem.F.type_list_insert (vm_insert (G := gb K mg)) (ve_var 3 (pn 3)) (va_cons (ve_var 4 (pn 4)) (va_cons (ve_ix (G := gb K mg) hr.units (ve_var 3 (pn 3)) (ve_var 4 (pn 4)) (fun _ _ => rfl)) va_nil))))))
      (vss_one (vs_if (vt_cmp (vo_eq hr.units) (ve_var 5 (pn 5)) (ve_c pe_int fun _ => .int _) (nomark _))
      (vss_one (vs_expr (ve_mL (pe_bm PySem.F.plainAttrs_list PySem.F.slot_list_insert PySem.F.type_list_insert (vm_insert (G := gb K mg)) (ve_var 3 (pn 3)) (va_cons (ve_call (ok__law_take T) (hr.mono (by decide)) (by rfl) T.g__law_take T.F__law_take.kp T.b__law_take (L2N.passAt tk) (va_cons (ve_var 0 (pn 0)) (va_cons (ve_callB vc_len (by rfl) T.z_len Tc.boot_len (va_cons (ve_var 3 (pn 3)) va_nil)) va_nil))) (va_cons (ve_mL (pe_bm PySem.F.plainAttrs_list PySem.F.slot_list_pop PySem.F.type_list_pop (vm_popAt (G := gb K mg)) (ve_var 3 (pn 3)) (va_cons (ve_var 4 (pn 4)) va_nil))) va_nil))))))
      (vss_cons (vs_set (i := 7) sc__law_other_events.nd rfl (Or.inl rfl) (ve_new (vn_callT (vc_list rfl) (by rfl) T.z_list Tc.boot_list (va_cons (ve_ix (G := gb K mg) hr.units (ve_var 3 (pn 3)) (ve_var 4 (pn 4)) (fun _ _ => rfl)) va_nil))))
      (vss_cons (vs_set (i := 8) sc__law_other_events.nd rfl (Or.inl rfl) (ve_call (ok__law_take T) (hr.mono (by decide)) (by rfl) T.g__law_take T.F__law_take.kp T.b__law_take (L2N.passAt tk) (va_cons (ve_var 0 (pn 0)) (va_cons (ve_c pe_int fun _ => .int _) va_nil))))
      (vss_cons (vs_asg (ve_ix (G := gb K mg) hr.units (ve_var 6 (pn 6)) (ve_var 8 (pn 8)) (fun _ _ => rfl)) (vg_ix (Wx := fun cls d _ H => E cls d H) hr.units (ve_var 7 (pn 7)) (ve_var 8 (pn 8))))
      (vss_one (vs_asg (ve_callT vc_tup (by rfl) T.z_tuple Tc.boot_tuple (va_cons (ve_var 7 (pn 7)) va_nil)) (vg_ix (Wx := fun cls d _ H => E cls d H) hr.units (ve_var 3 (pn 3)) (ve_var 4 (pn 4)))))))))))))
      (vss_one (vs_ret (ve_var 3 (pn 3)))))))))))).imp fun vs H Q E h => spT h
noncomputable def b_first_wrong : MS := (sSeq (sSet 4 (eCall 2 m_all_tables (aCons (eVar 0) (aCons (eVar 1) aNil))))
    (sSeq (sSet 5 (eCall 2 m_due_changes (aCons (eVar 1) (aCons (eVar 3) aNil))))
    (sSeq (sSet 6 eDNew)
    (sSeq (sSet 7 (eVar 3))
    (sSeq (sFor (iEnu (aCons (eVar 2) aNil)) (gPr (gCn (gNm 8) (gCn (gNm 9) gN0)))
    (sSeq (sAsg (eVar 9) (gTp 4 (gCn (gNm 10) (gCn (gNm 11) (gCn (gNm 12) (gCn (gNm 13) gN0))))))
    (sSeq (sIf (tOf (eOp ltP (eVar 10) (eVar 7)))
    (sRet (eVar 8))
    sNil)
    (sSeq (sIf (tOf (eOp eqP (eVar 11) (eC (.str "copy"))))
    (sSeq (sIf (tOrP (tOf (eOp inP (eVar 12) (eVar 6))) (tNotP (tTru (eCall 4 m_is_copy (aCons (eVar 4) (aCons (eVar 1) (aCons (eVar 3) (aCons (eVar 9) aNil))))))))
    (sRet (eVar 8))
    sNil)
    (sAsg (eC (.bl true)) (gIx (eVar 6) (eVar 12))))
    (sIf (tOrP (tOf (eOp eqP (eVar 5) (eFl (nLst aNil)))) (tOf (eOp neP (mL popAtF (eVar 5) (aCons (eC (.int 0)) aNil)) (eVar 9))))
    (sRet (eVar 8))
    sNil))
    (sSet 7 (eVar 10))))))
    (sRet (eC .non)))))))
noncomputable def m_first_wrong : List PV → Sto → ER PV := runT 14 b_first_wrong
theorem ok_first_wrong (T : Txt K mg) : FnOk P w K mg base (L2N.CX P w) 4 T.f_first_wrong T.fd_first_wrong ["table", "log", "events", "start"] (spM (gb K mg) 4 m_first_wrong) :=
  (okX T.F_first_wrong sc_first_wrong rfl rfl fun cdv A outer s H E hr tk hp => by
    unfold b_first_wrong
    exact (vss_cons (vs_set (i := 4) sc_first_wrong.nd rfl (Or.inl rfl) (ve_call (ok_all_tables T) (hr.mono (by decide)) (by rfl) T.g_all_tables T.F_all_tables.kp T.b_all_tables (L2N.passAt tk) (va_cons (ve_var 0 (pn 0)) (va_cons (ve_var 1 (pn 1)) va_nil))))
      (vss_cons (vs_set (i := 5) sc_first_wrong.nd rfl (Or.inl rfl) (ve_call (ok_due_changes T) (hr.mono (by decide)) (by rfl) T.g_due_changes T.F_due_changes.kp T.b_due_changes (L2N.passAt tk) (va_cons (ve_var 1 (pn 1)) (va_cons (ve_var 3 (pn 3)) va_nil))))
      (vss_cons (vs_set (i := 6) sc_first_wrong.nd rfl (Or.inl rfl) (ve_dnew pe_dnewK))
      (vss_cons (vs_set (i := 7) sc_first_wrong.nd rfl (Or.inl rfl) (ve_var 3 (pn 3)))
      (vss_cons (vs_for hp rfl (vi_enu (by rfl) T.z_enumerate (va_cons (ve_var 2 (pn 2)) va_nil)) (vg_B rfl (vgs_cons (vg_name (pg_name (i := 8) sc_first_wrong.nd rfl (Or.inl rfl))) (vgs_cons (vg_name (pg_name (i := 9) sc_first_wrong.nd rfl (Or.inl rfl))) vgs_nil)))
      (vss_cons (vs_asg (ve_var 9 (pn 9)) (vg_tup rfl (vgs_cons (vg_name (pg_name (i := 10) sc_first_wrong.nd rfl (Or.inl rfl))) (vgs_cons (vg_name (pg_name (i := 11) sc_first_wrong.nd rfl (Or.inl rfl))) (vgs_cons (vg_name (pg_name (i := 12) sc_first_wrong.nd rfl (Or.inl rfl))) (vgs_cons (vg_name (pg_name (i := 13) sc_first_wrong.nd rfl (Or.inl rfl))) vgs_nil))))))
      (vss_cons (vs_if (vt_cmp vo_lt (ve_var 10 (pn 10)) (ve_var 7 (pn 7)) (nomark _))
      (vss_one (vs_ret (ve_var 8 (pn 8))))
      vss_nil)
      (vss_cons (vs_if (vt_cmp (vo_eq hr.units) (ve_var 11 (pn 11)) (ve_c pe_str fun _ => .str _) (nomark _))
      (vss_cons (vs_if (PW.pt (vw_or (vt_cmp (vo_in hr.units) (ve_var 12 (pn 12)) (ve_var 6 (pn 6)) (by rfl)) (vw_or1 (vt_not (vt_tru (ve_call (ok_is_copy T) hr (by rfl) T.g_is_copy T.F_is_copy.kp T.b_is_copy (L2N.passAt tk) (va_cons (ve_var 4 (pn 4)) (va_cons (ve_var 1 (pn 1)) (va_cons (ve_var 3 (pn 3)) (va_cons (ve_var 9 (pn 9)) va_nil))))))))))
      (vss_one (vs_ret (ve_var 8 (pn 8))))
      vss_nil)
      (vss_one (vs_asg (ve_c pe_bl fun _ => .bl _) (vg_ix (Wx := fun cls d _ H => E cls d H) hr.units (ve_var 6 (pn 6)) (ve_var 12 (pn 12))))))
      (vss_one (vs_if (PW.pt (vw_or (vt_cmp (vo_eq hr.units) (ve_var 5 (pn 5)) (ve_fl (vn_lst va_nil)) (nomark _)) (vw_or1 (vt_cmp (vo_ne hr.units) (ve_mL (pe_bm PySem.F.plainAttrs_list PySem.F.slot_list_pop PySem.F.type_list_pop (vm_popAt (G := gb K mg)) (ve_var 5 (pn 5)) (va_cons (ve_c pe_int fun _ => .int _) va_nil))) (ve_var 9 (pn 9)) (nomark _)))))
      (vss_one (vs_ret (ve_var 8 (pn 8))))
      vss_nil)))
      (vss_one (vs_set (i := 7) sc_first_wrong.nd rfl (Or.inl rfl) (ve_var 10 (pn 10))))))))
      (vss_one (vs_ret (ve_c pe_non fun _ => .non))))))))).imp fun vs H Q E h => spT h
noncomputable def b__law_entry : MS := (sSeq (sIf (tOf (eOp eqP (eCall 2 m__law_take (aCons (eVar 0) (aCons (eC (.int 4)) aNil))) (eC (.int 0))))
    (sRet (eTup (aCons (eOp ixP (eFl (nLst (aCons (eC (.str "low")) (aCons (eC (.str "high")) aNil)))) (eCall 2 m__law_take (aCons (eVar 0) (aCons (eC (.int 2)) aNil)))) (aCons (eOp addP (eC (.int 1)) (eCall 2 m__law_take (aCons (eVar 0) (aCons (eC (.int 4)) aNil)))) (aCons (eCall 2 m__law_take (aCons (eVar 0) (aCons (eC (.int 9)) aNil))) aNil)))))
    sNil)
    (sRet (eTup (aCons (eC (.str "group")) (aCons (eCall 3 m__law_changes (aCons (eVar 0) (aCons (eVar 1) (aCons (eC (.int 3)) aNil)))) aNil)))))
noncomputable def m__law_entry : List PV → Sto → ER PV := runB 2 b__law_entry
theorem ok__law_entry (T : Txt K mg) : FnOk P w K mg base (L2N.CX P w) 4 T.f__law_entry T.fd__law_entry ["bag", "keys"] (spM (gb K mg) 2 m__law_entry) :=
  okX T.F__law_entry sc__law_entry rfl rfl fun cdv A outer s H E hr tk hp => by
    unfold b__law_entry
    exact (vss_cons (vs_if (vt_cmp (vo_eq hr.units) (ve_call (ok__law_take T) (hr.mono (by decide)) (by rfl) T.g__law_take T.F__law_take.kp T.b__law_take (L2N.passAt tk) (va_cons (ve_var 0 (pn 0)) (va_cons (ve_c pe_int fun _ => .int _) va_nil))) (ve_c pe_int fun _ => .int _) (nomark _))
      (vss_one (vs_ret (ve_tup (G := gb K mg) (va_cons (ve_ix (G := gb K mg) hr.units (ve_fl (vn_lst (va_cons (ve_c pe_str fun _ => .str _) (va_cons (ve_c pe_str fun _ => .str _) va_nil)))) (ve_call (ok__law_take T) (hr.mono (by decide)) (by rfl) T.g__law_take T.F__law_take.kp T.b__law_take (L2N.passAt tk) (va_cons (ve_var 0 (pn 0)) (va_cons (ve_c pe_int fun _ => .int _) va_nil))) (fun _ _ => rfl)) (va_cons (ve_op (G := gb K mg) vo_add (ve_c pe_int fun _ => .int _) (ve_call (ok__law_take T) (hr.mono (by decide)) (by rfl) T.g__law_take T.F__law_take.kp T.b__law_take (L2N.passAt tk) (va_cons (ve_var 0 (pn 0)) (va_cons (ve_c pe_int fun _ => .int _) va_nil)))) (va_cons (ve_call (ok__law_take T) (hr.mono (by decide)) (by rfl) T.g__law_take T.F__law_take.kp T.b__law_take (L2N.passAt tk) (va_cons (ve_var 0 (pn 0)) (va_cons (ve_c pe_int fun _ => .int _) va_nil))) va_nil))))))
      vss_nil)
      (vss_one (vs_ret (ve_tup (G := gb K mg) (va_cons (ve_c pe_str fun _ => .str _) (va_cons (ve_call (ok__law_changes T) hr (by rfl) T.g__law_changes T.F__law_changes.kp T.b__law_changes (L2N.passAt tk) (va_cons (ve_var 0 (pn 0)) (va_cons (ve_var 1 (pn 1)) (va_cons (ve_c pe_int fun _ => .int _) va_nil)))) va_nil))))))
noncomputable def b__law_log : MS := (sRet (eFl (nLc (iRng1 (aCons (eCall 2 m__law_take (aCons (eVar 0) (aCons (eOp addP (eVar 2) (eC (.int 1))) aNil))) aNil)) (bN1 3) yesT (eCall 2 m__law_entry (aCons (eVar 0) (aCons (eVar 1) aNil))) [3])))
noncomputable def m__law_log : List PV → Sto → ER PV := runB 4 b__law_log
theorem ok__law_log (T : Txt K mg) : FnOk P w K mg base (L2N.CX P w) 5 T.f__law_log T.fd__law_log ["bag", "keys", "most"] (spM (gb K mg) 3 m__law_log) :=
  okX T.F__law_log sc__law_log rfl rfl fun cdv A outer s H E hr tk hp => by
    unfold b__law_log
    exact (vss_one (vs_ret (ve_fl (vn_lc (G := gb K mg) (own := [("turn", 3)]) rfl sc__law_log.nd (vi_rng1 (by rfl) T.z_range (va_cons (ve_call (ok__law_take T) (hr.mono (by decide)) (by rfl) T.g__law_take T.F__law_take.kp T.b__law_take (L2N.passAt tk) (va_cons (ve_var 0 (pn 0)) (va_cons (ve_op (G := gb K mg) vo_add (ve_var 2 (pn 2)) (ve_c pe_int fun _ => .int _)) va_nil))) va_nil)) (blkOk_by (own := [("turn", 3)]) (N := ["bag", "keys", "most", "turn"]) (sc := defScope s__law_log) (by decide +kernel)) (fun _ _ _ _ _ => by exact (pg_name (i := 3) sc__law_log.nd rfl (Or.inl rfl))) (fun _ _ _ _ _ => by exact vts_nil) (fun _ _ _ _ _ => by exact (ve_call (ok__law_entry T) hr (by rfl) T.g__law_entry T.F__law_entry.kp T.b__law_entry (fun σ => passN) (va_cons (ve_var 0 (pn 0)) (va_cons (ve_var 1 (pn 1)) va_nil)))) (ct_name (i := 3)) (fun _ _ _ _ _ _ r => r)))))
noncomputable def b_law : MS := (sSeq (sFor (iRng1 (aCons (eOp addP (eC (.int 1)) (eCB (twoF min2) (aCons (eCB (oneF lenG) (aCons (eVar 0) aNil)) (aCons (eC (.int 10)) aNil)))) aNil)) (gNm 1)
    (sSeq (sSet 2 (eCall 2 m__law_bag (aCons (eVar 0) (aCons (eVar 1) aNil))))
    (sSeq (sSet 3 (eCall 1 m__law_keys (aCons (eVar 2) aNil)))
    (sSeq (sSet 4 (eCall 2 m__law_table (aCons (eVar 2) (aCons (eVar 3) aNil))))
    (sSeq (sSet 5 (eCall 3 m__law_log (aCons (eVar 2) (aCons (eVar 3) (aCons (eC (.int 15)) aNil)))))
    (sSeq (sSet 6 (eOp mulP (eCall 2 m__law_take (aCons (eVar 2) (aCons (eOp addP (eCB (oneF lenG) (aCons (eVar 5) aNil)) (eC (.int 1))) aNil))) (eCall 2 m__law_take (aCons (eVar 2) (aCons (eC (.int 2)) aNil)))))
    (sSeq (sSet 7 (eCall 4 m__law_true_events (aCons (eVar 2) (aCons (eVar 4) (aCons (eVar 5) (aCons (eVar 6) aNil))))))
    (sFor (iRng1 (aCons (eC (.int 5)) aNil)) (gNm 8)
    (sSeq (sSet 9 (eFl (nCB (oneF lstG) (aCons (eVar 7) aNil))))
    (sSeq (sSet 10 (eCallN 3 1 m_first_wrong (aCons (eVar 4) (aCons (eVar 5) (aCons (eVar 9) aNil))) (aCons (eVar 6) aNil)))
    (sSeq (sIf (tAndP (tOf (eOp eqP (eVar 6) (eC (.int 0)))) (tOf (eOp neP (eVar 10) (eCallDf 3 m_first_wrong [.int 0] (aCons (eVar 4) (aCons (eVar 5) (aCons (eVar 9) aNil)))))))
    (sRet (eC (.bl false)))
    sNil)
    (sSeq (sSet 11 (eCall 4 m__law_wrong_at (aCons (eVar 4) (aCons (eVar 5) (aCons (eVar 7) (aCons (eVar 6) aNil))))))
    (sSeq (sIf (tOrP (tOf (eOp neP (eVar 10) (eVar 11))) (tOf (eOp neP (eVar 9) (eVar 7))))
    (sRet (eC (.bl false)))
    sNil)
    (sSeq (sIf (tAndP (tOf (eOp eqP (eVar 8) (eC (.int 0)))) (tOf (eOp isntP (eVar 10) (eC .non))))
    (sRet (eC (.bl false)))
    sNil)
    (sSet 7 (eCall 3 m__law_other_events (aCons (eVar 2) (aCons (eVar 7) (aCons (eVar 3) aNil)))))))))))))))))))
    (sRet (eC (.bl true))))
theorem ok_law (T : Txt K mg) : FnOk P w K mg base CX0 6 T.f_law T.fd_law ["script"] (fun vs H Q _ => ∃ W S xs, Wd (gb K mg) W S H ∧ RVs K W vs xs ∧ xs.length = 1 ∧ kR (gb K mg) (RV K) W Q (fun _ _ _ => False) (runB 12 b_law xs S)) :=
  ok0 T.F_law sc_law rfl rfl fun cdv A outer s H E hr => by
    unfold b_law
    exact (vss_cons (vs_for PassesOwn.never rfl (vi_rng1 (by rfl) T.z_range (va_cons (ve_op (G := gb K mg) vo_add (ve_c pe_int fun _ => .int _) (ve_callB (vc_min2 rfl) (by rfl) T.z_min Tc.boot_min (va_cons (ve_callB vc_len (by rfl) T.z_len Tc.boot_len (va_cons (ve_var 0 (pn 0)) va_nil)) (va_cons (ve_c pe_int fun _ => .int _) va_nil)))) va_nil)) (vg_A (vg_name (pg_name (i := 1) sc_law.nd rfl (Or.inl rfl))))
      (vss_cons (vs_set (i := 2) sc_law.nd rfl (Or.inl rfl) (ve_call (ok__law_bag T) (hr.mono (by decide)) (by rfl) T.g__law_bag T.F__law_bag.kp T.b__law_bag (fun σ => passN) (va_cons (ve_var 0 (pn 0)) (va_cons (ve_var 1 (pn 1)) va_nil))))
      (vss_cons (vs_set (i := 3) sc_law.nd rfl (Or.inl rfl) (ve_call (ok__law_keys T) (hr.mono (by decide)) (by rfl) T.g__law_keys T.F__law_keys.kp T.b__law_keys (fun σ => passN) (va_cons (ve_var 2 (pn 2)) va_nil)))
      (vss_cons (vs_set (i := 4) sc_law.nd rfl (Or.inl rfl) (ve_call (ok__law_table T) (hr.mono (by decide)) (by rfl) T.g__law_table T.F__law_table.kp T.b__law_table (fun σ => passN) (va_cons (ve_var 2 (pn 2)) (va_cons (ve_var 3 (pn 3)) va_nil))))
      (vss_cons (vs_set (i := 5) sc_law.nd rfl (Or.inl rfl) (ve_call (ok__law_log T) hr (by rfl) T.g__law_log T.F__law_log.kp T.b__law_log (fun σ => passN) (va_cons (ve_var 2 (pn 2)) (va_cons (ve_var 3 (pn 3)) (va_cons (ve_c pe_int fun _ => .int _) va_nil)))))
      (vss_cons (vs_set (i := 6) sc_law.nd rfl (Or.inl rfl) (ve_op (G := gb K mg) vo_mul (ve_call (ok__law_take T) (hr.mono (by decide)) (by rfl) T.g__law_take T.F__law_take.kp T.b__law_take (fun σ => passN) (va_cons (ve_var 2 (pn 2)) (va_cons (ve_op (G := gb K mg) vo_add (ve_callB vc_len (by rfl) T.z_len Tc.boot_len (va_cons (ve_var 5 (pn 5)) va_nil)) (ve_c pe_int fun _ => .int _)) va_nil))) (ve_call (ok__law_take T) (hr.mono (by decide)) (by rfl) T.g__law_take T.F__law_take.kp T.b__law_take (fun σ => passN) (va_cons (ve_var 2 (pn 2)) (va_cons (ve_c pe_int fun _ => .int _) va_nil)))))
      (vss_cons (vs_set (i := 7) sc_law.nd rfl (Or.inl rfl) (ve_call (ok__law_true_events T) (hr.mono (by decide)) (by rfl) T.g__law_true_events T.F__law_true_events.kp T.b__law_true_events (fun σ => passN) (va_cons (ve_var 2 (pn 2)) (va_cons (ve_var 4 (pn 4)) (va_cons (ve_var 5 (pn 5)) (va_cons (ve_var 6 (pn 6)) va_nil))))))
      (vss_one (vs_for PassesOwn.never rfl (vi_rng1 (by rfl) T.z_range (va_cons (ve_c pe_int fun _ => .int _) va_nil)) (vg_A (vg_name (pg_name (i := 8) sc_law.nd rfl (Or.inl rfl))))
      (vss_cons (vs_set (i := 9) sc_law.nd rfl (Or.inl rfl) (ve_fl (vn_callT (vc_list rfl) (by rfl) T.z_list Tc.boot_list (va_cons (ve_var 7 (pn 7)) va_nil))))
      (vss_cons (vs_set (i := 10) sc_law.nd rfl (Or.inl rfl) (ve_callNS (ks := ["start"]) (ok_first_wrong T) (hr.mono (by decide)) (by rfl) T.g_first_wrong T.F_first_wrong.kp T.kb_first_wrong (fun σ => passN) rfl (va_cons (ve_var 4 (pn 4)) (va_cons (ve_var 5 (pn 5)) (va_cons (ve_var 9 (pn 9)) va_nil))) (vk_cons (ve_var 6 (pn 6)) vk_nil)))
      (vss_cons (vs_if (PW.pt (vw_and (vt_cmp (vo_eq hr.units) (ve_var 6 (pn 6)) (ve_c pe_int fun _ => .int _) (nomark _)) (vw_and1 (vt_cmp (vo_ne hr.units) (ve_var 10 (pn 10)) (ve_callDf (ok_first_wrong T) (hr.mono (by decide)) (by rfl) T.g_first_wrong T.F_first_wrong.kp T.d0_first_wrong (fun σ => passN) (fun _ => (.cons (.int _) .nil)) rfl (va_cons (ve_var 4 (pn 4)) (va_cons (ve_var 5 (pn 5)) (va_cons (ve_var 9 (pn 9)) va_nil)))) (nomark _)))))
      (vss_one (vs_ret (ve_c pe_bl fun _ => .bl _)))
      vss_nil)
      (vss_cons (vs_set (i := 11) sc_law.nd rfl (Or.inl rfl) (ve_call (ok__law_wrong_at T) (hr.mono (by decide)) (by rfl) T.g__law_wrong_at T.F__law_wrong_at.kp T.b__law_wrong_at (fun σ => passN) (va_cons (ve_var 4 (pn 4)) (va_cons (ve_var 5 (pn 5)) (va_cons (ve_var 7 (pn 7)) (va_cons (ve_var 6 (pn 6)) va_nil))))))
      (vss_cons (vs_if (PW.pt (vw_or (vt_cmp (vo_ne hr.units) (ve_var 10 (pn 10)) (ve_var 11 (pn 11)) (nomark _)) (vw_or1 (vt_cmp (vo_ne hr.units) (ve_var 9 (pn 9)) (ve_var 7 (pn 7)) (nomark _)))))
      (vss_one (vs_ret (ve_c pe_bl fun _ => .bl _)))
      vss_nil)
      (vss_cons (vs_if (PW.pt (vw_and (vt_cmp (vo_eq hr.units) (ve_var 8 (pn 8)) (ve_c pe_int fun _ => .int _) (nomark _)) (vw_and1 (vt_cmp vo_isnt (ve_var 10 (pn 10)) (ve_c pe_non fun _ => .non) (nomark _)))))
      (vss_one (vs_ret (ve_c pe_bl fun _ => .bl _)))
      vss_nil)
      (vss_one (vs_set (i := 7) sc_law.nd rfl (Or.inl rfl) (ve_call (ok__law_other_events T) (hr.mono (by decide)) (by rfl) T.g__law_other_events T.F__law_other_events.kp T.b__law_other_events (fun σ => passN) (va_cons (ve_var 2 (pn 2)) (va_cons (ve_var 7 (pn 7)) (va_cons (ve_var 3 (pn 3)) va_nil)))))))))))))))))))))
      (vss_one (vs_ret (ve_c pe_bl fun _ => .bl _))))
end

theorem take_w {b : Nat} {n : Int} {S : Sto} {Q : PV → Sto → Prop} {X : WXE} (hb : Bg b S) (h0 : 0 < n) (h1 : n ≤ 1000000) (k : ∀ d S', 0 ≤ d → d < n → Bg b S' → Pv.St b S S' → Q (.int d) S') : wE (m__law_take [.ref b, .int n] S) Q X := by
  obtain ⟨x, y, hS, hx, hy, hy2⟩ := hb.1
  have ln : n.natAbs.log2 < 64 := log_small (by omega)
  refine w_defB (m := m__law_take) rfl ?_
  unfold b__law_take
  try simp only [Pv.PV0, Pv.PV1, Pv.PV2, Pv.PV3, Pv.PV4, Pv.PV5, Pv.PV6, List.getElem?_cons_zero, List.getElem?_cons_succ, List.set_cons_zero, List.set_cons_succ, List.map_cons, List.map_nil, List.length_cons, List.length_nil, List.replicate, List.cons_append, List.nil_append, eq_self, decide_eq_true_eq, Bool.not_eq_true', decide_eq_false_iff_not, Nat.reduceAdd, Nat.reduceSub, Nat.reduceLeDiff, and_true, true_and, if_true, if_false, ite_true, ite_false, Bool.false_eq_true, Bool.true_eq_false, Pv.PVA0, Pv.PVA1, ix_lst hS, set_lst hS, ix_lst (get_set hS)]
  refine ite_w (fun c => ?_) (fun c => ?_)
  · refine ⟨h0, ⟨h0, by omega⟩, ?_⟩
    exact k _ _ (Int.emod_nonneg _ (by omega)) (Int.emod_lt_of_pos _ h0) (hb.put (Int.ediv_nonneg hx (by omega)) hy hy2) st_set
  · have m0 := Int.emod_nonneg (y * 48271) (show (2147483647 : Int) ≠ 0 by decide)
    have m1 := Int.emod_lt_of_pos (y * 48271) (show (0 : Int) < 2147483647 by decide)
    have ly : y.natAbs.log2 < 64 := log_small (by omega)
    have lz : ((y * 48271 % 2147483647).natAbs).log2 < 64 := log_small (by omega)
    refine ⟨Nat.lt_trans (Nat.add_lt_add ly (show (Int.natAbs 48271).log2 < 64 by decide)) (by decide), by decide, Nat.lt_trans (Nat.add_lt_add lz lz) (by decide), by decide, ⟨by decide, by decide⟩, h0, ?_⟩
    exact k _ _ (Int.emod_nonneg _ (by omega)) (Int.emod_lt_of_pos _ h0) (hb.put hx m0 m1) st_set
theorem bag_w {xs : List Int} {k : Nat} {S : Sto} {Q : PV → Sto → Prop} {X : WXE} (h1 : k ≤ 100000) (h : ∀ x y : Int, 0 ≤ x → 0 ≤ y → y < 2147483647 → Q (.ref S.length) (S ++ [.lst [.int x, .int y]])) : wE (m__law_bag [.ro (xs.map .int), .int (k : Int)] S) Q X := by
  refine w_defB (m := m__law_bag) rfl ?_
  unfold b__law_bag
  have lk : ((k : Int)).natAbs.log2 < 64 := log_small (by omega)
  have m0 := fun z : Int => Int.emod_nonneg z (show (2147483646 : Int) ≠ 0 by decide)
  have m1 := fun z : Int => Int.emod_lt_of_pos z (show (0 : Int) < 2147483646 by decide)
  try simp only [Pv.PV0, Pv.PV1, Pv.PV2, Pv.PV3, Pv.PV4, Pv.PV5, Pv.PV6, List.getElem?_cons_zero, List.getElem?_cons_succ, List.set_cons_zero, List.set_cons_succ, List.map_cons, List.map_nil, List.length_cons, List.length_nil, List.replicate, List.cons_append, List.nil_append, eq_self, decide_eq_true_eq, Bool.not_eq_true', decide_eq_false_iff_not, Nat.reduceAdd, Nat.reduceSub, Nat.reduceLeDiff, and_true, true_and, if_true, if_false, ite_true, ite_false, Bool.false_eq_true, Bool.true_eq_false, Pv.PVA0, Pv.PVA1]
  refine ite_w (fun c => ?_) (fun c => ?_)
  · have c : k < (xs.map PV.int).length := by omega
    rw [at_nat c, List.getElem?_eq_getElem c, List.getElem_map]
    try simp only [Pv.PV0, Pv.PV1, Pv.PV2, Pv.PV3, Pv.PV4, Pv.PV5, Pv.PV6, List.getElem?_cons_zero, List.getElem?_cons_succ, List.set_cons_zero, List.set_cons_succ, List.map_cons, List.map_nil, List.length_cons, List.length_nil, List.replicate, List.cons_append, List.nil_append, eq_self, decide_eq_true_eq, Bool.not_eq_true', decide_eq_false_iff_not, Nat.reduceAdd, Nat.reduceSub, Nat.reduceLeDiff, and_true, true_and, if_true, if_false, ite_true, ite_false, Bool.false_eq_true, Bool.true_eq_false, Pv.PVA0, Pv.PVA1]
    have hz : 0 ≤ (if xs[k]'(by simpa using c) < 0 then -xs[k]'(by simpa using c) else xs[k]'(by simpa using c)) := by split <;> omega
    generalize (if xs[k]'(by simpa using c) < 0 then -xs[k]'(by simpa using c) else xs[k]'(by simpa using c)) = z at *
    refine ite_w (fun c2 => ?_) (fun c2 => ?_)
    · have lz : z.natAbs.log2 < 64 := log_small (by omega)
      exact ⟨Nat.lt_trans (Nat.add_lt_add lz (show (Int.natAbs 7919).log2 < 64 by decide)) (by decide), Nat.lt_trans (Nat.add_lt_add (show (Int.natAbs 104729).log2 < 64 by decide) lk) (by decide), by decide, h _ _ (by decide) (by have := m0 (z * 7919 + 104729 * k); omega) (by have := m1 (z * 7919 + 104729 * k); omega)⟩
    · exact ⟨by decide, h _ _ hz (by have := m0 (z + (k : Int)); omega) (by have := m1 (z + (k : Int)); omega)⟩
  · refine ite_w (fun c2 => ?_) (fun c2 => ?_)
    · exact ⟨by decide, Nat.lt_trans (Nat.add_lt_add (show (Int.natAbs 104729).log2 < 64 by decide) lk) (by decide), by decide, h _ _ (by decide) (by have := m0 (0 * 7919 + 104729 * k); omega) (by have := m1 (0 * 7919 + 104729 * k); omega)⟩
    · exact ⟨by decide, h _ _ (by decide) (by have := m0 (0 + (k : Int)); omega) (by have := m1 (0 + (k : Int)); omega)⟩
theorem of_w {b : Nat} {S : Sto} {Q : PV → Sto → Prop} {X : WXE} {xs : List PV} (hb : Bg b S) (h0 : 0 < xs.length) (h1 : xs.length ≤ 100000) (h : ∀ x S', x ∈ xs → Bg b S' → Pv.St b S S' → Q x S') : wE (m__law_of [.ref b, .fl xs] S) Q X := by
  refine w_defB (m := m__law_of) rfl ?_
  unfold b__law_of
  try simp only [Pv.PV0, Pv.PV1, Pv.PV2, Pv.PV3, Pv.PV4, Pv.PV5, Pv.PV6, List.getElem?_cons_zero, List.getElem?_cons_succ, List.set_cons_zero, List.set_cons_succ, List.map_cons, List.map_nil, List.length_cons, List.length_nil, List.replicate, List.cons_append, List.nil_append, eq_self, decide_eq_true_eq, Bool.not_eq_true', decide_eq_false_iff_not, Nat.reduceAdd, Nat.reduceSub, Nat.reduceLeDiff, and_true, true_and, if_true, if_false, ite_true, ite_false, Bool.false_eq_true, Bool.true_eq_false, Pv.PVA0, Pv.PVA1]
  refine take_w hb (by omega) (by omega) fun d S' d0 d1 hb' st => ?_
  try simp only [Pv.PV0, Pv.PV1, Pv.PV2, Pv.PV3, Pv.PV4, Pv.PV5, Pv.PV6, List.getElem?_cons_zero, List.getElem?_cons_succ, List.set_cons_zero, List.set_cons_succ, List.map_cons, List.map_nil, List.length_cons, List.length_nil, List.replicate, List.cons_append, List.nil_append, eq_self, decide_eq_true_eq, Bool.not_eq_true', decide_eq_false_iff_not, Nat.reduceAdd, Nat.reduceSub, Nat.reduceLeDiff, and_true, true_and, if_true, if_false, ite_true, ite_false, Bool.false_eq_true, Bool.true_eq_false, Pv.PVA0, Pv.PVA1]
  rw [at_int d0 (by omega), List.getElem?_eq_getElem (by omega)]
  exact h _ _ (List.getElem_mem _) hb' st

theorem keys_w {b : Nat} {S : Sto} {Q : PV → Sto → Prop} {X : WXE} (hb : Bg b S) (h : ∀ ks S', Tc.Keys ks → Bg b S' → Pv.St b S S' → Q (.fl (ks.map .int)) S') : wE (m__law_keys [.ref b] S) Q X := by
  refine w_defB (m := m__law_keys) rfl ?_
  unfold b__law_keys
  try simp only [Pv.PV0, Pv.PV1, Pv.PV2, Pv.PV3, Pv.PV4, Pv.PV5, Pv.PV6, List.getElem?_cons_zero, List.getElem?_cons_succ, List.set_cons_zero, List.set_cons_succ, List.map_cons, List.map_nil, List.length_cons, List.length_nil, List.replicate, List.cons_append, List.nil_append, eq_self, decide_eq_true_eq, Bool.not_eq_true', decide_eq_false_iff_not, Nat.reduceAdd, Nat.reduceSub, Nat.reduceLeDiff, and_true, true_and, if_true, if_false, ite_true, ite_false, Bool.false_eq_true, Bool.true_eq_false, Pv.PVA0, Pv.PVA1]
  refine take_w hb (by decide) (by decide) fun d S1 d0 d1 b1 s1 => ?_
  try simp only [Pv.PV0, Pv.PV1, Pv.PV2, Pv.PV3, Pv.PV4, Pv.PV5, Pv.PV6, List.getElem?_cons_zero, List.getElem?_cons_succ, List.set_cons_zero, List.set_cons_succ, List.map_cons, List.map_nil, List.length_cons, List.length_nil, List.replicate, List.cons_append, List.nil_append, eq_self, decide_eq_true_eq, Bool.not_eq_true', decide_eq_false_iff_not, Nat.reduceAdd, Nat.reduceSub, Nat.reduceLeDiff, and_true, true_and, if_true, if_false, ite_true, ite_false, Bool.false_eq_true, Bool.true_eq_false, Pv.PVA0, Pv.PVA1]
  have step : ∃ st : Int, atI [PV.int 1, .int 2, .int 7, .int 90] d = some (.int st) ∧ 1 ≤ st ∧ st ≤ 90 := by
    have : d = 0 ∨ d = 1 ∨ d = 2 ∨ d = 3 := by omega
    rcases this with rfl | rfl | rfl | rfl
    · exact ⟨1, rfl, by decide, by decide⟩
    · exact ⟨2, rfl, by decide, by decide⟩
    · exact ⟨7, rfl, by decide, by decide⟩
    · exact ⟨90, rfl, by decide, by decide⟩
  obtain ⟨st, e, st1, st2⟩ := step
  rw [e]
  try simp only [Pv.PV0, Pv.PV1, Pv.PV2, Pv.PV3, Pv.PV4, Pv.PV5, Pv.PV6, List.getElem?_cons_zero, List.getElem?_cons_succ, List.set_cons_zero, List.set_cons_succ, List.map_cons, List.map_nil, List.length_cons, List.length_nil, List.replicate, List.cons_append, List.nil_append, eq_self, decide_eq_true_eq, Bool.not_eq_true', decide_eq_false_iff_not, Nat.reduceAdd, Nat.reduceSub, Nat.reduceLeDiff, and_true, true_and, if_true, if_false, ite_true, ite_false, Bool.false_eq_true, Bool.true_eq_false, Pv.PVA0, Pv.PVA1]
  refine ⟨Nat.lt_trans (Nat.add_lt_add (show (Int.natAbs 9).log2 < 64 by decide) (log_small (by omega))) (by decide), take_w b1 (by omega) (by omega) fun f S2 f0 f1 b2 s2 => ?_⟩
  try simp only [Pv.PV0, Pv.PV1, Pv.PV2, Pv.PV3, Pv.PV4, Pv.PV5, Pv.PV6, List.getElem?_cons_zero, List.getElem?_cons_succ, List.set_cons_zero, List.set_cons_succ, List.map_cons, List.map_nil, List.length_cons, List.length_nil, List.replicate, List.cons_append, List.nil_append, eq_self, decide_eq_true_eq, Bool.not_eq_true', decide_eq_false_iff_not, Nat.reduceAdd, Nat.reduceSub, Nat.reduceLeDiff, and_true, true_and, if_true, if_false, ite_true, ite_false, Bool.false_eq_true, Bool.true_eq_false, Pv.PVA0, Pv.PVA1]
  refine ⟨10, rfl, by decide, by decide, ?_⟩
  rw [show (10 : Int).toNat = 10 from rfl, rng0]
  refine lcM iP (fun i => .int (f + st * (i : Int))) trivial (by simp) (fun i hi => ?_) ?_
  · have hi := List.mem_range.mp hi
    unfold iP
    try simp only [Pv.PV0, Pv.PV1, Pv.PV2, Pv.PV3, Pv.PV4, Pv.PV5, Pv.PV6, List.getElem?_cons_zero, List.getElem?_cons_succ, List.set_cons_zero, List.set_cons_succ, List.map_cons, List.map_nil, List.length_cons, List.length_nil, List.replicate, List.cons_append, List.nil_append, eq_self, decide_eq_true_eq, Bool.not_eq_true', decide_eq_false_iff_not, Nat.reduceAdd, Nat.reduceSub, Nat.reduceLeDiff, and_true, true_and, if_true, if_false, ite_true, ite_false, Bool.false_eq_true, Bool.true_eq_false, Pv.PVA0, Pv.PVA1]
    exact Nat.lt_trans (Nat.add_lt_add (log_small (by omega)) (log_small (by omega))) (by decide)
  · rw [show (List.range 10).map (fun i : Nat => PV.int (f + st * (i : Int))) ++ [.int 0, .int 999] = ((List.range 10).map (fun i : Nat => f + st * (i : Int)) ++ [0, 999]).map PV.int by rw [List.map_append, List.map_map]; rfl, intsP_map]
    refine ⟨by simp, by simp, ?_⟩
    refine h _ _ ⟨sortU_up, fun k hk => ?_, ?_, ?_⟩ b2 (s1.trans s2)
    · rw [sortU_mem] at hk
      rcases List.mem_append.mp hk with z | z
      · obtain ⟨i, hi, rfl⟩ := List.mem_map.mp z
        have hi := List.mem_range.mp hi
        have : 0 ≤ st * (i : Int) := Int.mul_nonneg (by omega) (by omega)
        have : st * (i : Int) ≤ st * 9 := Int.mul_le_mul_of_nonneg_left (by omega) (by omega)
        omega
      · simp only [List.mem_cons, List.not_mem_nil, or_false] at z
        omega
    · refine Nat.le_trans sortU_len ?_
      simp
    · refine List.length_pos_of_mem (a := 0) ?_
      rw [sortU_mem]
      simp
theorem table_w {b : Nat} {S : Sto} {Q : PV → Sto → Prop} {X : WXE} {ks : List Int} (hb : Bg b S) (hk : ks.length ≤ 100000) (h : ∀ rows S', Tc.RowsIn ks rows → Bg b S' → Pv.St b S S' → Q (tabP rows) S') : wE (m__law_table [.ref b, .fl (ks.map .int)] S) Q X := by
  refine w_defB (m := m__law_table) rfl ?_
  unfold b__law_table
  try simp only [Pv.PV0, Pv.PV1, Pv.PV2, Pv.PV3, Pv.PV4, Pv.PV5, Pv.PV6, List.getElem?_cons_zero, List.getElem?_cons_succ, List.set_cons_zero, List.set_cons_succ, List.map_cons, List.map_nil, List.length_cons, List.length_nil, List.replicate, List.cons_append, List.nil_append, eq_self, decide_eq_true_eq, Bool.not_eq_true', decide_eq_false_iff_not, Nat.reduceAdd, Nat.reduceSub, Nat.reduceLeDiff, and_true, true_and, if_true, if_false, ite_true, ite_false, Bool.false_eq_true, Bool.true_eq_false, Pv.PVA0, Pv.PVA1]
  refine lcI_w PV.int (fun pre acc S' => ∃ rows, acc = rows.map rowP ∧ Tc.RowsIn pre rows ∧ Bg b S' ∧ Pv.St b S S') (fun _ _ _ _ => trivial) ⟨[], rfl, ⟨List.Sublist.refl _, fun r hr => by cases hr⟩, hb, Pv.St.refl S⟩ (fun pre x post acc S1 e ⟨rows, e1, rin, b1, s1⟩ => ?_) fun acc S1 ⟨rows, e1, rin, b1, s1⟩ => ?_
  · try simp only [Pv.PV0, Pv.PV1, Pv.PV2, Pv.PV3, Pv.PV4, Pv.PV5, Pv.PV6, List.getElem?_cons_zero, List.getElem?_cons_succ, List.set_cons_zero, List.set_cons_succ, List.map_cons, List.map_nil, List.length_cons, List.length_nil, List.replicate, List.cons_append, List.nil_append, eq_self, decide_eq_true_eq, Bool.not_eq_true', decide_eq_false_iff_not, Nat.reduceAdd, Nat.reduceSub, Nat.reduceLeDiff, and_true, true_and, if_true, if_false, ite_true, ite_false, Bool.false_eq_true, Bool.true_eq_false, Pv.PVA0, Pv.PVA1]
    refine take_w b1 (by decide) (by decide) fun d S2 d0 d1 b2 s2 => ?_
    try simp only [Pv.PV0, Pv.PV1, Pv.PV2, Pv.PV3, Pv.PV4, Pv.PV5, Pv.PV6, List.getElem?_cons_zero, List.getElem?_cons_succ, List.set_cons_zero, List.set_cons_succ, List.map_cons, List.map_nil, List.length_cons, List.length_nil, List.replicate, List.cons_append, List.nil_append, eq_self, decide_eq_true_eq, Bool.not_eq_true', decide_eq_false_iff_not, Nat.reduceAdd, Nat.reduceSub, Nat.reduceLeDiff, and_true, true_and, if_true, if_false, ite_true, ite_false, Bool.false_eq_true, Bool.true_eq_false, Pv.PVA0, Pv.PVA1]
    refine ite_w (fun c => ?_) (fun c => ?_)
    · refine take_w b2 (by decide) (by decide) fun w S3 w0 w1 b3 s3 => ?_
      try simp only [Pv.PV0, Pv.PV1, Pv.PV2, Pv.PV3, Pv.PV4, Pv.PV5, Pv.PV6, List.getElem?_cons_zero, List.getElem?_cons_succ, List.set_cons_zero, List.set_cons_succ, List.map_cons, List.map_nil, List.length_cons, List.length_nil, List.replicate, List.cons_append, List.nil_append, eq_self, decide_eq_true_eq, Bool.not_eq_true', decide_eq_false_iff_not, Nat.reduceAdd, Nat.reduceSub, Nat.reduceLeDiff, and_true, true_and, if_true, if_false, ite_true, ite_false, Bool.false_eq_true, Bool.true_eq_false, Pv.PVA0, Pv.PVA1]
      refine ⟨?_, rows ++ [(x, w)], ?_, ⟨?_, fun r hr => ?_⟩, b3, (s1.trans s2).trans s3⟩
      · have := rin.1.length_le
        have le : ks.length = pre.length + (post.length + 1) := by rw [e, List.length_append, List.length_cons]
        rw [e1, List.length_map]
        rw [List.length_map] at this
        omega
      · rw [e1, List.map_append]; rfl
      · rw [List.map_append]
        exact rin.1.append (List.Sublist.refl _)
      · rcases List.mem_append.mp hr with z | z
        · exact rin.2 r z
        · cases List.mem_singleton.mp z
          exact ⟨w0, by show w ≤ 999; omega⟩
    · exact ⟨rows, e1, ⟨rin.1.trans (List.sublist_append_left _ _), rin.2⟩, b2, s1.trans s2⟩
  · subst e1
    exact h rows S1 rin b1 s1

theorem changes_w {b : Nat} {S : Sto} {Q : PV → Sto → Prop} {X : WXE} {ks : List Int} {m : Int} (hb : Bg b S) (k0 : 0 < ks.length) (hk : ks.length ≤ 100000) (m0 : 0 < m) (m1 : m ≤ 1000) (h : ∀ cs S', 1 ≤ cs.length → (cs.length : Int) ≤ m → (∀ c ∈ cs, c.In ks) → Bg b S' → Pv.St b S S' → Q (chsP cs) S') : wE (m__law_changes [.ref b, .fl (ks.map .int), .int m] S) Q X := by
  refine w_defT (m := m__law_changes) rfl ?_
  unfold b__law_changes
  try simp only [Pv.PV0, Pv.PV1, Pv.PV2, Pv.PV3, Pv.PV4, Pv.PV5, Pv.PV6, List.getElem?_cons_zero, List.getElem?_cons_succ, List.set_cons_zero, List.set_cons_succ, List.map_cons, List.map_nil, List.length_cons, List.length_nil, List.replicate, List.cons_append, List.nil_append, eq_self, decide_eq_true_eq, Bool.not_eq_true', decide_eq_false_iff_not, Nat.reduceAdd, Nat.reduceSub, Nat.reduceLeDiff, and_true, true_and, if_true, if_false, ite_true, ite_false, Bool.false_eq_true, Bool.true_eq_false, Pv.PVA0, Pv.PVA1]
  have hbA : Bg b (S ++ [Ob.lst []]) := hb.app trivial
  refine take_w hbA m0 (by omega) fun d S1 d0 d1 b1 s1 => ?_
  obtain ⟨S1, rfl, bb1, ss1⟩ := hb.off s1 b1
  try simp only [Pv.PV0, Pv.PV1, Pv.PV2, Pv.PV3, Pv.PV4, Pv.PV5, Pv.PV6, List.getElem?_cons_zero, List.getElem?_cons_succ, List.set_cons_zero, List.set_cons_succ, List.map_cons, List.map_nil, List.length_cons, List.length_nil, List.replicate, List.cons_append, List.nil_append, eq_self, decide_eq_true_eq, Bool.not_eq_true', decide_eq_false_iff_not, Nat.reduceAdd, Nat.reduceSub, Nat.reduceLeDiff, and_true, true_and, if_true, if_false, ite_true, ite_false, Bool.false_eq_true, Bool.true_eq_false, Pv.PVA0, Pv.PVA1]
  refine ⟨1 + d, rfl, by omega, by omega, ?_⟩
  obtain ⟨n, hn⟩ : ∃ n : Nat, 1 + d = (n : Int) := ⟨(1 + d).toNat, by omega⟩
  rw [hn, Int.toNat_natCast, rng0]
  refine forI_w iP (fun pre env S' => ∃ cs T x4 x5, S' = T ++ [Ob.lst (cs.map chP)] ∧ cs.length = pre.length ∧ (∀ c ∈ cs, c.In ks) ∧ Bg b T ∧ Pv.St b S T ∧ env = [some (.ref b), some (.fl (ks.map .int)), some (.int m), some (.ref S.length), x4, x5]) (fun _ _ _ _ => trivial) ⟨[], S1, _, _, rfl, rfl, fun c hc => (by cases hc), bb1, ss1, rfl⟩ (fun pre x post env S' e ⟨cs, T, x4, x5, e1, e2, cin, bT, sT, e3⟩ => ?_) fun env S' ⟨cs, T, x4, x5, e1, e2, cin, bT, sT, e3⟩ => ?_
  · subst e1 e3
    have pl : cs.length < n := by
      have : n = pre.length + (post.length + 1) := by rw [← List.length_range (n := n), e, List.length_append, List.length_cons]
      omega
    have lcs : ∀ k, LtPs k (cs.map chP) := fun k => lt_map lt_ch
    try simp only [Pv.PV0, Pv.PV1, Pv.PV2, Pv.PV3, Pv.PV4, Pv.PV5, Pv.PV6, List.getElem?_cons_zero, List.getElem?_cons_succ, List.set_cons_zero, List.set_cons_succ, List.map_cons, List.map_nil, List.length_cons, List.length_nil, List.replicate, List.cons_append, List.nil_append, eq_self, decide_eq_true_eq, Bool.not_eq_true', decide_eq_false_iff_not, Nat.reduceAdd, Nat.reduceSub, Nat.reduceLeDiff, and_true, true_and, if_true, if_false, ite_true, ite_false, Bool.false_eq_true, Bool.true_eq_false, Pv.PVA0, Pv.PVA1]
    refine of_w (bT.app (lcs _)) (by rw [List.length_map]; exact k0) (by rw [List.length_map]; exact hk) fun y S2 hy b2 s2 => ?_
    obtain ⟨key, hkey, rfl⟩ := List.mem_map.mp hy
    obtain ⟨S2, rfl, bb2, ss2⟩ := bT.off s2 b2
    try simp only [Pv.PV0, Pv.PV1, Pv.PV2, Pv.PV3, Pv.PV4, Pv.PV5, Pv.PV6, List.getElem?_cons_zero, List.getElem?_cons_succ, List.set_cons_zero, List.set_cons_succ, List.map_cons, List.map_nil, List.length_cons, List.length_nil, List.replicate, List.cons_append, List.nil_append, eq_self, decide_eq_true_eq, Bool.not_eq_true', decide_eq_false_iff_not, Nat.reduceAdd, Nat.reduceSub, Nat.reduceLeDiff, and_true, true_and, if_true, if_false, ite_true, ite_false, Bool.false_eq_true, Bool.true_eq_false, Pv.PVA0, Pv.PVA1]
    refine take_w b2 (by decide) (by decide) fun d2 S3 d20 d21 b3 s3 => ?_
    obtain ⟨S3, rfl, bb3, ss3⟩ := bb2.off s3 b3
    try simp only [Pv.PV0, Pv.PV1, Pv.PV2, Pv.PV3, Pv.PV4, Pv.PV5, Pv.PV6, List.getElem?_cons_zero, List.getElem?_cons_succ, List.set_cons_zero, List.set_cons_succ, List.map_cons, List.map_nil, List.length_cons, List.length_nil, List.replicate, List.cons_append, List.nil_append, eq_self, decide_eq_true_eq, Bool.not_eq_true', decide_eq_false_iff_not, Nat.reduceAdd, Nat.reduceSub, Nat.reduceLeDiff, and_true, true_and, if_true, if_false, ite_true, ite_false, Bool.false_eq_true, Bool.true_eq_false, Pv.PVA0, Pv.PVA1]
    have T3 : Pv.St b S S3 := (sT.trans ss2).trans ss3
    have g3 : (S3 ++ [Ob.lst (cs.map chP)])[S.length]? = some (.lst (cs.map chP)) := by rw [← T3.1]; exact get_app
    have ps : ∀ {S4 : Sto} {o : Ob}, Pv.St b S S4 → (S4 ++ [Ob.lst (cs.map chP)]).set S.length o = S4 ++ [o] := fun {S4 o} q => by rw [← q.1, List.set_append_right _ _ (Nat.le_refl _), Nat.sub_self]; rfl
    refine ite_w (fun c => ?_) (fun c => ?_)
    · try simp only [Pv.PV0, Pv.PV1, Pv.PV2, Pv.PV3, Pv.PV4, Pv.PV5, Pv.PV6, List.getElem?_cons_zero, List.getElem?_cons_succ, List.set_cons_zero, List.set_cons_succ, List.map_cons, List.map_nil, List.length_cons, List.length_nil, List.replicate, List.cons_append, List.nil_append, eq_self, decide_eq_true_eq, Bool.not_eq_true', decide_eq_false_iff_not, Nat.reduceAdd, Nat.reduceSub, Nat.reduceLeDiff, and_true, true_and, if_true, if_false, ite_true, ite_false, Bool.false_eq_true, Bool.true_eq_false, Pv.PVA0, Pv.PVA1, lsq_lst g3]
      rw [g3]
      try simp only [Pv.PV0, Pv.PV1, Pv.PV2, Pv.PV3, Pv.PV4, Pv.PV5, Pv.PV6, List.getElem?_cons_zero, List.getElem?_cons_succ, List.set_cons_zero, List.set_cons_succ, List.map_cons, List.map_nil, List.length_cons, List.length_nil, List.replicate, List.cons_append, List.nil_append, eq_self, decide_eq_true_eq, Bool.not_eq_true', decide_eq_false_iff_not, Nat.reduceAdd, Nat.reduceSub, Nat.reduceLeDiff, and_true, true_and, if_true, if_false, ite_true, ite_false, Bool.false_eq_true, Bool.true_eq_false, Pv.PVA0, Pv.PVA1]
      unfold apF
      try simp only [Pv.PV0, Pv.PV1, Pv.PV2, Pv.PV3, Pv.PV4, Pv.PV5, Pv.PV6, List.getElem?_cons_zero, List.getElem?_cons_succ, List.set_cons_zero, List.set_cons_succ, List.map_cons, List.map_nil, List.length_cons, List.length_nil, List.replicate, List.cons_append, List.nil_append, eq_self, decide_eq_true_eq, Bool.not_eq_true', decide_eq_false_iff_not, Nat.reduceAdd, Nat.reduceSub, Nat.reduceLeDiff, and_true, true_and, if_true, if_false, ite_true, ite_false, Bool.false_eq_true, Bool.true_eq_false, Pv.PVA0, Pv.PVA1]
      refine ⟨by rw [List.length_map]; omega, cs ++ [.drop key], S3, _, _, ?_, by rw [List.length_append, List.length_append, e2]; rfl, fun c hc => ?_, bb3, T3, rfl⟩
      · rw [ps T3, List.map_append]; rfl
      · rcases List.mem_append.mp hc with z | z
        · exact cin c z
        · cases List.mem_singleton.mp z; exact hkey
    · try simp only [Pv.PV0, Pv.PV1, Pv.PV2, Pv.PV3, Pv.PV4, Pv.PV5, Pv.PV6, List.getElem?_cons_zero, List.getElem?_cons_succ, List.set_cons_zero, List.set_cons_succ, List.map_cons, List.map_nil, List.length_cons, List.length_nil, List.replicate, List.cons_append, List.nil_append, eq_self, decide_eq_true_eq, Bool.not_eq_true', decide_eq_false_iff_not, Nat.reduceAdd, Nat.reduceSub, Nat.reduceLeDiff, and_true, true_and, if_true, if_false, ite_true, ite_false, Bool.false_eq_true, Bool.true_eq_false, Pv.PVA0, Pv.PVA1, lsq_lst g3]
      refine take_w b3 (by decide) (by decide) fun w1 S4 w10 w11 b4 s4 => ?_
      obtain ⟨S4, rfl, bb4, ss4⟩ := bb3.off s4 b4
      try simp only [Pv.PV0, Pv.PV1, Pv.PV2, Pv.PV3, Pv.PV4, Pv.PV5, Pv.PV6, List.getElem?_cons_zero, List.getElem?_cons_succ, List.set_cons_zero, List.set_cons_succ, List.map_cons, List.map_nil, List.length_cons, List.length_nil, List.replicate, List.cons_append, List.nil_append, eq_self, decide_eq_true_eq, Bool.not_eq_true', decide_eq_false_iff_not, Nat.reduceAdd, Nat.reduceSub, Nat.reduceLeDiff, and_true, true_and, if_true, if_false, ite_true, ite_false, Bool.false_eq_true, Bool.true_eq_false, Pv.PVA0, Pv.PVA1]
      refine take_w b4 (by decide) (by decide) fun w2 S5 w20 w21 b5 s5 => ?_
      obtain ⟨S5, rfl, bb5, ss5⟩ := bb4.off s5 b5
      try simp only [Pv.PV0, Pv.PV1, Pv.PV2, Pv.PV3, Pv.PV4, Pv.PV5, Pv.PV6, List.getElem?_cons_zero, List.getElem?_cons_succ, List.set_cons_zero, List.set_cons_succ, List.map_cons, List.map_nil, List.length_cons, List.length_nil, List.replicate, List.cons_append, List.nil_append, eq_self, decide_eq_true_eq, Bool.not_eq_true', decide_eq_false_iff_not, Nat.reduceAdd, Nat.reduceSub, Nat.reduceLeDiff, and_true, true_and, if_true, if_false, ite_true, ite_false, Bool.false_eq_true, Bool.true_eq_false, Pv.PVA0, Pv.PVA1]
      refine take_w b5 (by decide) (by decide) fun w3 S6 w30 w31 b6 s6 => ?_
      obtain ⟨S6, rfl, bb6, ss6⟩ := bb5.off s6 b6
      have T6 : Pv.St b S S6 := ((T3.trans ss4).trans ss5).trans ss6
      have g6 : (S6 ++ [Ob.lst (cs.map chP)])[S.length]? = some (.lst (cs.map chP)) := by rw [← T6.1]; exact get_app
      try simp only [Pv.PV0, Pv.PV1, Pv.PV2, Pv.PV3, Pv.PV4, Pv.PV5, Pv.PV6, List.getElem?_cons_zero, List.getElem?_cons_succ, List.set_cons_zero, List.set_cons_succ, List.map_cons, List.map_nil, List.length_cons, List.length_nil, List.replicate, List.cons_append, List.nil_append, eq_self, decide_eq_true_eq, Bool.not_eq_true', decide_eq_false_iff_not, Nat.reduceAdd, Nat.reduceSub, Nat.reduceLeDiff, and_true, true_and, if_true, if_false, ite_true, ite_false, Bool.false_eq_true, Bool.true_eq_false, Pv.PVA0, Pv.PVA1]
      have pick : ∃ w : Int, atI [PV.int w1, .int w2] w3 = some (.int w) ∧ 0 ≤ w ∧ w ≤ 999 := by
        have : w3 = 0 ∨ w3 = 1 := by omega
        rcases this with rfl | rfl
        · exact ⟨w1, rfl, w10, by omega⟩
        · exact ⟨w2, rfl, w20, by omega⟩
      obtain ⟨w, ew, w0, w9⟩ := pick
      rw [ew]
      try simp only [Pv.PV0, Pv.PV1, Pv.PV2, Pv.PV3, Pv.PV4, Pv.PV5, Pv.PV6, List.getElem?_cons_zero, List.getElem?_cons_succ, List.set_cons_zero, List.set_cons_succ, List.map_cons, List.map_nil, List.length_cons, List.length_nil, List.replicate, List.cons_append, List.nil_append, eq_self, decide_eq_true_eq, Bool.not_eq_true', decide_eq_false_iff_not, Nat.reduceAdd, Nat.reduceSub, Nat.reduceLeDiff, and_true, true_and, if_true, if_false, ite_true, ite_false, Bool.false_eq_true, Bool.true_eq_false, Pv.PVA0, Pv.PVA1]
      rw [g6]
      unfold apF
      try simp only [Pv.PV0, Pv.PV1, Pv.PV2, Pv.PV3, Pv.PV4, Pv.PV5, Pv.PV6, List.getElem?_cons_zero, List.getElem?_cons_succ, List.set_cons_zero, List.set_cons_succ, List.map_cons, List.map_nil, List.length_cons, List.length_nil, List.replicate, List.cons_append, List.nil_append, eq_self, decide_eq_true_eq, Bool.not_eq_true', decide_eq_false_iff_not, Nat.reduceAdd, Nat.reduceSub, Nat.reduceLeDiff, and_true, true_and, if_true, if_false, ite_true, ite_false, Bool.false_eq_true, Bool.true_eq_false, Pv.PVA0, Pv.PVA1]
      refine ⟨by rw [List.length_map]; omega, cs ++ [.put key w], S6, _, _, ?_, by rw [List.length_append, List.length_append, e2]; rfl, fun c hc => ?_, bb6, T6, rfl⟩
      · rw [ps T6, List.map_append]; rfl
      · rcases List.mem_append.mp hc with z | z
        · exact cin c z
        · cases List.mem_singleton.mp z; exact ⟨hkey, w0, w9⟩
  · subst e1 e3
    have gT : (T ++ [Ob.lst (cs.map chP)])[S.length]? = some (.lst (cs.map chP)) := by rw [← sT.1]; exact get_app
    try simp only [Pv.PV0, Pv.PV1, Pv.PV2, Pv.PV3, Pv.PV4, Pv.PV5, Pv.PV6, List.getElem?_cons_zero, List.getElem?_cons_succ, List.set_cons_zero, List.set_cons_succ, List.map_cons, List.map_nil, List.length_cons, List.length_nil, List.replicate, List.cons_append, List.nil_append, eq_self, decide_eq_true_eq, Bool.not_eq_true', decide_eq_false_iff_not, Nat.reduceAdd, Nat.reduceSub, Nat.reduceLeDiff, and_true, true_and, if_true, if_false, ite_true, ite_false, Bool.false_eq_true, Bool.true_eq_false, Pv.PVA0, Pv.PVA1, seq_lst gT]
    refine ⟨Clo.cl sT bT.2, .inl ⟨lt_chs cs, ?_⟩⟩
    rw [st_take sT]
    refine h cs T ?_ ?_ cin bT sT
    · rw [e2, List.length_range]; omega
    · rw [e2, List.length_range]; omega
theorem entry_w {b : Nat} {S : Sto} {Q : PV → Sto → Prop} {X : WXE} {ks : List Int} (hb : Bg b S) (k0 : 0 < ks.length) (hk : ks.length ≤ 100000) (h : ∀ e S', Ent.In ks 3 e → Bg b S' → Pv.St b S S' → Q (entP e) S') : wE (m__law_entry [.ref b, .fl (ks.map .int)] S) Q X := by
  refine w_defB (m := m__law_entry) rfl ?_
  unfold b__law_entry
  try simp only [Pv.PV0, Pv.PV1, Pv.PV2, Pv.PV3, Pv.PV4, Pv.PV5, Pv.PV6, List.getElem?_cons_zero, List.getElem?_cons_succ, List.set_cons_zero, List.set_cons_succ, List.map_cons, List.map_nil, List.length_cons, List.length_nil, List.replicate, List.cons_append, List.nil_append, eq_self, decide_eq_true_eq, Bool.not_eq_true', decide_eq_false_iff_not, Nat.reduceAdd, Nat.reduceSub, Nat.reduceLeDiff, and_true, true_and, if_true, if_false, ite_true, ite_false, Bool.false_eq_true, Bool.true_eq_false, Pv.PVA0, Pv.PVA1]
  refine take_w hb (by decide) (by decide) fun d S1 d0 d1 b1 s1 => ?_
  try simp only [Pv.PV0, Pv.PV1, Pv.PV2, Pv.PV3, Pv.PV4, Pv.PV5, Pv.PV6, List.getElem?_cons_zero, List.getElem?_cons_succ, List.set_cons_zero, List.set_cons_succ, List.map_cons, List.map_nil, List.length_cons, List.length_nil, List.replicate, List.cons_append, List.nil_append, eq_self, decide_eq_true_eq, Bool.not_eq_true', decide_eq_false_iff_not, Nat.reduceAdd, Nat.reduceSub, Nat.reduceLeDiff, and_true, true_and, if_true, if_false, ite_true, ite_false, Bool.false_eq_true, Bool.true_eq_false, Pv.PVA0, Pv.PVA1]
  refine ite_w (fun c => ?_) (fun c => ?_)
  · refine take_w b1 (by decide) (by decide) fun d2 S2 d20 d21 b2 s2 => ?_
    have pick : ∃ lo : Bool, atI [PV.str "low", .str "high"] d2 = some (.str (mkS lo)) := by
      have : d2 = 0 ∨ d2 = 1 := by omega
      rcases this with rfl | rfl
      · exact ⟨true, rfl⟩
      · exact ⟨false, rfl⟩
    obtain ⟨lo, el⟩ := pick
    try simp only [Pv.PV0, Pv.PV1, Pv.PV2, Pv.PV3, Pv.PV4, Pv.PV5, Pv.PV6, List.getElem?_cons_zero, List.getElem?_cons_succ, List.set_cons_zero, List.set_cons_succ, List.map_cons, List.map_nil, List.length_cons, List.length_nil, List.replicate, List.cons_append, List.nil_append, eq_self, decide_eq_true_eq, Bool.not_eq_true', decide_eq_false_iff_not, Nat.reduceAdd, Nat.reduceSub, Nat.reduceLeDiff, and_true, true_and, if_true, if_false, ite_true, ite_false, Bool.false_eq_true, Bool.true_eq_false, Pv.PVA0, Pv.PVA1]
    rw [el]
    try simp only [Pv.PV0, Pv.PV1, Pv.PV2, Pv.PV3, Pv.PV4, Pv.PV5, Pv.PV6, List.getElem?_cons_zero, List.getElem?_cons_succ, List.set_cons_zero, List.set_cons_succ, List.map_cons, List.map_nil, List.length_cons, List.length_nil, List.replicate, List.cons_append, List.nil_append, eq_self, decide_eq_true_eq, Bool.not_eq_true', decide_eq_false_iff_not, Nat.reduceAdd, Nat.reduceSub, Nat.reduceLeDiff, and_true, true_and, if_true, if_false, ite_true, ite_false, Bool.false_eq_true, Bool.true_eq_false, Pv.PVA0, Pv.PVA1]
    refine take_w b2 (by decide) (by decide) fun l S3 l0 l1 b3 s3 => ?_
    try simp only [Pv.PV0, Pv.PV1, Pv.PV2, Pv.PV3, Pv.PV4, Pv.PV5, Pv.PV6, List.getElem?_cons_zero, List.getElem?_cons_succ, List.set_cons_zero, List.set_cons_succ, List.map_cons, List.map_nil, List.length_cons, List.length_nil, List.replicate, List.cons_append, List.nil_append, eq_self, decide_eq_true_eq, Bool.not_eq_true', decide_eq_false_iff_not, Nat.reduceAdd, Nat.reduceSub, Nat.reduceLeDiff, and_true, true_and, if_true, if_false, ite_true, ite_false, Bool.false_eq_true, Bool.true_eq_false, Pv.PVA0, Pv.PVA1]
    refine take_w b3 (by decide) (by decide) fun u S4 u0 u1 b4 s4 => ?_
    try simp only [Pv.PV0, Pv.PV1, Pv.PV2, Pv.PV3, Pv.PV4, Pv.PV5, Pv.PV6, List.getElem?_cons_zero, List.getElem?_cons_succ, List.set_cons_zero, List.set_cons_succ, List.map_cons, List.map_nil, List.length_cons, List.length_nil, List.replicate, List.cons_append, List.nil_append, eq_self, decide_eq_true_eq, Bool.not_eq_true', decide_eq_false_iff_not, Nat.reduceAdd, Nat.reduceSub, Nat.reduceLeDiff, and_true, true_and, if_true, if_false, ite_true, ite_false, Bool.false_eq_true, Bool.true_eq_false, Pv.PVA0, Pv.PVA1]
    exact h (.mark lo (1 + l) u) S4 ⟨by omega, by omega, u0, by omega⟩ b4 (((s1.trans s2).trans s3).trans s4)
  · refine changes_w b1 k0 hk (by decide) (by decide) fun cs S2 c1 c2 c3 b2 s2 => ?_
    try simp only [Pv.PV0, Pv.PV1, Pv.PV2, Pv.PV3, Pv.PV4, Pv.PV5, Pv.PV6, List.getElem?_cons_zero, List.getElem?_cons_succ, List.set_cons_zero, List.set_cons_succ, List.map_cons, List.map_nil, List.length_cons, List.length_nil, List.replicate, List.cons_append, List.nil_append, eq_self, decide_eq_true_eq, Bool.not_eq_true', decide_eq_false_iff_not, Nat.reduceAdd, Nat.reduceSub, Nat.reduceLeDiff, and_true, true_and, if_true, if_false, ite_true, ite_false, Bool.false_eq_true, Bool.true_eq_false, Pv.PVA0, Pv.PVA1]
    exact h (.group cs) S2 ⟨c1, by omega, c3⟩ b2 (s1.trans s2)
theorem log_w {b : Nat} {S : Sto} {Q : PV → Sto → Prop} {X : WXE} {ks : List Int} {m : Int} (hb : Bg b S) (k0 : 0 < ks.length) (hk : ks.length ≤ 100000) (m0 : 0 ≤ m) (m1 : m ≤ 1000) (h : ∀ es S', (es.length : Int) ≤ m → (∀ e ∈ es, Ent.In ks 3 e) → Bg b S' → Pv.St b S S' → Q (logP es) S') : wE (m__law_log [.ref b, .fl (ks.map .int), .int m] S) Q X := by
  refine w_defB (m := m__law_log) rfl ?_
  unfold b__law_log
  try simp only [Pv.PV0, Pv.PV1, Pv.PV2, Pv.PV3, Pv.PV4, Pv.PV5, Pv.PV6, List.getElem?_cons_zero, List.getElem?_cons_succ, List.set_cons_zero, List.set_cons_succ, List.map_cons, List.map_nil, List.length_cons, List.length_nil, List.replicate, List.cons_append, List.nil_append, eq_self, decide_eq_true_eq, Bool.not_eq_true', decide_eq_false_iff_not, Nat.reduceAdd, Nat.reduceSub, Nat.reduceLeDiff, and_true, true_and, if_true, if_false, ite_true, ite_false, Bool.false_eq_true, Bool.true_eq_false, Pv.PVA0, Pv.PVA1]
  refine take_w hb (by omega) (by omega) fun d S1 d0 d1 b1 s1 => ?_
  try simp only [Pv.PV0, Pv.PV1, Pv.PV2, Pv.PV3, Pv.PV4, Pv.PV5, Pv.PV6, List.getElem?_cons_zero, List.getElem?_cons_succ, List.set_cons_zero, List.set_cons_succ, List.map_cons, List.map_nil, List.length_cons, List.length_nil, List.replicate, List.cons_append, List.nil_append, eq_self, decide_eq_true_eq, Bool.not_eq_true', decide_eq_false_iff_not, Nat.reduceAdd, Nat.reduceSub, Nat.reduceLeDiff, and_true, true_and, if_true, if_false, ite_true, ite_false, Bool.false_eq_true, Bool.true_eq_false, Pv.PVA0, Pv.PVA1]
  refine ⟨d, rfl, by omega, by omega, ?_⟩
  obtain ⟨n, hn⟩ : ∃ n : Nat, d = (n : Int) := ⟨d.toNat, by omega⟩
  rw [hn, Int.toNat_natCast, rng0]
  refine lcI_m iP (fun pre acc S' => ∃ es, acc = es.map entP ∧ es.length = pre.length ∧ (∀ e ∈ es, Ent.In ks 3 e) ∧ Bg b S' ∧ Pv.St b S S') (fun _ _ _ _ => trivial) ⟨[], rfl, rfl, fun e he => (by cases he), b1, s1⟩ (fun pre x post acc S2 e ⟨es, e1, e2, ein, b2, s2⟩ => ?_) fun acc S2 ⟨es, e1, e2, ein, b2, s2⟩ => ?_
  · try simp only [Pv.PV0, Pv.PV1, Pv.PV2, Pv.PV3, Pv.PV4, Pv.PV5, Pv.PV6, List.getElem?_cons_zero, List.getElem?_cons_succ, List.set_cons_zero, List.set_cons_succ, List.map_cons, List.map_nil, List.length_cons, List.length_nil, List.replicate, List.cons_append, List.nil_append, eq_self, decide_eq_true_eq, Bool.not_eq_true', decide_eq_false_iff_not, Nat.reduceAdd, Nat.reduceSub, Nat.reduceLeDiff, and_true, true_and, if_true, if_false, ite_true, ite_false, Bool.false_eq_true, Bool.true_eq_false, Pv.PVA0, Pv.PVA1]
    refine entry_w b2 k0 hk fun e3 S3 in3 b3 s3 => ?_
    have pl : es.length < n := by
      have : n = pre.length + (post.length + 1) := by rw [← List.length_range (n := n), e, List.length_append, List.length_cons]
      omega
    refine ⟨by rw [e1, List.length_map]; omega, es ++ [e3], by rw [e1, List.map_append]; rfl, by rw [List.length_append, List.length_append, e2]; rfl, fun x hx => ?_, b3, s2.trans s3⟩
    rcases List.mem_append.mp hx with z | z
    · exact ein x z
    · cases List.mem_singleton.mp z; exact in3
  · subst e1
    exact h es S2 (by rw [e2, List.length_range]; omega) ein b2 s2

theorem groups_w {S : Sto} {Q : PV → Sto → Prop} {X : WXE} {es : List Ent} (hl : es.length ≤ 100000) (h : Q (.fl (es.map fun e => chsP (chsOf e))) S) : wE (m__law_groups [logP es] S) Q X := by
  refine w_defB (m := m__law_groups) rfl ?_
  unfold b__law_groups logP
  try simp only [Pv.PV0, Pv.PV1, Pv.PV2, Pv.PV3, Pv.PV4, Pv.PV5, Pv.PV6, List.getElem?_cons_zero, List.getElem?_cons_succ, List.set_cons_zero, List.set_cons_succ, List.map_cons, List.map_nil, List.length_cons, List.length_nil, List.replicate, List.cons_append, List.nil_append, eq_self, decide_eq_true_eq, Bool.not_eq_true', decide_eq_false_iff_not, Nat.reduceAdd, Nat.reduceSub, Nat.reduceLeDiff, and_true, true_and, if_true, if_false, ite_true, ite_false, Bool.false_eq_true, Bool.true_eq_false, Pv.PVA0, Pv.PVA1]
  refine lcM entP (fun e => chsP (chsOf e)) trivial hl (fun e he => ?_) h
  cases e with
  | group cs => unfold entP; try simp only [Pv.PV0, Pv.PV1, Pv.PV2, Pv.PV3, Pv.PV4, Pv.PV5, Pv.PV6, List.getElem?_cons_zero, List.getElem?_cons_succ, List.set_cons_zero, List.set_cons_succ, List.map_cons, List.map_nil, List.length_cons, List.length_nil, List.replicate, List.cons_append, List.nil_append, eq_self, decide_eq_true_eq, Bool.not_eq_true', decide_eq_false_iff_not, Nat.reduceAdd, Nat.reduceSub, Nat.reduceLeDiff, and_true, true_and, if_true, if_false, ite_true, ite_false, Bool.false_eq_true, Bool.true_eq_false, Pv.PVA0, Pv.PVA1]; exact rfl
  | mark lo l n => unfold entP; try simp only [Pv.PV0, Pv.PV1, Pv.PV2, Pv.PV3, Pv.PV4, Pv.PV5, Pv.PV6, List.getElem?_cons_zero, List.getElem?_cons_succ, List.set_cons_zero, List.set_cons_succ, List.map_cons, List.map_nil, List.length_cons, List.length_nil, List.replicate, List.cons_append, List.nil_append, eq_self, decide_eq_true_eq, Bool.not_eq_true', decide_eq_false_iff_not, Nat.reduceAdd, Nat.reduceSub, Nat.reduceLeDiff, and_true, true_and, if_true, if_false, ite_true, ite_false, Bool.false_eq_true, Bool.true_eq_false, Pv.PVA0, Pv.PVA1]; exact rfl
theorem done_w {S : Sto} {Q : PV → Sto → Prop} {X : WXE} {i : Nat} {ks : List Int} {M : List Rw} {cs : List Ch} (hk : ks.length < 100000) (hS : S[i]? = some (.dic (kvP M))) (mok : Tc.Mok ks M) (hc : ∀ c ∈ cs, c.In ks) (h : Q .non (S.set i (.dic (kvP (cs.foldl chM M))))) : wE (m__law_done [.ref i, chsP cs] S) Q X := by
  refine w_defB (m := m__law_done) rfl ?_
  unfold b__law_done chsP
  try simp only [Pv.PV0, Pv.PV1, Pv.PV2, Pv.PV3, Pv.PV4, Pv.PV5, Pv.PV6, List.getElem?_cons_zero, List.getElem?_cons_succ, List.set_cons_zero, List.set_cons_succ, List.map_cons, List.map_nil, List.length_cons, List.length_nil, List.replicate, List.cons_append, List.nil_append, eq_self, decide_eq_true_eq, Bool.not_eq_true', decide_eq_false_iff_not, Nat.reduceAdd, Nat.reduceSub, Nat.reduceLeDiff, and_true, true_and, if_true, if_false, ite_true, ite_false, Bool.false_eq_true, Bool.true_eq_false, Pv.PVA0, Pv.PVA1]
  refine forI_w chP (fun pre env S' => S' = S.set i (.dic (kvP (pre.foldl chM M))) ∧ ∃ x, env = [some (.ref i), some (.tup (cs.map chP)), x]) (fun _ _ _ _ => trivial) ⟨(set_self hS).symm, _, rfl⟩ (fun pre c post env S' e ⟨e1, x, e2⟩ => ?_) fun env S' ⟨e1, x, e2⟩ => ?_
  · subst e1 e2
    have m2 : Tc.Mok ks (pre.foldl chM M) := mok.chs fun c hc2 => hc c (by rw [e]; exact List.mem_append_left _ hc2)
    have l2 := m2.len
    have lk : (kvP (pre.foldl chM M)).length < 100000 := by unfold kvP; rw [List.length_map]; omega
    cases c with
    | put k w =>
      unfold chP
      try simp only [Pv.PV0, Pv.PV1, Pv.PV2, Pv.PV3, Pv.PV4, Pv.PV5, Pv.PV6, List.getElem?_cons_zero, List.getElem?_cons_succ, List.set_cons_zero, List.set_cons_succ, List.map_cons, List.map_nil, List.length_cons, List.length_nil, List.replicate, List.cons_append, List.nil_append, eq_self, decide_eq_true_eq, Bool.not_eq_true', decide_eq_false_iff_not, Nat.reduceAdd, Nat.reduceSub, Nat.reduceLeDiff, and_true, true_and, if_true, if_false, ite_true, ite_false, Bool.false_eq_true, Bool.true_eq_false, Pv.PVA0, Pv.PVA1, set_dic (get_set hS), put_kvp, List.set_set]
      refine ⟨lk, ?_, _, rfl⟩
      rw [List.foldl_append]; rfl
    | drop k =>
      unfold chP
      try simp only [Pv.PV0, Pv.PV1, Pv.PV2, Pv.PV3, Pv.PV4, Pv.PV5, Pv.PV6, List.getElem?_cons_zero, List.getElem?_cons_succ, List.set_cons_zero, List.set_cons_succ, List.map_cons, List.map_nil, List.length_cons, List.length_nil, List.replicate, List.cons_append, List.nil_append, eq_self, decide_eq_true_eq, Bool.not_eq_true', decide_eq_false_iff_not, Nat.reduceAdd, Nat.reduceSub, Nat.reduceLeDiff, and_true, true_and, if_true, if_false, ite_true, ite_false, Bool.false_eq_true, Bool.true_eq_false, Pv.PVA0, Pv.PVA1, dic_dic (get_set hS), get_set hS, List.set_set, get_kvp, drop_kvp]
      cases hg : getM (pre.foldl chM M) k with
      | none =>
        refine ⟨?_, _, rfl⟩
        rw [List.foldl_append]
        show _ = S.set i (.dic (kvP (dropM (pre.foldl chM M) k)))
        rw [get_none hg]
      | some w =>
        refine ⟨?_, _, rfl⟩
        rw [List.foldl_append]; rfl
  · subst e1
    exact h
theorem pairs_w {S : Sto} {Q : PV → Sto → Prop} {X : WXE} {i : Nat} {M : List Rw} (hS : S[i]? = some (.dic (kvP M))) (hl : M.length ≤ 100000) (h : Q (tabP (tabOf M)) S) : wE (m__law_pairs [.ref i] S) Q X := by
  refine w_defB (m := m__law_pairs) rfl ?_
  unfold b__law_pairs
  try simp only [Pv.PV0, Pv.PV1, Pv.PV2, Pv.PV3, Pv.PV4, Pv.PV5, Pv.PV6, List.getElem?_cons_zero, List.getElem?_cons_succ, List.set_cons_zero, List.set_cons_succ, List.map_cons, List.map_nil, List.length_cons, List.length_nil, List.replicate, List.cons_append, List.nil_append, eq_self, decide_eq_true_eq, Bool.not_eq_true', decide_eq_false_iff_not, Nat.reduceAdd, Nat.reduceSub, Nat.reduceLeDiff, and_true, true_and, if_true, if_false, ite_true, ite_false, Bool.false_eq_true, Bool.true_eq_false, Pv.PVA0, Pv.PVA1, sort_dicA hS]
  refine lcM PV.int (fun k => rowP (k, (getM M k).getD 0)) trivial (by unfold sortI; rw [List.length_mergeSort, List.length_map]; exact hl) (fun k hk => ?_) ?_
  · have hk := sortI_mem.mp hk
    obtain ⟨w, e, _⟩ := get_mem hk
    try simp only [Pv.PV0, Pv.PV1, Pv.PV2, Pv.PV3, Pv.PV4, Pv.PV5, Pv.PV6, List.getElem?_cons_zero, List.getElem?_cons_succ, List.set_cons_zero, List.set_cons_succ, List.map_cons, List.map_nil, List.length_cons, List.length_nil, List.replicate, List.cons_append, List.nil_append, eq_self, decide_eq_true_eq, Bool.not_eq_true', decide_eq_false_iff_not, Nat.reduceAdd, Nat.reduceSub, Nat.reduceLeDiff, and_true, true_and, if_true, if_false, ite_true, ite_false, Bool.false_eq_true, Bool.true_eq_false, Pv.PVA0, Pv.PVA1, ix_dic hS, get_kvp, e, Option.map_some]
    exact rfl
  · try simp only [Pv.PV0, Pv.PV1, Pv.PV2, Pv.PV3, Pv.PV4, Pv.PV5, Pv.PV6, List.getElem?_cons_zero, List.getElem?_cons_succ, List.set_cons_zero, List.set_cons_succ, List.map_cons, List.map_nil, List.length_cons, List.length_nil, List.replicate, List.cons_append, List.nil_append, eq_self, decide_eq_true_eq, Bool.not_eq_true', decide_eq_false_iff_not, Nat.reduceAdd, Nat.reduceSub, Nat.reduceLeDiff, and_true, true_and, if_true, if_false, ite_true, ite_false, Bool.false_eq_true, Bool.true_eq_false, Pv.PVA0, Pv.PVA1]
    rw [show (sortI (M.map (·.1))).map (fun k => rowP (k, (getM M k).getD 0)) = (tabOf M).map rowP by unfold tabOf; rw [List.map_map]; rfl]
    exact h
theorem at_w {S : Sto} {Q : PV → Sto → Prop} {X : WXE} {ks : List Int} {rows : List Rw} {es : List Ent} {m n : Nat} (c : Clo S) (hk : ks.length < 100000) (hr : ∀ r ∈ rows, r.1 ∈ ks ∧ 0 ≤ r.2 ∧ r.2 ≤ 999) (hl : es.length ≤ 100000) (he : ∀ e ∈ es, Ent.In ks m e) (h : Q (tabP (tabAt rows es n)) S) : wE (m__law_at [tabP rows, logP es, .int (n : Int)] S) Q X := by
  refine w_defT (m := m__law_at) rfl ?_
  unfold b__law_at
  try simp only [Pv.PV0, Pv.PV1, Pv.PV2, Pv.PV3, Pv.PV4, Pv.PV5, Pv.PV6, List.getElem?_cons_zero, List.getElem?_cons_succ, List.set_cons_zero, List.set_cons_succ, List.map_cons, List.map_nil, List.length_cons, List.length_nil, List.replicate, List.cons_append, List.nil_append, eq_self, decide_eq_true_eq, Bool.not_eq_true', decide_eq_false_iff_not, Nat.reduceAdd, Nat.reduceSub, Nat.reduceLeDiff, and_true, true_and, if_true, if_false, ite_true, ite_false, Bool.false_eq_true, Bool.true_eq_false, Pv.PVA0, Pv.PVA1, dict_tabA]
  refine groups_w hl ?_
  try simp only [Pv.PV0, Pv.PV1, Pv.PV2, Pv.PV3, Pv.PV4, Pv.PV5, Pv.PV6, List.getElem?_cons_zero, List.getElem?_cons_succ, List.set_cons_zero, List.set_cons_succ, List.map_cons, List.map_nil, List.length_cons, List.length_nil, List.replicate, List.cons_append, List.nil_append, eq_self, decide_eq_true_eq, Bool.not_eq_true', decide_eq_false_iff_not, Nat.reduceAdd, Nat.reduceSub, Nat.reduceLeDiff, and_true, true_and, if_true, if_false, ite_true, ite_false, Bool.false_eq_true, Bool.true_eq_false, Pv.PVA0, Pv.PVA1]
  rw [show cutP (es.map fun e => chsP (chsOf e)) none (some (n : Int)) = (es.take n).map fun e => chsP (chsOf e) by rw [cut_take, List.map_take]]
  refine forI_w (fun e => chsP (chsOf e)) (fun pre env S' => S' = S ++ [.dic (kvP (logM (normM rows) pre))] ∧ ∃ x, env = [some (tabP rows), some (logP es), some (.int (n : Int)), some (.ref S.length), x]) (fun _ _ _ _ => trivial) ⟨rfl, _, rfl⟩ (fun pre e post env S' e0 ⟨e1, x, e2⟩ => ?_) fun env S' ⟨e1, x, e2⟩ => ?_
  · subst e1 e2
    have hin : ∀ z ∈ pre ++ [e], Ent.In ks m z := fun z hz => he z (List.mem_of_mem_take (i := n) (by rw [e0]; exact (List.append_cons pre e post) ▸ List.mem_append_left _ hz))
    try simp only [Pv.PV0, Pv.PV1, Pv.PV2, Pv.PV3, Pv.PV4, Pv.PV5, Pv.PV6, List.getElem?_cons_zero, List.getElem?_cons_succ, List.set_cons_zero, List.set_cons_succ, List.map_cons, List.map_nil, List.length_cons, List.length_nil, List.replicate, List.cons_append, List.nil_append, eq_self, decide_eq_true_eq, Bool.not_eq_true', decide_eq_false_iff_not, Nat.reduceAdd, Nat.reduceSub, Nat.reduceLeDiff, and_true, true_and, if_true, if_false, ite_true, ite_false, Bool.false_eq_true, Bool.true_eq_false, Pv.PVA0, Pv.PVA1]
    refine done_w hk get_app ((Tc.Mok.norm hr).log (m := m) fun z hz => hin z (List.mem_append_left _ hz)) (hin e (by simp)).chs ?_
    try simp only [Pv.PV0, Pv.PV1, Pv.PV2, Pv.PV3, Pv.PV4, Pv.PV5, Pv.PV6, List.getElem?_cons_zero, List.getElem?_cons_succ, List.set_cons_zero, List.set_cons_succ, List.map_cons, List.map_nil, List.length_cons, List.length_nil, List.replicate, List.cons_append, List.nil_append, eq_self, decide_eq_true_eq, Bool.not_eq_true', decide_eq_false_iff_not, Nat.reduceAdd, Nat.reduceSub, Nat.reduceLeDiff, and_true, true_and, if_true, if_false, ite_true, ite_false, Bool.false_eq_true, Bool.true_eq_false, Pv.PVA0, Pv.PVA1]
    refine ⟨?_, _, rfl⟩
    unfold logM
    rw [List.foldl_append]; rfl
  · subst e1 e2
    have mok : Tc.Mok ks (logM (normM rows) (es.take n)) := (Tc.Mok.norm hr).log (m := m) fun z hz => he z (List.mem_of_mem_take hz)
    try simp only [Pv.PV0, Pv.PV1, Pv.PV2, Pv.PV3, Pv.PV4, Pv.PV5, Pv.PV6, List.getElem?_cons_zero, List.getElem?_cons_succ, List.set_cons_zero, List.set_cons_succ, List.map_cons, List.map_nil, List.length_cons, List.length_nil, List.replicate, List.cons_append, List.nil_append, eq_self, decide_eq_true_eq, Bool.not_eq_true', decide_eq_false_iff_not, Nat.reduceAdd, Nat.reduceSub, Nat.reduceLeDiff, and_true, true_and, if_true, if_false, ite_true, ite_false, Bool.false_eq_true, Bool.true_eq_false, Pv.PVA0, Pv.PVA1]
    refine pairs_w get_app (by have := mok.len; omega) ?_
    exact ⟨c.take, .inl ⟨lt_tab _, by rw [take_app]; exact h⟩⟩

theorem chsof_w {S : Sto} {Q : PV → Sto → Prop} {X : WXE} {e : Ent} (h : Q (chsP (chsOf e)) S) : wE (m_changes_of [entP e] S) Q X := by
  unfold m_changes_of
  cases e with
  | group cs => refine w_runB ?_; unfold b_changes_of entP; try simp only [Pv.PV0, Pv.PV1, Pv.PV2, Pv.PV3, Pv.PV4, Pv.PV5, Pv.PV6, List.getElem?_cons_zero, List.getElem?_cons_succ, List.set_cons_zero, List.set_cons_succ, List.map_cons, List.map_nil, List.length_cons, List.length_nil, List.replicate, List.cons_append, List.nil_append, eq_self, decide_eq_true_eq, Bool.not_eq_true', decide_eq_false_iff_not, Nat.reduceAdd, Nat.reduceSub, Nat.reduceLeDiff, and_true, true_and, if_true, if_false, ite_true, ite_false, Bool.false_eq_true, Bool.true_eq_false, Pv.PVA0, Pv.PVA1]; exact h
  | mark lo l n => refine w_runB ?_; unfold b_changes_of entP; try simp only [Pv.PV0, Pv.PV1, Pv.PV2, Pv.PV3, Pv.PV4, Pv.PV5, Pv.PV6, List.getElem?_cons_zero, List.getElem?_cons_succ, List.set_cons_zero, List.set_cons_succ, List.map_cons, List.map_nil, List.length_cons, List.length_nil, List.replicate, List.cons_append, List.nil_append, eq_self, decide_eq_true_eq, Bool.not_eq_true', decide_eq_false_iff_not, Nat.reduceAdd, Nat.reduceSub, Nat.reduceLeDiff, and_true, true_and, if_true, if_false, ite_true, ite_false, Bool.false_eq_true, Bool.true_eq_false, Pv.PVA0, Pv.PVA1]; exact h
theorem putch_w {S : Sto} {Q : PV → Sto → Prop} {X : WXE} {i : Nat} {M : List Rw} {c : Ch} (hM : M.length < 100000) (hS : S[i]? = some (.dic (kvP M))) (h : Q .non (S.set i (.dic (kvP (chM M c))))) : wE (m_put_change [.ref i, chP c] S) Q X := by
  have lk : (kvP M).length < 100000 := by unfold kvP; rw [List.length_map]; exact hM
  unfold m_put_change
  cases c with
  | put k w =>
    refine w_runB ?_
    unfold b_put_change chP
    try simp only [Pv.PV0, Pv.PV1, Pv.PV2, Pv.PV3, Pv.PV4, Pv.PV5, Pv.PV6, List.getElem?_cons_zero, List.getElem?_cons_succ, List.set_cons_zero, List.set_cons_succ, List.map_cons, List.map_nil, List.length_cons, List.length_nil, List.replicate, List.cons_append, List.nil_append, eq_self, decide_eq_true_eq, Bool.not_eq_true', decide_eq_false_iff_not, Nat.reduceAdd, Nat.reduceSub, Nat.reduceLeDiff, and_true, true_and, if_true, if_false, ite_true, ite_false, Bool.false_eq_true, Bool.true_eq_false, Pv.PVA0, Pv.PVA1, set_dic hS, put_kvp]
    exact ⟨lk, h⟩
  | drop k =>
    refine w_runB ?_
    unfold b_put_change chP
    try simp only [Pv.PV0, Pv.PV1, Pv.PV2, Pv.PV3, Pv.PV4, Pv.PV5, Pv.PV6, List.getElem?_cons_zero, List.getElem?_cons_succ, List.set_cons_zero, List.set_cons_succ, List.map_cons, List.map_nil, List.length_cons, List.length_nil, List.replicate, List.cons_append, List.nil_append, eq_self, decide_eq_true_eq, Bool.not_eq_true', decide_eq_false_iff_not, Nat.reduceAdd, Nat.reduceSub, Nat.reduceLeDiff, and_true, true_and, if_true, if_false, ite_true, ite_false, Bool.false_eq_true, Bool.true_eq_false, Pv.PVA0, Pv.PVA1, dic_dic hS, hS, get_kvp, drop_kvp]
    cases hg : getM M k with
    | none =>
      have h : Q .non (S.set i (.dic (kvP (dropM M k)))) := h
      rw [get_none hg, set_self hS] at h
      exact h
    | some w => exact h
theorem prs_w {S : Sto} {Q : PV → Sto → Prop} {X : WXE} {i : Nat} {M : List Rw} (hS : S[i]? = some (.dic (kvP M))) (hl : M.length ≤ 100000) (h : Q (tabP (tabOf M)) S) : wE (m_pairs_of [.ref i] S) Q X := by
  refine w_defB (m := m_pairs_of) rfl ?_
  unfold b_pairs_of
  try simp only [Pv.PV0, Pv.PV1, Pv.PV2, Pv.PV3, Pv.PV4, Pv.PV5, Pv.PV6, List.getElem?_cons_zero, List.getElem?_cons_succ, List.set_cons_zero, List.set_cons_succ, List.map_cons, List.map_nil, List.length_cons, List.length_nil, List.replicate, List.cons_append, List.nil_append, eq_self, decide_eq_true_eq, Bool.not_eq_true', decide_eq_false_iff_not, Nat.reduceAdd, Nat.reduceSub, Nat.reduceLeDiff, and_true, true_and, if_true, if_false, ite_true, ite_false, Bool.false_eq_true, Bool.true_eq_false, Pv.PVA0, Pv.PVA1, sort_dicA hS]
  refine lcM PV.int (fun k => rowP (k, (getM M k).getD 0)) trivial (by unfold sortI; rw [List.length_mergeSort, List.length_map]; exact hl) (fun k hk => ?_) ?_
  · have hk := sortI_mem.mp hk
    obtain ⟨w, e, _⟩ := get_mem hk
    try simp only [Pv.PV0, Pv.PV1, Pv.PV2, Pv.PV3, Pv.PV4, Pv.PV5, Pv.PV6, List.getElem?_cons_zero, List.getElem?_cons_succ, List.set_cons_zero, List.set_cons_succ, List.map_cons, List.map_nil, List.length_cons, List.length_nil, List.replicate, List.cons_append, List.nil_append, eq_self, decide_eq_true_eq, Bool.not_eq_true', decide_eq_false_iff_not, Nat.reduceAdd, Nat.reduceSub, Nat.reduceLeDiff, and_true, true_and, if_true, if_false, ite_true, ite_false, Bool.false_eq_true, Bool.true_eq_false, Pv.PVA0, Pv.PVA1, ix_dic hS, get_kvp, e, Option.map_some]
    exact rfl
  · try simp only [Pv.PV0, Pv.PV1, Pv.PV2, Pv.PV3, Pv.PV4, Pv.PV5, Pv.PV6, List.getElem?_cons_zero, List.getElem?_cons_succ, List.set_cons_zero, List.set_cons_succ, List.map_cons, List.map_nil, List.length_cons, List.length_nil, List.replicate, List.cons_append, List.nil_append, eq_self, decide_eq_true_eq, Bool.not_eq_true', decide_eq_false_iff_not, Nat.reduceAdd, Nat.reduceSub, Nat.reduceLeDiff, and_true, true_and, if_true, if_false, ite_true, ite_false, Bool.false_eq_true, Bool.true_eq_false, Pv.PVA0, Pv.PVA1]
    rw [show (sortI (M.map (·.1))).map (fun k => rowP (k, (getM M k).getD 0)) = (tabOf M).map rowP by unfold tabOf; rw [List.map_map]; rfl]
    exact h
theorem tabs_snoc {rows : List Rw} {es pre post : List Ent} {e : Ent} (h : es = pre ++ e :: post) : tabsAt rows es (pre.length + 1 + 1) = tabsAt rows es (pre.length + 1) ++ [tabOf ((chsOf e).foldl chM (logM (normM rows) pre))] := by
  unfold tabsAt
  rw [List.range_succ, List.map_append, List.map_singleton]
  congr 2
  unfold tabAt
  rw [h, show pre.length + 1 = (pre ++ [e]).length by rw [List.length_append]; rfl, show pre ++ e :: post = (pre ++ [e]) ++ post by rw [List.append_assoc]; rfl, List.take_left]
  unfold logM
  rw [List.foldl_append]; rfl
theorem alltabs_w {S : Sto} {Q : PV → Sto → Prop} {X : WXE} {ks : List Int} {rows : List Rw} {es : List Ent} {m : Nat} (c : Clo S) (hk : ks.length < 100000) (hr : ∀ r ∈ rows, r.1 ∈ ks ∧ 0 ≤ r.2 ∧ r.2 ≤ 999) (hl : es.length ≤ 1000) (he : ∀ e ∈ es, Ent.In ks m e) (h : Q (.fl ((tabsAt rows es (es.length + 1)).map tabP)) S) : wE (m_all_tables [tabP rows, logP es] S) Q X := by
  refine w_defT (m := m_all_tables) rfl ?_
  unfold b_all_tables
  have lM : ∀ pre, (∀ e ∈ pre, Ent.In ks m e) → Tc.Mok ks (logM (normM rows) pre) := fun pre hp => (Tc.Mok.norm hr).log (m := m) hp
  try simp only [Pv.PV0, Pv.PV1, Pv.PV2, Pv.PV3, Pv.PV4, Pv.PV5, Pv.PV6, List.getElem?_cons_zero, List.getElem?_cons_succ, List.set_cons_zero, List.set_cons_succ, List.map_cons, List.map_nil, List.length_cons, List.length_nil, List.replicate, List.cons_append, List.nil_append, eq_self, decide_eq_true_eq, Bool.not_eq_true', decide_eq_false_iff_not, Nat.reduceAdd, Nat.reduceSub, Nat.reduceLeDiff, and_true, true_and, if_true, if_false, ite_true, ite_false, Bool.false_eq_true, Bool.true_eq_false, Pv.PVA0, Pv.PVA1, dict_tabA]
  refine prs_w get_app (by have := (lM [] (fun _ h => by cases h)).len; exact Nat.le_of_lt (Nat.lt_of_le_of_lt this hk)) ?_
  try simp only [Pv.PV0, Pv.PV1, Pv.PV2, Pv.PV3, Pv.PV4, Pv.PV5, Pv.PV6, List.getElem?_cons_zero, List.getElem?_cons_succ, List.set_cons_zero, List.set_cons_succ, List.map_cons, List.map_nil, List.length_cons, List.length_nil, List.replicate, List.cons_append, List.nil_append, eq_self, decide_eq_true_eq, Bool.not_eq_true', decide_eq_false_iff_not, Nat.reduceAdd, Nat.reduceSub, Nat.reduceLeDiff, and_true, true_and, if_true, if_false, ite_true, ite_false, Bool.false_eq_true, Bool.true_eq_false, Pv.PVA0, Pv.PVA1]
  show wO (itS _ (.fl (es.map entP))) _
  try simp only [Pv.PV0, Pv.PV1, Pv.PV2, Pv.PV3, Pv.PV4, Pv.PV5, Pv.PV6, List.getElem?_cons_zero, List.getElem?_cons_succ, List.set_cons_zero, List.set_cons_succ, List.map_cons, List.map_nil, List.length_cons, List.length_nil, List.replicate, List.cons_append, List.nil_append, eq_self, decide_eq_true_eq, Bool.not_eq_true', decide_eq_false_iff_not, Nat.reduceAdd, Nat.reduceSub, Nat.reduceLeDiff, and_true, true_and, if_true, if_false, ite_true, ite_false, Bool.false_eq_true, Bool.true_eq_false, Pv.PVA0, Pv.PVA1]
  refine forI_w entP (fun pre env S' => S' = S ++ [.dic (kvP (logM (normM rows) pre))] ++ [.lst ((tabsAt rows es (pre.length + 1)).map tabP)] ∧ ∃ x y, env = [some (tabP rows), some (logP es), some (.ref S.length), some (.ref (S.length + 1)), x, y]) (fun _ _ _ _ => trivial) ⟨rfl, _, _, rfl⟩ (fun pre e post env S' e0 ⟨e1, x, y, e2⟩ => ?_) fun env S' ⟨e1, x, y, e2⟩ => ?_
  · subst e1 e2
    have hin : ∀ z ∈ pre ++ [e], Ent.In ks m z := fun z hz => he z (by rw [e0]; exact (List.append_cons pre e post) ▸ List.mem_append_left _ hz)
    have mok := lM pre fun z hz => hin z (List.mem_append_left _ hz)
    have ce := (hin e (by simp)).chs
    try simp only [Pv.PV0, Pv.PV1, Pv.PV2, Pv.PV3, Pv.PV4, Pv.PV5, Pv.PV6, List.getElem?_cons_zero, List.getElem?_cons_succ, List.set_cons_zero, List.set_cons_succ, List.map_cons, List.map_nil, List.length_cons, List.length_nil, List.replicate, List.cons_append, List.nil_append, eq_self, decide_eq_true_eq, Bool.not_eq_true', decide_eq_false_iff_not, Nat.reduceAdd, Nat.reduceSub, Nat.reduceLeDiff, and_true, true_and, if_true, if_false, ite_true, ite_false, Bool.false_eq_true, Bool.true_eq_false, Pv.PVA0, Pv.PVA1]
    refine chsof_w ?_
    unfold chsP
    try simp only [Pv.PV0, Pv.PV1, Pv.PV2, Pv.PV3, Pv.PV4, Pv.PV5, Pv.PV6, List.getElem?_cons_zero, List.getElem?_cons_succ, List.set_cons_zero, List.set_cons_succ, List.map_cons, List.map_nil, List.length_cons, List.length_nil, List.replicate, List.cons_append, List.nil_append, eq_self, decide_eq_true_eq, Bool.not_eq_true', decide_eq_false_iff_not, Nat.reduceAdd, Nat.reduceSub, Nat.reduceLeDiff, and_true, true_and, if_true, if_false, ite_true, ite_false, Bool.false_eq_true, Bool.true_eq_false, Pv.PVA0, Pv.PVA1]
    refine forI_w chP (fun pre2 env S' => S' = S ++ [.dic (kvP (pre2.foldl chM (logM (normM rows) pre)))] ++ [.lst ((tabsAt rows es (pre.length + 1)).map tabP)] ∧ ∃ y, env = [some (tabP rows), some (logP es), some (.ref S.length), some (.ref (S.length + 1)), some (entP e), y]) (fun _ _ _ _ => trivial) ⟨rfl, _, rfl⟩ (fun pre2 c2 post2 env S' e3 ⟨e4, y, e5⟩ => ?_) fun env S' ⟨e4, y, e5⟩ => ?_
    · subst e4 e5
      have m2 := mok.chs (cs := pre2) fun c hc => ce c (by rw [e3]; exact List.mem_append_left _ hc)
      try simp only [Pv.PV0, Pv.PV1, Pv.PV2, Pv.PV3, Pv.PV4, Pv.PV5, Pv.PV6, List.getElem?_cons_zero, List.getElem?_cons_succ, List.set_cons_zero, List.set_cons_succ, List.map_cons, List.map_nil, List.length_cons, List.length_nil, List.replicate, List.cons_append, List.nil_append, eq_self, decide_eq_true_eq, Bool.not_eq_true', decide_eq_false_iff_not, Nat.reduceAdd, Nat.reduceSub, Nat.reduceLeDiff, and_true, true_and, if_true, if_false, ite_true, ite_false, Bool.false_eq_true, Bool.true_eq_false, Pv.PVA0, Pv.PVA1]
      refine putch_w (Nat.lt_of_le_of_lt m2.len hk) get_a1 ?_
      try simp only [Pv.PV0, Pv.PV1, Pv.PV2, Pv.PV3, Pv.PV4, Pv.PV5, Pv.PV6, List.getElem?_cons_zero, List.getElem?_cons_succ, List.set_cons_zero, List.set_cons_succ, List.map_cons, List.map_nil, List.length_cons, List.length_nil, List.replicate, List.cons_append, List.nil_append, eq_self, decide_eq_true_eq, Bool.not_eq_true', decide_eq_false_iff_not, Nat.reduceAdd, Nat.reduceSub, Nat.reduceLeDiff, and_true, true_and, if_true, if_false, ite_true, ite_false, Bool.false_eq_true, Bool.true_eq_false, Pv.PVA0, Pv.PVA1]
      refine ⟨?_, _, rfl⟩
      rw [List.foldl_append]; rfl
    · subst e4 e5
      have m2 := mok.chs ce
      try simp only [Pv.PV0, Pv.PV1, Pv.PV2, Pv.PV3, Pv.PV4, Pv.PV5, Pv.PV6, List.getElem?_cons_zero, List.getElem?_cons_succ, List.set_cons_zero, List.set_cons_succ, List.map_cons, List.map_nil, List.length_cons, List.length_nil, List.replicate, List.cons_append, List.nil_append, eq_self, decide_eq_true_eq, Bool.not_eq_true', decide_eq_false_iff_not, Nat.reduceAdd, Nat.reduceSub, Nat.reduceLeDiff, and_true, true_and, if_true, if_false, ite_true, ite_false, Bool.false_eq_true, Bool.true_eq_false, Pv.PVA0, Pv.PVA1, lsq_lst get_a2]
      refine prs_w get_a1 (Nat.le_of_lt (Nat.lt_of_le_of_lt m2.len hk)) ?_
      try simp only [Pv.PV0, Pv.PV1, Pv.PV2, Pv.PV3, Pv.PV4, Pv.PV5, Pv.PV6, List.getElem?_cons_zero, List.getElem?_cons_succ, List.set_cons_zero, List.set_cons_succ, List.map_cons, List.map_nil, List.length_cons, List.length_nil, List.replicate, List.cons_append, List.nil_append, eq_self, decide_eq_true_eq, Bool.not_eq_true', decide_eq_false_iff_not, Nat.reduceAdd, Nat.reduceSub, Nat.reduceLeDiff, and_true, true_and, if_true, if_false, ite_true, ite_false, Bool.false_eq_true, Bool.true_eq_false, Pv.PVA0, Pv.PVA1, lsq_lst get_a2]
      unfold apF
      have lp : pre.length < es.length := by rw [e0, List.length_append, List.length_cons]; omega
      try simp only [Pv.PV0, Pv.PV1, Pv.PV2, Pv.PV3, Pv.PV4, Pv.PV5, Pv.PV6, List.getElem?_cons_zero, List.getElem?_cons_succ, List.set_cons_zero, List.set_cons_succ, List.map_cons, List.map_nil, List.length_cons, List.length_nil, List.replicate, List.cons_append, List.nil_append, eq_self, decide_eq_true_eq, Bool.not_eq_true', decide_eq_false_iff_not, Nat.reduceAdd, Nat.reduceSub, Nat.reduceLeDiff, and_true, true_and, if_true, if_false, ite_true, ite_false, Bool.false_eq_true, Bool.true_eq_false, Pv.PVA0, Pv.PVA1]
      refine ⟨by unfold tabsAt; rw [List.length_map, List.length_map, List.length_range]; omega, ?_, _, _, rfl⟩
      rw [List.length_append, List.length_singleton, tabs_snoc e0, List.map_append]
      unfold logM
      rw [List.foldl_append]; rfl
  · subst e1 e2
    try simp only [Pv.PV0, Pv.PV1, Pv.PV2, Pv.PV3, Pv.PV4, Pv.PV5, Pv.PV6, List.getElem?_cons_zero, List.getElem?_cons_succ, List.set_cons_zero, List.set_cons_succ, List.map_cons, List.map_nil, List.length_cons, List.length_nil, List.replicate, List.cons_append, List.nil_append, eq_self, decide_eq_true_eq, Bool.not_eq_true', decide_eq_false_iff_not, Nat.reduceAdd, Nat.reduceSub, Nat.reduceLeDiff, and_true, true_and, if_true, if_false, ite_true, ite_false, Bool.false_eq_true, Bool.true_eq_false, Pv.PVA0, Pv.PVA1]
    exact ⟨c.take2, .inr ⟨S.length + 1, _, rfl, get_a2, Nat.le_succ _, lt_map lt_tab, h⟩⟩

theorem need_w {S : Sto} {Q : PV → Sto → Prop} {X : WXE} {p l m : Int} (h1 : l ≤ p) (h2 : p ≤ m) (h : Q .non S) : wE (m_need_place [.int p, .int l, .int m] S) Q X := by
  refine w_defB (m := m_need_place) rfl ?_
  unfold b_need_place
  try simp only [Pv.PV0, Pv.PV1, Pv.PV2, Pv.PV3, Pv.PV4, Pv.PV5, Pv.PV6, List.getElem?_cons_zero, List.getElem?_cons_succ, List.set_cons_zero, List.set_cons_succ, List.map_cons, List.map_nil, List.length_cons, List.length_nil, List.replicate, List.cons_append, List.nil_append, eq_self, decide_eq_true_eq, Bool.not_eq_true', decide_eq_false_iff_not, Nat.reduceAdd, Nat.reduceSub, Nat.reduceLeDiff, and_true, true_and, if_true, if_false, ite_true, ite_false, Bool.false_eq_true, Bool.true_eq_false, Pv.PVA0, Pv.PVA1]
  rw [if_pos h1, if_neg fun c => c h2]
  exact h

theorem movek_w {S : Sto} {Q : PV → Sto → Prop} {X : WXE} {es : List Ent} {ks : List Int} {n lo hi : Nat} (hk : ks.length < 100000) (hl : es.length ≤ 1000) (he : ∀ e ∈ es, Ent.In ks n e) (h : Q (.ref S.length) (S ++ [.dic (kbP (movedK ((es.take hi).drop lo)))])) : wE (m__law_moved [logP es, .int (lo : Int), .int (hi : Int)] S) Q X := by
  generalize e1 : logP es = lv
  refine w_startD (m := m__law_moved) rfl (w_runB ?_)
  subst e1
  try simp only [Pv.PV0, Pv.PV1, Pv.PV2, Pv.PV3, Pv.PV4, Pv.PV5, Pv.PV6, List.getElem?_cons_zero, List.getElem?_cons_succ, List.set_cons_zero, List.set_cons_succ, List.map_cons, List.map_nil, List.length_cons, List.length_nil, List.replicate, List.cons_append, List.nil_append, eq_self, decide_eq_true_eq, Bool.not_eq_true', decide_eq_false_iff_not, Nat.reduceAdd, Nat.reduceSub, Nat.reduceLeDiff, and_true, true_and, if_true, if_false, ite_true, ite_false, Bool.false_eq_true, Bool.true_eq_false, Pv.PVA0, Pv.PVA1, b__law_moved]
  refine groups_w (by omega) ?_
  try simp only [Pv.PV0, Pv.PV1, Pv.PV2, Pv.PV3, Pv.PV4, Pv.PV5, Pv.PV6, List.getElem?_cons_zero, List.getElem?_cons_succ, List.set_cons_zero, List.set_cons_succ, List.map_cons, List.map_nil, List.length_cons, List.length_nil, List.replicate, List.cons_append, List.nil_append, eq_self, decide_eq_true_eq, Bool.not_eq_true', decide_eq_false_iff_not, Nat.reduceAdd, Nat.reduceSub, Nat.reduceLeDiff, and_true, true_and, if_true, if_false, ite_true, ite_false, Bool.false_eq_true, Bool.true_eq_false, Pv.PVA0, Pv.PVA1]
  rw [cut_both, ← List.map_take, ← List.map_drop]
  have hin : ∀ e ∈ (es.take hi).drop lo, Ent.In ks n e := fun e h => he e (List.mem_of_mem_take (List.mem_of_mem_drop h))
  generalize (es.take hi).drop lo = zs at *
  refine forI_w (fun e => chsP (chsOf e)) (fun pre env S' => S' = S ++ [.dic (kbP (movedK pre))] ∧ ∃ x y, env = [some (logP es), some (.int (lo : Int)), some (.int (hi : Int)), some (.ref S.length), x, y]) (fun _ _ _ _ => trivial) ⟨rfl, _, _, rfl⟩ (fun pre e post env S' e0 ⟨e1, x, y, e2⟩ => ?_) fun env S' ⟨e1, x, y, e2⟩ => ?_
  · subst e1 e2
    have sub : ∀ k ∈ movedK (pre ++ [e]), k ∈ ks := fun k hk => by
      obtain ⟨e2, h2, c, hc, rfl⟩ := movedK_mem.mp hk
      exact chIn_key ((hin e2 (by rw [e0]; exact (List.append_cons pre e post) ▸ List.mem_append_left _ h2)).chs c hc)
    have mv : movedK (pre ++ [e]) = chsK (movedK pre) (chsOf e) := by unfold movedK; rw [List.foldl_append]; rfl
    rw [mv] at sub
    unfold chsP
    try simp only [Pv.PV0, Pv.PV1, Pv.PV2, Pv.PV3, Pv.PV4, Pv.PV5, Pv.PV6, List.getElem?_cons_zero, List.getElem?_cons_succ, List.set_cons_zero, List.set_cons_succ, List.map_cons, List.map_nil, List.length_cons, List.length_nil, List.replicate, List.cons_append, List.nil_append, eq_self, decide_eq_true_eq, Bool.not_eq_true', decide_eq_false_iff_not, Nat.reduceAdd, Nat.reduceSub, Nat.reduceLeDiff, and_true, true_and, if_true, if_false, ite_true, ite_false, Bool.false_eq_true, Bool.true_eq_false, Pv.PVA0, Pv.PVA1]
    refine forI_w chP (fun pre2 env S' => S' = S ++ [.dic (kbP (chsK (movedK pre) pre2))] ∧ ∃ y, env = [some (logP es), some (.int (lo : Int)), some (.int (hi : Int)), some (.ref S.length), some (.tup ((chsOf e).map chP)), y]) (fun _ _ _ _ => trivial) ⟨rfl, _, rfl⟩ (fun pre2 c post2 env S' e3 ⟨e4, y, e5⟩ => ?_) fun env S' ⟨e4, y, e5⟩ => ?_
    · subst e4 e5
      have l2 : (chsK (movedK pre) pre2).length ≤ ks.length := nd_len (chsK_nd movedK_nd) fun k hk => sub k (by
        rw [chsK_mem] at hk ⊢
        rcases hk with h | ⟨c2, h, q⟩
        · exact .inl h
        · exact .inr ⟨c2, by rw [e3]; exact List.mem_append_left _ h, q⟩)
      have fin : chsK (movedK pre) (pre2 ++ [c]) = addK (chsK (movedK pre) pre2) c.key := by unfold chsK; rw [List.foldl_append]; rfl
      rw [fin]
      cases c with
      | put k w =>
        unfold chP
        try simp only [Pv.PV0, Pv.PV1, Pv.PV2, Pv.PV3, Pv.PV4, Pv.PV5, Pv.PV6, List.getElem?_cons_zero, List.getElem?_cons_succ, List.set_cons_zero, List.set_cons_succ, List.map_cons, List.map_nil, List.length_cons, List.length_nil, List.replicate, List.cons_append, List.nil_append, eq_self, decide_eq_true_eq, Bool.not_eq_true', decide_eq_false_iff_not, Nat.reduceAdd, Nat.reduceSub, Nat.reduceLeDiff, and_true, true_and, if_true, if_false, ite_true, ite_false, Bool.false_eq_true, Bool.true_eq_false, Pv.PVA0, Pv.PVA1, set_dic get_app, put_kbp, len_kbp]
        exact ⟨by omega, rfl, _, rfl⟩
      | drop k =>
        unfold chP
        try simp only [Pv.PV0, Pv.PV1, Pv.PV2, Pv.PV3, Pv.PV4, Pv.PV5, Pv.PV6, List.getElem?_cons_zero, List.getElem?_cons_succ, List.set_cons_zero, List.set_cons_succ, List.map_cons, List.map_nil, List.length_cons, List.length_nil, List.replicate, List.cons_append, List.nil_append, eq_self, decide_eq_true_eq, Bool.not_eq_true', decide_eq_false_iff_not, Nat.reduceAdd, Nat.reduceSub, Nat.reduceLeDiff, and_true, true_and, if_true, if_false, ite_true, ite_false, Bool.false_eq_true, Bool.true_eq_false, Pv.PVA0, Pv.PVA1, set_dic get_app, put_kbp, len_kbp]
        exact ⟨by omega, rfl, _, rfl⟩
    · subst e4 e5
      exact ⟨by rw [mv], _, _, rfl⟩
  · subst e1 e2
    try simp only [Pv.PV0, Pv.PV1, Pv.PV2, Pv.PV3, Pv.PV4, Pv.PV5, Pv.PV6, List.getElem?_cons_zero, List.getElem?_cons_succ, List.set_cons_zero, List.set_cons_succ, List.map_cons, List.map_nil, List.length_cons, List.length_nil, List.replicate, List.cons_append, List.nil_append, eq_self, decide_eq_true_eq, Bool.not_eq_true', decide_eq_false_iff_not, Nat.reduceAdd, Nat.reduceSub, Nat.reduceLeDiff, and_true, true_and, if_true, if_false, ite_true, ite_false, Bool.false_eq_true, Bool.true_eq_false, Pv.PVA0, Pv.PVA1]
    exact ⟨_, _, rfl, get_app, Nat.le_refl _, h⟩

theorem changed_w {S : Sto} {Q : PV → Sto → Prop} {X : WXE} {es : List Ent} {lo hi : Nat} (h1 : lo ≤ es.length) (h2 : hi ≤ es.length) (hl : (((es.take hi).drop lo).flatMap chsOf).length ≤ 3000) (h : Q (.fl ((sortU ((((es.take hi).drop lo).flatMap chsOf).map Ch.key)).map .int)) S) : wE (m_changed [logP es, .int (lo : Int), .int (hi : Int)] S) Q X := by
  have hlE : ∀ {S : Sto}, lenG S (logP es) = some (.int (es.length : Nat)) := fun {S} => by show some (PV.int ((es.map entP).length : Nat)) = _; rw [List.length_map]
  have hsl : ∀ {S : Sto}, slP S (logP es) (some (lo : Int)) (some (hi : Int)) = some (.fl (((es.take hi).drop lo).map entP)) := fun {S} => by show some (PV.fl (cutP (es.map entP) (some (lo : Int)) (some (hi : Int)))) = _; rw [cut_both, List.map_drop, List.map_take]
  refine w_defB (m := m_changed) rfl ?_
  unfold b_changed
  generalize e1 : logP es = lv at *
  try simp only [Pv.PV0, Pv.PV1, Pv.PV2, Pv.PV3, Pv.PV4, Pv.PV5, Pv.PV6, List.getElem?_cons_zero, List.getElem?_cons_succ, List.set_cons_zero, List.set_cons_succ, List.map_cons, List.map_nil, List.length_cons, List.length_nil, List.replicate, List.cons_append, List.nil_append, eq_self, decide_eq_true_eq, Bool.not_eq_true', decide_eq_false_iff_not, Nat.reduceAdd, Nat.reduceSub, Nat.reduceLeDiff, and_true, true_and, if_true, if_false, ite_true, ite_false, Bool.false_eq_true, Bool.true_eq_false, Pv.PVA0, Pv.PVA1, hlE]
  refine need_w (by omega) (by omega) ?_
  try simp only [Pv.PV0, Pv.PV1, Pv.PV2, Pv.PV3, Pv.PV4, Pv.PV5, Pv.PV6, List.getElem?_cons_zero, List.getElem?_cons_succ, List.set_cons_zero, List.set_cons_succ, List.map_cons, List.map_nil, List.length_cons, List.length_nil, List.replicate, List.cons_append, List.nil_append, eq_self, decide_eq_true_eq, Bool.not_eq_true', decide_eq_false_iff_not, Nat.reduceAdd, Nat.reduceSub, Nat.reduceLeDiff, and_true, true_and, if_true, if_false, ite_true, ite_false, Bool.false_eq_true, Bool.true_eq_false, Pv.PVA0, Pv.PVA1, hlE]
  refine need_w (by omega) (by omega) ?_
  try simp only [Pv.PV0, Pv.PV1, Pv.PV2, Pv.PV3, Pv.PV4, Pv.PV5, Pv.PV6, List.getElem?_cons_zero, List.getElem?_cons_succ, List.set_cons_zero, List.set_cons_succ, List.map_cons, List.map_nil, List.length_cons, List.length_nil, List.replicate, List.cons_append, List.nil_append, eq_self, decide_eq_true_eq, Bool.not_eq_true', decide_eq_false_iff_not, Nat.reduceAdd, Nat.reduceSub, Nat.reduceLeDiff, and_true, true_and, if_true, if_false, ite_true, ite_false, Bool.false_eq_true, Bool.true_eq_false, Pv.PVA0, Pv.PVA1, hsl]
  generalize (es.take hi).drop lo = zs at *
  refine gI_w entP (fun pre acc S' => S' = S ∧ acc = (pre.flatMap chsOf).map Ch.key) (fun _ _ _ _ => trivial) ⟨rfl, rfl⟩ (fun pre e post acc S' e0 ⟨e1, e2⟩ => ?_) fun acc S' ⟨e1, e2⟩ => ?_
  · subst e1 e2
    try simp only [Pv.PV0, Pv.PV1, Pv.PV2, Pv.PV3, Pv.PV4, Pv.PV5, Pv.PV6, List.getElem?_cons_zero, List.getElem?_cons_succ, List.set_cons_zero, List.set_cons_succ, List.map_cons, List.map_nil, List.length_cons, List.length_nil, List.replicate, List.cons_append, List.nil_append, eq_self, decide_eq_true_eq, Bool.not_eq_true', decide_eq_false_iff_not, Nat.reduceAdd, Nat.reduceSub, Nat.reduceLeDiff, and_true, true_and, if_true, if_false, ite_true, ite_false, Bool.false_eq_true, Bool.true_eq_false, Pv.PVA0, Pv.PVA1]
    refine chsof_w ?_
    unfold chsP
    try simp only [Pv.PV0, Pv.PV1, Pv.PV2, Pv.PV3, Pv.PV4, Pv.PV5, Pv.PV6, List.getElem?_cons_zero, List.getElem?_cons_succ, List.set_cons_zero, List.set_cons_succ, List.map_cons, List.map_nil, List.length_cons, List.length_nil, List.replicate, List.cons_append, List.nil_append, eq_self, decide_eq_true_eq, Bool.not_eq_true', decide_eq_false_iff_not, Nat.reduceAdd, Nat.reduceSub, Nat.reduceLeDiff, and_true, true_and, if_true, if_false, ite_true, ite_false, Bool.false_eq_true, Bool.true_eq_false, Pv.PVA0, Pv.PVA1]
    refine gI_w chP (fun pre2 acc S2 => S2 = S' ∧ acc = (pre.flatMap chsOf).map Ch.key ++ pre2.map Ch.key) (fun _ _ _ _ => trivial) ⟨rfl, by rw [List.map_nil, List.append_nil]⟩ (fun pre2 c2 post2 acc S2 e3 ⟨e4, e5⟩ => ?_) fun acc S2 ⟨e4, e5⟩ => ?_
    · subst e4 e5
      have lz : ((pre.flatMap chsOf).map Ch.key ++ pre2.map Ch.key).length < 4000 := by
        have a : (zs.flatMap chsOf).length = (pre.flatMap chsOf).length + ((chsOf e).length + (post.flatMap chsOf).length) := by rw [e0, List.flatMap_append, List.flatMap_cons, List.length_append, List.length_append]
        have b : (chsOf e).length = pre2.length + (post2.length + 1) := by rw [e3, List.length_append, List.length_cons]
        rw [List.length_append, List.length_map, List.length_map]
        omega
      cases c2 with
      | put k w =>
        unfold chP
        try simp only [Pv.PV0, Pv.PV1, Pv.PV2, Pv.PV3, Pv.PV4, Pv.PV5, Pv.PV6, List.getElem?_cons_zero, List.getElem?_cons_succ, List.set_cons_zero, List.set_cons_succ, List.map_cons, List.map_nil, List.length_cons, List.length_nil, List.replicate, List.cons_append, List.nil_append, eq_self, decide_eq_true_eq, Bool.not_eq_true', decide_eq_false_iff_not, Nat.reduceAdd, Nat.reduceSub, Nat.reduceLeDiff, and_true, true_and, if_true, if_false, ite_true, ite_false, Bool.false_eq_true, Bool.true_eq_false, Pv.PVA0, Pv.PVA1]
        exact ⟨lz, by rw [List.map_append, List.append_assoc]; rfl⟩
      | drop k =>
        unfold chP
        try simp only [Pv.PV0, Pv.PV1, Pv.PV2, Pv.PV3, Pv.PV4, Pv.PV5, Pv.PV6, List.getElem?_cons_zero, List.getElem?_cons_succ, List.set_cons_zero, List.set_cons_succ, List.map_cons, List.map_nil, List.length_cons, List.length_nil, List.replicate, List.cons_append, List.nil_append, eq_self, decide_eq_true_eq, Bool.not_eq_true', decide_eq_false_iff_not, Nat.reduceAdd, Nat.reduceSub, Nat.reduceLeDiff, and_true, true_and, if_true, if_false, ite_true, ite_false, Bool.false_eq_true, Bool.true_eq_false, Pv.PVA0, Pv.PVA1]
        exact ⟨lz, by rw [List.map_append, List.append_assoc]; rfl⟩
    · subst e4 e5
      exact ⟨rfl, by rw [List.flatMap_append, List.map_append, List.flatMap_cons, List.flatMap_nil, List.append_nil]⟩
  · subst e1 e2
    exact h

/-- a change as an event -/
def evC (pl : Int) : Ch → PV
  | .put k w => .tup [.int pl, .str "put", .int k, .int w]
  | .drop k => .tup [.int pl, .str "drop", .int k, .non]
def dueE (st : Nat) (at_ : Nat) (e : Ent) : List PV := if st ≤ at_ then (chsOf e).map (evC ((at_ : Int) + 1)) else []
def dueL (st : Nat) : Nat → List Ent → List PV
  | _, [] => []
  | n, e :: es => dueE st n e ++ dueL st (n + 1) es
theorem dueL_snoc {st : Nat} : ∀ {es : List Ent} {n : Nat} {e : Ent}, dueL st n (es ++ [e]) = dueL st n es ++ dueE st (n + es.length) e
  | [], n, e => by show dueE st n e ++ [] = [] ++ dueE st (n + 0) e; rw [List.append_nil, List.nil_append, Nat.add_zero]
  | x :: es, n, e => by
    show dueE st n x ++ dueL st (n + 1) (es ++ [e]) = (dueE st n x ++ dueL st (n + 1) es) ++ dueE st (n + (es.length + 1)) e
    rw [dueL_snoc, List.append_assoc, show n + 1 + es.length = n + (es.length + 1) by omega]
theorem enum_f {α : Type} (f : α → PV) (xs : List α) : enumL (xs.map f) = ((List.range xs.length).zip xs).map fun p => (iP p.1, f p.2) := by
  unfold enumL
  rw [List.length_map, rng0, List.zip_map]
  rfl
theorem due_zip {st : Nat} : ∀ {es : List Ent} {n : Nat}, ((List.range' n es.length).zip es).flatMap (fun p => dueE st p.1 p.2) = dueL st n es
  | [], _ => by rw [List.zip_nil_right]; rfl
  | e :: es, n => by
    rw [List.length_cons, List.range'_succ, List.zip_cons_cons, List.flatMap_cons, due_zip]
    rfl
theorem dueE_len {st n m : Nat} {ks : List Int} {e : Ent} (h : Ent.In ks m e) : (dueE st n e).length ≤ m := by
  unfold dueE
  split
  · rw [List.length_map]
    cases e with
    | group cs => exact h.2.1
    | mark a b c => exact Nat.zero_le _
  · exact Nat.zero_le _
theorem dues_w {S : Sto} {Q : PV → Sto → Prop} {X : WXE} {es : List Ent} {ks : List Int} {m st : Nat} (hl : es.length ≤ 1000) (he : ∀ e ∈ es, Ent.In ks m e) (hm : m ≤ 50) (h : Q (.ref S.length) (S ++ [.lst (dueL st 0 es)])) : wE (m_due_changes [logP es, .int (st : Int)] S) Q X := by
  refine w_defB (m := m_due_changes) rfl ?_
  unfold b_due_changes logP
  try simp only [Pv.PV0, Pv.PV1, Pv.PV2, Pv.PV3, Pv.PV4, Pv.PV5, Pv.PV6, List.getElem?_cons_zero, List.getElem?_cons_succ, List.set_cons_zero, List.set_cons_succ, List.map_cons, List.map_nil, List.length_cons, List.length_nil, List.replicate, List.cons_append, List.nil_append, eq_self, decide_eq_true_eq, Bool.not_eq_true', decide_eq_false_iff_not, Nat.reduceAdd, Nat.reduceSub, Nat.reduceLeDiff, and_true, true_and, if_true, if_false, ite_true, ite_false, Bool.false_eq_true, Bool.true_eq_false, Pv.PVA0, Pv.PVA1, w_iEnu]
  refine ⟨_, _, rfl, rfl, ?_⟩
  rw [enum_f]
  refine forI_w (fun p : Nat × Ent => (iP p.1, entP p.2)) (fun pre env S' => S' = S ++ [.lst (pre.flatMap fun p => dueE st p.1 p.2)] ∧ (pre.flatMap fun p => dueE st p.1 p.2).length ≤ m * pre.length ∧ ∃ x3 x4 x5 x6 x7, env = [some (.fl (es.map entP)), some (.int (st : Int)), some (.ref S.length), x3, x4, x5, x6, x7]) (fun _ _ _ _ => by rfl) ⟨rfl, Nat.zero_le _, _, _, _, _, _, rfl⟩ (fun pre p post env S' e ⟨e1, e2, x3, x4, x5, x6, x7, e3⟩ => ?_) fun env S' ⟨e1, e2, x3, x4, x5, x6, x7, e3⟩ => ?_
  · subst e1 e3
    obtain ⟨at_, ent⟩ := p
    have hp : (at_, ent) ∈ (List.range es.length).zip es := by rw [e]; simp
    have hin := he ent (List.of_mem_zip hp).2
    have lpre : pre.length < 1000 := by
      have := congrArg List.length e
      rw [List.length_zip, List.length_range, Nat.min_self, List.length_append, List.length_cons] at this
      omega
    have lm : m * pre.length ≤ 50 * 1000 := Nat.mul_le_mul hm (by omega)
    have fm : (pre ++ [(at_, ent)]).flatMap (fun p => dueE st p.1 p.2) = (pre.flatMap fun p => dueE st p.1 p.2) ++ dueE st at_ ent := by
      rw [List.flatMap_append, List.flatMap_cons, List.flatMap_nil, List.append_nil]
    have fl : ((pre ++ [(at_, ent)]).flatMap fun p => dueE st p.1 p.2).length ≤ m * (pre ++ [(at_, ent)]).length := by
      rw [fm, List.length_append, List.length_append, List.length_singleton, Nat.mul_succ]
      have := dueE_len (st := st) (n := at_) hin
      omega
    unfold iP
    try simp only [Pv.PV0, Pv.PV1, Pv.PV2, Pv.PV3, Pv.PV4, Pv.PV5, Pv.PV6, List.getElem?_cons_zero, List.getElem?_cons_succ, List.set_cons_zero, List.set_cons_succ, List.map_cons, List.map_nil, List.length_cons, List.length_nil, List.replicate, List.cons_append, List.nil_append, eq_self, decide_eq_true_eq, Bool.not_eq_true', decide_eq_false_iff_not, Nat.reduceAdd, Nat.reduceSub, Nat.reduceLeDiff, and_true, true_and, if_true, if_false, ite_true, ite_false, Bool.false_eq_true, Bool.true_eq_false, Pv.PVA0, Pv.PVA1]
    refine ite_w (fun c => ?_) (fun c => ?_)
    · refine chsof_w ?_
      unfold chsP
      try simp only [Pv.PV0, Pv.PV1, Pv.PV2, Pv.PV3, Pv.PV4, Pv.PV5, Pv.PV6, List.getElem?_cons_zero, List.getElem?_cons_succ, List.set_cons_zero, List.set_cons_succ, List.map_cons, List.map_nil, List.length_cons, List.length_nil, List.replicate, List.cons_append, List.nil_append, eq_self, decide_eq_true_eq, Bool.not_eq_true', decide_eq_false_iff_not, Nat.reduceAdd, Nat.reduceSub, Nat.reduceLeDiff, and_true, true_and, if_true, if_false, ite_true, ite_false, Bool.false_eq_true, Bool.true_eq_false, Pv.PVA0, Pv.PVA1]
      have hd : dueE st at_ ent = (chsOf ent).map (evC ((at_ : Int) + 1)) := by unfold dueE; rw [if_pos (by omega)]
      have hdl := dueE_len (st := st) (n := at_) hin
      rw [hd, List.length_map] at hdl
      refine forI_w chP (fun pre2 env S' => S' = S ++ [.lst ((pre.flatMap fun p => dueE st p.1 p.2) ++ pre2.map (evC ((at_ : Int) + 1)))] ∧ ∃ x5 x6 x7, env = [some (.fl (es.map entP)), some (.int (st : Int)), some (.ref S.length), some (.int (at_ : Int)), some (entP ent), x5, x6, x7]) (fun _ _ _ _ => trivial) ⟨by rw [List.map_nil, List.append_nil], _, _, _, rfl⟩ (fun pre2 ch post2 env S' e0 ⟨e1, y5, y6, y7, e3⟩ => ?_) fun env S' ⟨e1, y5, y6, y7, e3⟩ => ?_
      · subst e1 e3
        have lp2 : pre2.length < (chsOf ent).length := by rw [e0, List.length_append, List.length_cons]; omega
        have la : ((pre.flatMap fun p => dueE st p.1 p.2) ++ pre2.map (evC ((at_ : Int) + 1))).length < 100000 := by rw [List.length_append, List.length_map]; omega
        have lz : ∀ z : PV, (pre.flatMap fun p => dueE st p.1 p.2) ++ pre2.map (evC ((at_ : Int) + 1)) ++ [evC ((at_ : Int) + 1) ch] = (pre.flatMap fun p => dueE st p.1 p.2) ++ (pre2 ++ [ch]).map (evC ((at_ : Int) + 1)) := fun _ => by rw [List.map_append, List.append_assoc]; rfl
        cases ch with
        | put k w =>
          unfold chP
          try simp only [Pv.PV0, Pv.PV1, Pv.PV2, Pv.PV3, Pv.PV4, Pv.PV5, Pv.PV6, List.getElem?_cons_zero, List.getElem?_cons_succ, List.set_cons_zero, List.set_cons_succ, List.map_cons, List.map_nil, List.length_cons, List.length_nil, List.replicate, List.cons_append, List.nil_append, eq_self, decide_eq_true_eq, Bool.not_eq_true', decide_eq_false_iff_not, Nat.reduceAdd, Nat.reduceSub, Nat.reduceLeDiff, and_true, true_and, if_true, if_false, ite_true, ite_false, Bool.false_eq_true, Bool.true_eq_false, Pv.PVA0, Pv.PVA1, lsq_lst get_app]
          refine ⟨by decide, ?_⟩
          try simp only [Pv.PV0, Pv.PV1, Pv.PV2, Pv.PV3, Pv.PV4, Pv.PV5, Pv.PV6, List.getElem?_cons_zero, List.getElem?_cons_succ, List.set_cons_zero, List.set_cons_succ, List.map_cons, List.map_nil, List.length_cons, List.length_nil, List.replicate, List.cons_append, List.nil_append, eq_self, decide_eq_true_eq, Bool.not_eq_true', decide_eq_false_iff_not, Nat.reduceAdd, Nat.reduceSub, Nat.reduceLeDiff, and_true, true_and, if_true, if_false, ite_true, ite_false, Bool.false_eq_true, Bool.true_eq_false, Pv.PVA0, Pv.PVA1, lsq_lst get_app]
          unfold apF
          try simp only [Pv.PV0, Pv.PV1, Pv.PV2, Pv.PV3, Pv.PV4, Pv.PV5, Pv.PV6, List.getElem?_cons_zero, List.getElem?_cons_succ, List.set_cons_zero, List.set_cons_succ, List.map_cons, List.map_nil, List.length_cons, List.length_nil, List.replicate, List.cons_append, List.nil_append, eq_self, decide_eq_true_eq, Bool.not_eq_true', decide_eq_false_iff_not, Nat.reduceAdd, Nat.reduceSub, Nat.reduceLeDiff, and_true, true_and, if_true, if_false, ite_true, ite_false, Bool.false_eq_true, Bool.true_eq_false, Pv.PVA0, Pv.PVA1, la]
          exact ⟨by rw [← lz .non]; rfl, _, _, _, rfl⟩
        | drop k =>
          unfold chP
          try simp only [Pv.PV0, Pv.PV1, Pv.PV2, Pv.PV3, Pv.PV4, Pv.PV5, Pv.PV6, List.getElem?_cons_zero, List.getElem?_cons_succ, List.set_cons_zero, List.set_cons_succ, List.map_cons, List.map_nil, List.length_cons, List.length_nil, List.replicate, List.cons_append, List.nil_append, eq_self, decide_eq_true_eq, Bool.not_eq_true', decide_eq_false_iff_not, Nat.reduceAdd, Nat.reduceSub, Nat.reduceLeDiff, and_true, true_and, if_true, if_false, ite_true, ite_false, Bool.false_eq_true, Bool.true_eq_false, Pv.PVA0, Pv.PVA1, lsq_lst get_app]
          refine ⟨by decide, ?_⟩
          try simp only [Pv.PV0, Pv.PV1, Pv.PV2, Pv.PV3, Pv.PV4, Pv.PV5, Pv.PV6, List.getElem?_cons_zero, List.getElem?_cons_succ, List.set_cons_zero, List.set_cons_succ, List.map_cons, List.map_nil, List.length_cons, List.length_nil, List.replicate, List.cons_append, List.nil_append, eq_self, decide_eq_true_eq, Bool.not_eq_true', decide_eq_false_iff_not, Nat.reduceAdd, Nat.reduceSub, Nat.reduceLeDiff, and_true, true_and, if_true, if_false, ite_true, ite_false, Bool.false_eq_true, Bool.true_eq_false, Pv.PVA0, Pv.PVA1, lsq_lst get_app]
          unfold apF
          try simp only [Pv.PV0, Pv.PV1, Pv.PV2, Pv.PV3, Pv.PV4, Pv.PV5, Pv.PV6, List.getElem?_cons_zero, List.getElem?_cons_succ, List.set_cons_zero, List.set_cons_succ, List.map_cons, List.map_nil, List.length_cons, List.length_nil, List.replicate, List.cons_append, List.nil_append, eq_self, decide_eq_true_eq, Bool.not_eq_true', decide_eq_false_iff_not, Nat.reduceAdd, Nat.reduceSub, Nat.reduceLeDiff, and_true, true_and, if_true, if_false, ite_true, ite_false, Bool.false_eq_true, Bool.true_eq_false, Pv.PVA0, Pv.PVA1, la]
          exact ⟨by rw [← lz .non]; rfl, _, _, _, rfl⟩
      · subst e1 e3
        exact ⟨by rw [fm, hd], fl, _, _, _, _, _, rfl⟩
    · have hd : dueE st at_ ent = [] := by unfold dueE; rw [if_neg (by omega)]
      exact ⟨by rw [fm, hd, List.append_nil], fl, _, _, _, _, _, rfl⟩
  · subst e1 e3
    try simp only [Pv.PV0, Pv.PV1, Pv.PV2, Pv.PV3, Pv.PV4, Pv.PV5, Pv.PV6, List.getElem?_cons_zero, List.getElem?_cons_succ, List.set_cons_zero, List.set_cons_succ, List.map_cons, List.map_nil, List.length_cons, List.length_nil, List.replicate, List.cons_append, List.nil_append, eq_self, decide_eq_true_eq, Bool.not_eq_true', decide_eq_false_iff_not, Nat.reduceAdd, Nat.reduceSub, Nat.reduceLeDiff, and_true, true_and, if_true, if_false, ite_true, ite_false, Bool.false_eq_true, Bool.true_eq_false, Pv.PVA0, Pv.PVA1]
    rw [List.range_eq_range', due_zip]
    exact h

theorem moved_sort {es : List Ent} : sortU ((es.flatMap chsOf).map Ch.key) = sortI (movedK es) := by
  refine rising_one sortU_up ?_ fun k => ?_
  · have p : (sortI (movedK es)).Perm (movedK es) := List.mergeSort_perm _ _
    have s2 : (sortI (movedK es)).Pairwise (· ≤ ·) := by
      have := List.pairwise_mergeSort (le := fun a b : Int => decide (a ≤ b)) (fun a b c h1 h2 => by simp at *; omega) (fun a b => by simp; omega) (movedK es)
      exact this.imp fun h => by simpa using h
    exact strict_of (p.nodup_iff.mpr movedK_nd) s2
  · rw [sortU_mem, sortI_mem, movedK_mem]
    simp only [List.mem_map, List.mem_flatMap]
    exact ⟨fun ⟨c, ⟨e, he, hc⟩, q⟩ => ⟨e, he, c, hc, q⟩, fun ⟨e, he, c, hc, q⟩ => ⟨c, ⟨e, he, hc⟩, q⟩⟩
theorem flat_len {ks : List Int} {m : Nat} {es : List Ent} {lo hi : Nat} (he : ∀ e ∈ es, Ent.In ks m e) : (((es.take hi).drop lo).flatMap chsOf).length ≤ es.length * m := by
  have go : ∀ zs : List Ent, (∀ e ∈ zs, Ent.In ks m e) → (zs.flatMap chsOf).length ≤ zs.length * m := fun zs => by
    induction zs with
    | nil => intro _; exact Nat.zero_le _
    | cons e zs ih =>
      intro h
      have h1 := ih fun z hz => h z (List.mem_cons_of_mem _ hz)
      have h2 : (chsOf e).length ≤ m := by
        have := h e List.mem_cons_self
        cases e with
        | group cs => exact this.2.1
        | mark lo l k => exact Nat.zero_le _
      rw [List.flatMap_cons, List.length_append, List.length_cons, Nat.succ_mul]
      omega
  refine Nat.le_trans (go _ fun e h => he e (List.mem_of_mem_take (List.mem_of_mem_drop h))) (Nat.mul_le_mul_right _ ?_)
  rw [List.length_drop, List.length_take]
  omega

def copyB (rows : List Rw) (es : List Ent) (st : Nat) (v : Ev) : Bool := decide ((st : Int) ≤ v.pl ∧ v.pl ≤ es.length) && (!decide (v.key ∈ movedK ((es.take v.pl.toNat).drop st)) && inTab v.key v.w (tabAt rows es v.pl.toNat))
theorem iscopy_w {S : Sto} {Q : PV → Sto → Prop} {X : WXE} {rows : List Rw} {es : List Ent} {ks : List Int} {m st : Nat} {v : Ev} (hst : st ≤ es.length) (hl : es.length ≤ 1000) (he : ∀ e ∈ es, Ent.In ks m e) (hm : es.length * m ≤ 3000) (h : Q (.bl (copyB rows es st v)) S) : wE (m_is_copy [.fl ((tabsAt rows es (es.length + 1)).map tabP), logP es, .int (st : Int), evP v] S) Q X := by
  have hlE : ∀ {S : Sto}, lenG S (logP es) = some (.int (es.length : Nat)) := fun {S} => by show some (PV.int ((es.map entP).length : Nat)) = _; rw [List.length_map]
  obtain ⟨pl, wd, key, w⟩ := v
  refine w_defB (m := m_is_copy) rfl ?_
  unfold b_is_copy evP
  try simp only [Pv.PV0, Pv.PV1, Pv.PV2, Pv.PV3, Pv.PV4, Pv.PV5, Pv.PV6, List.getElem?_cons_zero, List.getElem?_cons_succ, List.set_cons_zero, List.set_cons_succ, List.map_cons, List.map_nil, List.length_cons, List.length_nil, List.replicate, List.cons_append, List.nil_append, eq_self, decide_eq_true_eq, Bool.not_eq_true', decide_eq_false_iff_not, Nat.reduceAdd, Nat.reduceSub, Nat.reduceLeDiff, and_true, true_and, if_true, if_false, ite_true, ite_false, Bool.false_eq_true, Bool.true_eq_false, Pv.PVA0, Pv.PVA1, hlE]
  refine ite_w (fun c1 => ?_) (fun c1 => ?_)
  · refine ite_w (fun c2 => ?_) (fun c2 => ?_)
    · unfold copyB at h
      rw [decide_eq_false (fun z => c2 z.2), Bool.false_and] at h
      exact h
    · have c2 : pl ≤ es.length := Int.not_lt.mp fun z => c2 (by omega)
      obtain ⟨n, rfl⟩ : ∃ n : Nat, pl = (n : Int) := ⟨pl.toNat, by omega⟩
      unfold copyB at h
      rw [decide_eq_true (⟨c1, c2⟩ : (st : Int) ≤ (n : Int) ∧ (n : Int) ≤ es.length), Bool.true_and, Int.toNat_natCast] at h
      refine changed_w hst (by omega) (Nat.le_trans (flat_len he) hm) ?_
      have e1 : ∀ {S : Sto}, inP S (.int key) (.fl ((sortU ((((es.take n).drop st).flatMap chsOf).map Ch.key)).map .int)) = some (.bl (decide (key ∈ movedK ((es.take n).drop st)))) := fun {S} => by
        rw [in_ints, moved_sort]
        exact congrArg (fun b => some (PV.bl b)) (decide_eq_decide.mpr sortI_mem)
      have e2 : atI ((tabsAt rows es (es.length + 1)).map tabP) (n : Int) = some (tabP (tabAt rows es n)) := by
        refine atI_nat ?_
        unfold tabsAt
        rw [List.map_map, List.getElem?_map, List.getElem?_range (by omega)]
        rfl
      try simp only [Pv.PV0, Pv.PV1, Pv.PV2, Pv.PV3, Pv.PV4, Pv.PV5, Pv.PV6, List.getElem?_cons_zero, List.getElem?_cons_succ, List.set_cons_zero, List.set_cons_succ, List.map_cons, List.map_nil, List.length_cons, List.length_nil, List.replicate, List.cons_append, List.nil_append, eq_self, decide_eq_true_eq, Bool.not_eq_true', decide_eq_false_iff_not, Nat.reduceAdd, Nat.reduceSub, Nat.reduceLeDiff, and_true, true_and, if_true, if_false, ite_true, ite_false, Bool.false_eq_true, Bool.true_eq_false, Pv.PVA0, Pv.PVA1, e1]
      refine ite_w (fun c3 => ?_) (fun c3 => ?_)
      · rw [decide_eq_true c3] at h
        exact h
      · rw [decide_eq_false c3] at h
        try simp only [Pv.PV0, Pv.PV1, Pv.PV2, Pv.PV3, Pv.PV4, Pv.PV5, Pv.PV6, List.getElem?_cons_zero, List.getElem?_cons_succ, List.set_cons_zero, List.set_cons_succ, List.map_cons, List.map_nil, List.length_cons, List.length_nil, List.replicate, List.cons_append, List.nil_append, eq_self, decide_eq_true_eq, Bool.not_eq_true', decide_eq_false_iff_not, Nat.reduceAdd, Nat.reduceSub, Nat.reduceLeDiff, and_true, true_and, if_true, if_false, ite_true, ite_false, Bool.false_eq_true, Bool.true_eq_false, Pv.PVA0, Pv.PVA1, e2, in_tab]
        exact h
  · unfold copyB at h
    rw [decide_eq_false (fun z => c1 z.1), Bool.false_and] at h
    exact h

def evB (a b : Ev) : Bool := decide (a.pl = b.pl) && (decide (a.wd = b.wd) && (decide (a.key = b.key) && decide (a.w = b.w)))
theorem evB_eq {a b : Ev} : evB a b = true ↔ a = b := by
  obtain ⟨a1, a2, a3, a4⟩ := a
  obtain ⟨b1, b2, b3, b4⟩ := b
  unfold evB
  simp only [Bool.and_eq_true, decide_eq_true_eq, Ev.mk.injEq]
theorem ne_ev {S : Sto} (a b : Ev) : neP S (evP a) (evP b) = some (.bl (!evB a b)) := by
  obtain ⟨a1, a2, a3, a4⟩ := a
  obtain ⟨b1, b2, b3, b4⟩ := b
  unfold evB
  cases a4 with
  | none =>
    cases b4 with
    | none =>
      show some (PV.bl (!(decide (a1 = b1) && (decide (a2 = b2) && (decide (a3 = b3) && (true && true)))))) = _
      simp
    | some y =>
      show some (PV.bl (!(decide (a1 = b1) && (decide (a2 = b2) && (decide (a3 = b3) && (false && true)))))) = _
      simp
  | some x =>
    cases b4 with
    | none =>
      show some (PV.bl (!(decide (a1 = b1) && (decide (a2 = b2) && (decide (a3 = b3) && (false && true)))))) = _
      simp
    | some y =>
      show some (PV.bl (!(decide (a1 = b1) && (decide (a2 = b2) && (decide (a3 = b3) && (decide (x = y) && true)))))) = _
      simp
def chEv (pl : Int) : Ch → Ev
  | .put k w => ⟨pl, "put", k, some w⟩
  | .drop k => ⟨pl, "drop", k, none⟩
theorem evC_P {pl : Int} {c : Ch} : evC pl c = evP (chEv pl c) := by cases c <;> rfl
def dueEv (st at_ : Nat) (e : Ent) : List Ev := if st ≤ at_ then (chsOf e).map (chEv ((at_ : Int) + 1)) else []
def dueV (st : Nat) : Nat → List Ent → List Ev
  | _, [] => []
  | n, e :: es => dueEv st n e ++ dueV st (n + 1) es
theorem dueE_V {st n : Nat} {e : Ent} : dueE st n e = (dueEv st n e).map evP := by
  unfold dueE dueEv
  split
  · rw [List.map_map]
    exact List.map_congr_left fun c _ => evC_P
  · rfl
theorem dueL_V {st : Nat} : ∀ {n : Nat} {es : List Ent}, dueL st n es = (dueV st n es).map evP
  | _, [] => rfl
  | n, e :: es => by
    show dueE st n e ++ dueL st (n + 1) es = (dueEv st n e ++ dueV st (n + 1) es).map evP
    rw [dueE_V, dueL_V, List.map_append]
theorem dueV_snoc {st : Nat} : ∀ {es : List Ent} {n : Nat} {e : Ent}, dueV st n (es ++ [e]) = dueV st n es ++ dueEv st (n + es.length) e
  | [], n, e => by show dueEv st n e ++ [] = [] ++ dueEv st (n + 0) e; rw [List.append_nil, List.nil_append, Nat.add_zero]
  | x :: es, n, e => by
    show dueEv st n x ++ dueV st (n + 1) (es ++ [e]) = (dueEv st n x ++ dueV st (n + 1) es) ++ dueEv st (n + (es.length + 1)) e
    rw [dueV_snoc, List.append_assoc, show n + 1 + es.length = n + (es.length + 1) by omega]
/-- where a walk through events stands -/
structure FS where
  due : List Ev
  cop : List Int
  last : Int
def fstep (rows : List Rw) (es : List Ent) (st : Nat) (s : FS) (v : Ev) : Option FS :=
  if v.pl < s.last then none else if v.wd = "copy" then (if v.key ∈ s.cop then none else if copyB rows es st v = true then some ⟨s.due, addK s.cop v.key, v.pl⟩ else none)
  else match s.due with
    | [] => none
    | d :: ds => if evB d v = true then some ⟨ds, s.cop, v.pl⟩ else none
def firstM (rows : List Rw) (es : List Ent) (st : Nat) : FS → Nat → List Ev → Option Nat
  | _, _, [] => none
  | s, n, v :: vs => match fstep rows es st s v with
    | none => some n
    | some s' => firstM rows es st s' (n + 1) vs
def resP : Option Nat → PV
  | none => .non
  | some n => .int (n : Int)
def runF (rows : List Rw) (es : List Ent) (st : Nat) : FS → List Ev → Option FS
  | s, [] => some s
  | s, v :: vs => (fstep rows es st s v).bind fun s' => runF rows es st s' vs
theorem runF_snoc {rows : List Rw} {es : List Ent} {st : Nat} {v : Ev} : ∀ {vs : List Ev} {s s' s2 : FS}, runF rows es st s vs = some s' → fstep rows es st s' v = some s2 → runF rows es st s (vs ++ [v]) = some s2
  | [], s, s', s2, h, f => by
    cases h
    show (fstep rows es st s v).bind _ = _
    rw [f]
    rfl
  | x :: vs, s, s', s2, h, f => by
    have h : (fstep rows es st s x).bind (fun s' => runF rows es st s' vs) = some s' := h
    cases e : fstep rows es st s x with
    | none => rw [e] at h; cases h
    | some s1 =>
      rw [e] at h
      show (fstep rows es st s x).bind _ = _
      rw [e]
      exact runF_snoc (vs := vs) h f
theorem firstM_run {rows : List Rw} {es : List Ent} {st : Nat} : ∀ {vs ws : List Ev} {s s' : FS} {n : Nat}, runF rows es st s vs = some s' → firstM rows es st s n (vs ++ ws) = firstM rows es st s' (n + vs.length) ws
  | [], ws, s, s', n, h => by cases h; rfl
  | x :: vs, ws, s, s', n, h => by
    have h : (fstep rows es st s x).bind (fun s' => runF rows es st s' vs) = some s' := h
    cases e : fstep rows es st s x with
    | none => rw [e] at h; cases h
    | some s1 =>
      rw [e] at h
      show (match fstep rows es st s x with | none => some n | some s' => firstM rows es st s' (n + 1) (vs ++ ws)) = _
      rw [e]
      show firstM rows es st s1 (n + 1) (vs ++ ws) = _
      rw [firstM_run (vs := vs) h, List.length_cons, show n + 1 + vs.length = n + (vs.length + 1) by omega]
theorem firstM_ok {rows : List Rw} {es : List Ent} {st : Nat} {vs : List Ev} {s s' : FS} {n : Nat} (h : runF rows es st s vs = some s') : firstM rows es st s n vs = none := by
  have := firstM_run (ws := []) (n := n) h
  rw [List.append_nil] at this
  rw [this]
  rfl
theorem firstM_at {rows : List Rw} {es : List Ent} {st : Nat} {vs ws : List Ev} {v : Ev} {s s' : FS} (h : runF rows es st s vs = some s') (f : fstep rows es st s' v = none) : firstM rows es st s 0 (vs ++ v :: ws) = some vs.length := by
  rw [firstM_run h]
  show (match fstep rows es st s' v with | none => some (0 + vs.length) | some s2 => firstM rows es st s2 (0 + vs.length + 1) ws) = _
  rw [f, Nat.zero_add]
/-- all that stood ahead stands -/
structure Ab (S S' : Sto) : Prop where
  le : S.length ≤ S'.length
  eq : S'.take S.length = S
theorem Ab.refl {S : Sto} : Ab S S := ⟨Nat.le_refl _, List.take_length⟩
theorem Ab.push {S S' : Sto} {o : Ob} (h : Ab S S') : Ab S (S' ++ [o]) := ⟨by rw [List.length_append]; exact Nat.le_trans h.le (Nat.le_add_right _ _), by rw [List.take_append_of_le_length h.le]; exact h.eq⟩
theorem Ab.set {S S' : Sto} {i : Nat} {o : Ob} (h : Ab S S') (hi : S.length ≤ i) : Ab S (S'.set i o) := ⟨by rw [List.length_set]; exact h.le, by rw [List.take_set_of_le hi]; exact h.eq⟩
theorem Ab.get {S S' : Sto} {i : Nat} {o : Ob} (h : Ab S S') (g : S[i]? = some o) : S'[i]? = some o := by
  have il := (List.getElem?_eq_some_iff.mp g).1
  rw [← h.eq, List.getElem?_take_of_lt il] at g
  exact g
theorem Ab.clo {S S' : Sto} (h : Ab S S') (c : Clo S) : Pv.Cl S.length S' := by
  unfold Pv.Cl
  rw [h.eq]
  exact c
theorem dueV_len {st m : Nat} {ks : List Int} : ∀ {es : List Ent} {n : Nat}, (∀ e ∈ es, Ent.In ks m e) → (dueV st n es).length ≤ m * es.length
  | [], _, _ => Nat.zero_le _
  | e :: es, n, h => by
    have h1 := dueE_len (st := st) (n := n) (h e List.mem_cons_self)
    rw [dueE_V, List.length_map] at h1
    have h2 := dueV_len (st := st) (es := es) (n := n + 1) fun x hx => h x (List.mem_cons_of_mem _ hx)
    show (dueEv st n e ++ dueV st (n + 1) es).length ≤ _
    rw [List.length_append, List.length_cons, Nat.mul_succ]
    omega

theorem eq_ref0 {S : Sto} {i : Nat} {xs : List PV} (h : S[i]? = some (.lst xs)) (c : xs.all (okD 59) = true) : eqP S (.ref i) (.fl []) = some (.bl xs.isEmpty) := by
  obtain ⟨d, e⟩ := okD_some (S := S) (n := 60) (x := .fl xs) c
  have e2 : pyD S 60 (.ref i) = (mapO (pyD S 59) xs).map PyData.list := by
    show (match S[i]? with
      | some (.lst xs) => (mapO (pyD S 59) xs).map PyData.list
      | _ => none) = _
    rw [h]
  show (match pyD S 60 (.ref i), pyD S 60 (.fl []) with | some d, some e => some (PyData.eqv d e) | _, _ => none).map PV.bl = _
  rw [e2]
  cases xs with
  | nil => rfl
  | cons x xs =>
    rw [List.all_cons, Bool.and_eq_true] at c
    obtain ⟨d1, e3⟩ := okD_some (S := S) c.1
    obtain ⟨ds, e4⟩ := mapO_some (f := pyD S 59) fun y hy => okD_some (List.all_eq_true.mp c.2 y hy)
    have e5 : mapO (pyD S 59) (x :: xs) = some (d1 :: ds) := by
      unfold mapO
      rw [e3, e4]
    rw [e5]
    rfl
theorem okD_ev9 {v : Ev} : okD 59 (evP v) = true := by
  obtain ⟨a, b, c, d⟩ := v
  cases d <;> rfl
theorem pop_ev {f : Ev} {fs : List Ev} : popAtF (evP f :: fs.map evP) [PV.int 0] = some (evP f, fs.map evP) := by
  have ep : popAtF ((f :: fs).map evP) [PV.int 0] = some (evP f, fs.map evP) := by
    unfold popAtF
    show (if -1000000 ≤ (0 : Int) ∧ (0 : Int) ≤ 1000000 then _ else none) = _
    rw [if_pos (by decide)]
    have es := (ixN_seq (show ixN ((f :: fs).map evP).length ((0 : Nat) : Int) = some 0 by unfold ixN; rw [if_pos (by omega), if_pos (by rw [List.length_map, List.length_cons]; omega)]; rfl)).1
    rw [show (0 : Int) = ((0 : Nat) : Int) from rfl, es]
    rfl
  exact ep
noncomputable def bdFw : MS := (sSeq (sAsg (eVar 9) (gTp 4 (gCn (gNm 10) (gCn (gNm 11) (gCn (gNm 12) (gCn (gNm 13) gN0))))))
    (sSeq (sIf (tOf (eOp ltP (eVar 10) (eVar 7)))
    (sRet (eVar 8))
    sNil)
    (sSeq (sIf (tOf (eOp eqP (eVar 11) (eC (.str "copy"))))
    (sSeq (sIf (tOrP (tOf (eOp inP (eVar 12) (eVar 6))) (tNotP (tTru (eCall 4 m_is_copy (aCons (eVar 4) (aCons (eVar 1) (aCons (eVar 3) (aCons (eVar 9) aNil))))))))
    (sRet (eVar 8))
    sNil)
    (sAsg (eC (.bl true)) (gIx (eVar 6) (eVar 12))))
    (sIf (tOrP (tOf (eOp eqP (eVar 5) (eFl (nLst aNil)))) (tOf (eOp neP (mL popAtF (eVar 5) (aCons (eC (.int 0)) aNil)) (eVar 9))))
    (sRet (eVar 8))
    sNil))
    (sSet 7 (eVar 10)))))
theorem bdFw_in : b_first_wrong = (sSeq (sSet 4 (eCall 2 m_all_tables (aCons (eVar 0) (aCons (eVar 1) aNil))))
    (sSeq (sSet 5 (eCall 2 m_due_changes (aCons (eVar 1) (aCons (eVar 3) aNil))))
    (sSeq (sSet 6 eDNew)
    (sSeq (sSet 7 (eVar 3))
    (sSeq (sFor (iEnu (aCons (eVar 2) aNil)) (gPr (gCn (gNm 8) (gCn (gNm 9) gN0))) bdFw)
    (sRet (eC .non))))))) := rfl
theorem fwbody {S S0 : Sto} {P : Po} {c d i : Nat} {rows : List Rw} {es : List Ent} {ks : List Int} {m st : Nat} {s : FS} {v : Ev} {x0 x2 x10 x11 x12 x13 : Option PV} (h : Has S [cl c (.lst (s.due.map evP)), cl d (.dic (kbP s.cop))]) (a : Ab S0 S) (c0 : S0.length ≤ c) (d0 : S0.length ≤ d)
    (hst : st ≤ es.length) (hl : es.length ≤ 1000) (he : ∀ e ∈ es, Ent.In ks m e) (hm : es.length * m ≤ 3000) (cl1 : s.cop.length < 90000)
    (kn : ∀ S', Ab S0 S' → fstep rows es st s v = none → P.R (.int (i : Int)) S')
    (k : ∀ s' S' y10 y11 y12 y13, fstep rows es st s v = some s' → Has S' [cl c (.lst (s'.due.map evP)), cl d (.dic (kbP s'.cop))] → Ab S0 S' → s'.cop.length ≤ s.cop.length + 1 → P.N [x0, some (logP es), x2, some (.int (st : Int)), some (.fl ((tabsAt rows es (es.length + 1)).map tabP)), some (.ref c), some (.ref d), some (.int s'.last), some (.int (i : Int)), some (evP v), y10, y11, y12, y13] S') :
    wS (bdFw [x0, some (logP es), x2, some (.int (st : Int)), some (.fl ((tabsAt rows es (es.length + 1)).map tabP)), some (.ref c), some (.ref d), some (.int s.last), some (.int (i : Int)), some (evP v), x10, x11, x12, x13] S) P := by
  have okd : (s.due.map evP).all (okD 59) = true := okD_map (fun _ => okD_ev9) _
  unfold bdFw
  obtain ⟨pl, wd, key, w⟩ := v
  have ev : ∀ pl wd key w, evP ⟨pl, wd, key, w⟩ = .tup [.int pl, .str wd, .int key, optI w] := fun _ _ _ _ => rfl
  rw [ev]
  try simp only [Pv.PV0, Pv.PV1, Pv.PV2, Pv.PV3, Pv.PV4, Pv.PV5, Pv.PV6, List.getElem?_cons_zero, List.getElem?_cons_succ, List.set_cons_zero, List.set_cons_succ, List.map_cons, List.map_nil, List.length_cons, List.length_nil, List.replicate, List.cons_append, List.nil_append, eq_self, decide_eq_true_eq, Bool.not_eq_true', decide_eq_false_iff_not, Nat.reduceAdd, Nat.reduceSub, Nat.reduceLeDiff, and_true, true_and, if_true, if_false, ite_true, ite_false, Bool.false_eq_true, Bool.true_eq_false, Pv.PVA0, Pv.PVA1]
  refine ite_w (fun c1 => kn S a (by unfold fstep; rw [if_pos c1])) (fun c1 => ?_)
  refine ite_w (fun c2 => ?_) (fun c2 => ?_)
  · try simp only [Pv.PV0, Pv.PV1, Pv.PV2, Pv.PV3, Pv.PV4, Pv.PV5, Pv.PV6, List.getElem?_cons_zero, List.getElem?_cons_succ, List.set_cons_zero, List.set_cons_succ, List.map_cons, List.map_nil, List.length_cons, List.length_nil, List.replicate, List.cons_append, List.nil_append, eq_self, decide_eq_true_eq, Bool.not_eq_true', decide_eq_false_iff_not, Nat.reduceAdd, Nat.reduceSub, Nat.reduceLeDiff, and_true, true_and, if_true, if_false, ite_true, ite_false, Bool.false_eq_true, Bool.true_eq_false, Pv.PVA0, Pv.PVA1, in_kbp h.g1]
    by_cases c3 : key ∈ s.cop
    · try simp only [Pv.PV0, Pv.PV1, Pv.PV2, Pv.PV3, Pv.PV4, Pv.PV5, Pv.PV6, List.getElem?_cons_zero, List.getElem?_cons_succ, List.set_cons_zero, List.set_cons_succ, List.map_cons, List.map_nil, List.length_cons, List.length_nil, List.replicate, List.cons_append, List.nil_append, eq_self, decide_eq_true_eq, Bool.not_eq_true', decide_eq_false_iff_not, Nat.reduceAdd, Nat.reduceSub, Nat.reduceLeDiff, and_true, true_and, if_true, if_false, ite_true, ite_false, Bool.false_eq_true, Bool.true_eq_false, Pv.PVA0, Pv.PVA1, c3, decide_true]
      exact kn S a (by unfold fstep; rw [if_neg c1, if_pos c2, if_pos c3])
    · try simp only [Pv.PV0, Pv.PV1, Pv.PV2, Pv.PV3, Pv.PV4, Pv.PV5, Pv.PV6, List.getElem?_cons_zero, List.getElem?_cons_succ, List.set_cons_zero, List.set_cons_succ, List.map_cons, List.map_nil, List.length_cons, List.length_nil, List.replicate, List.cons_append, List.nil_append, eq_self, decide_eq_true_eq, Bool.not_eq_true', decide_eq_false_iff_not, Nat.reduceAdd, Nat.reduceSub, Nat.reduceLeDiff, and_true, true_and, if_true, if_false, ite_true, ite_false, Bool.false_eq_true, Bool.true_eq_false, Pv.PVA0, Pv.PVA1, c3, decide_false]
      rw [← ev]
      refine iscopy_w hst hl he hm ?_
      cases c4 : copyB rows es st ⟨pl, wd, key, w⟩ with
      | false =>
        try simp only [Pv.PV0, Pv.PV1, Pv.PV2, Pv.PV3, Pv.PV4, Pv.PV5, Pv.PV6, List.getElem?_cons_zero, List.getElem?_cons_succ, List.set_cons_zero, List.set_cons_succ, List.map_cons, List.map_nil, List.length_cons, List.length_nil, List.replicate, List.cons_append, List.nil_append, eq_self, decide_eq_true_eq, Bool.not_eq_true', decide_eq_false_iff_not, Nat.reduceAdd, Nat.reduceSub, Nat.reduceLeDiff, and_true, true_and, if_true, if_false, ite_true, ite_false, Bool.false_eq_true, Bool.true_eq_false, Pv.PVA0, Pv.PVA1, tru_bl]
        exact kn S a (by unfold fstep; rw [if_neg c1, if_pos c2, if_neg c3, if_neg (by rw [c4]; decide)])
      | true =>
        try simp only [Pv.PV0, Pv.PV1, Pv.PV2, Pv.PV3, Pv.PV4, Pv.PV5, Pv.PV6, List.getElem?_cons_zero, List.getElem?_cons_succ, List.set_cons_zero, List.set_cons_succ, List.map_cons, List.map_nil, List.length_cons, List.length_nil, List.replicate, List.cons_append, List.nil_append, eq_self, decide_eq_true_eq, Bool.not_eq_true', decide_eq_false_iff_not, Nat.reduceAdd, Nat.reduceSub, Nat.reduceLeDiff, and_true, true_and, if_true, if_false, ite_true, ite_false, Bool.false_eq_true, Bool.true_eq_false, Pv.PVA0, Pv.PVA1, tru_bl, set_dic h.g1, put_kbp, len_kbp]
        have h2 := (h.mv 1).set (u := .dic (kbP (Pv.addK s.cop key))) lt_kbp
        have lk : (Pv.addK s.cop key).length ≤ s.cop.length + 1 := by
          unfold Pv.addK
          split
          · omega
          · rw [List.length_append]; exact Nat.le_refl _
        refine ⟨by omega, ?_⟩
        exact k ⟨s.due, Pv.addK s.cop key, pl⟩ _ _ _ _ _ (by unfold fstep; rw [if_neg c1, if_pos c2, if_neg c3, if_pos c4]) (h2.mv 1) (a.set d0) lk
  · cases e : s.due with
    | nil =>
      have e0 : eqP S (.ref c) (.fl []) = some (.bl true) := by
        rw [eq_ref0 h.get okd, e]
        rfl
      try simp only [Pv.PV0, Pv.PV1, Pv.PV2, Pv.PV3, Pv.PV4, Pv.PV5, Pv.PV6, List.getElem?_cons_zero, List.getElem?_cons_succ, List.set_cons_zero, List.set_cons_succ, List.map_cons, List.map_nil, List.length_cons, List.length_nil, List.replicate, List.cons_append, List.nil_append, eq_self, decide_eq_true_eq, Bool.not_eq_true', decide_eq_false_iff_not, Nat.reduceAdd, Nat.reduceSub, Nat.reduceLeDiff, and_true, true_and, if_true, if_false, ite_true, ite_false, Bool.false_eq_true, Bool.true_eq_false, Pv.PVA0, Pv.PVA1, e0]
      exact kn S a (by unfold fstep; rw [if_neg c1, if_neg c2, e])
    | cons f fs =>
      have e0 : eqP S (.ref c) (.fl []) = some (.bl false) := by
        rw [eq_ref0 h.get okd, e]
        rfl
      have g : S[c]? = some (.lst ((f :: fs).map evP)) := by rw [← e]; exact h.get
      try simp only [Pv.PV0, Pv.PV1, Pv.PV2, Pv.PV3, Pv.PV4, Pv.PV5, Pv.PV6, List.getElem?_cons_zero, List.getElem?_cons_succ, List.set_cons_zero, List.set_cons_succ, List.map_cons, List.map_nil, List.length_cons, List.length_nil, List.replicate, List.cons_append, List.nil_append, eq_self, decide_eq_true_eq, Bool.not_eq_true', decide_eq_false_iff_not, Nat.reduceAdd, Nat.reduceSub, Nat.reduceLeDiff, and_true, true_and, if_true, if_false, ite_true, ite_false, Bool.false_eq_true, Bool.true_eq_false, Pv.PVA0, Pv.PVA1, e0, lsq_lst g]
      rw [g]
      try simp only [Pv.PV0, Pv.PV1, Pv.PV2, Pv.PV3, Pv.PV4, Pv.PV5, Pv.PV6, List.getElem?_cons_zero, List.getElem?_cons_succ, List.set_cons_zero, List.set_cons_succ, List.map_cons, List.map_nil, List.length_cons, List.length_nil, List.replicate, List.cons_append, List.nil_append, eq_self, decide_eq_true_eq, Bool.not_eq_true', decide_eq_false_iff_not, Nat.reduceAdd, Nat.reduceSub, Nat.reduceLeDiff, and_true, true_and, if_true, if_false, ite_true, ite_false, Bool.false_eq_true, Bool.true_eq_false, Pv.PVA0, Pv.PVA1]
      have ep2 : popAtF (evP f :: fs.map evP) [PV.int 0] = some (evP f, fs.map evP) := pop_ev
      try simp only [Pv.PV0, Pv.PV1, Pv.PV2, Pv.PV3, Pv.PV4, Pv.PV5, Pv.PV6, List.getElem?_cons_zero, List.getElem?_cons_succ, List.set_cons_zero, List.set_cons_succ, List.map_cons, List.map_nil, List.length_cons, List.length_nil, List.replicate, List.cons_append, List.nil_append, eq_self, decide_eq_true_eq, Bool.not_eq_true', decide_eq_false_iff_not, Nat.reduceAdd, Nat.reduceSub, Nat.reduceLeDiff, and_true, true_and, if_true, if_false, ite_true, ite_false, Bool.false_eq_true, Bool.true_eq_false, Pv.PVA0, Pv.PVA1, ep2]
      have h2 := h.set (u := .lst (fs.map evP)) (ev_lt _)
      have a2 := a.set (o := .lst (fs.map evP)) c0
      rw [← ev, ne_ev]
      generalize S.set c (.lst (fs.map evP)) = S2 at h2 a2 ⊢
      cases e2 : evB f ⟨pl, wd, key, w⟩ with
      | false =>
        try simp only [Pv.PV0, Pv.PV1, Pv.PV2, Pv.PV3, Pv.PV4, Pv.PV5, Pv.PV6, List.getElem?_cons_zero, List.getElem?_cons_succ, List.set_cons_zero, List.set_cons_succ, List.map_cons, List.map_nil, List.length_cons, List.length_nil, List.replicate, List.cons_append, List.nil_append, eq_self, decide_eq_true_eq, Bool.not_eq_true', decide_eq_false_iff_not, Nat.reduceAdd, Nat.reduceSub, Nat.reduceLeDiff, and_true, true_and, if_true, if_false, ite_true, ite_false, Bool.false_eq_true, Bool.true_eq_false, Pv.PVA0, Pv.PVA1, Bool.not_false]
        exact kn S2 a2 (by unfold fstep; rw [if_neg c1, if_neg c2, e]; exact if_neg (by rw [e2]; decide))
      | true =>
        try simp only [Pv.PV0, Pv.PV1, Pv.PV2, Pv.PV3, Pv.PV4, Pv.PV5, Pv.PV6, List.getElem?_cons_zero, List.getElem?_cons_succ, List.set_cons_zero, List.set_cons_succ, List.map_cons, List.map_nil, List.length_cons, List.length_nil, List.replicate, List.cons_append, List.nil_append, eq_self, decide_eq_true_eq, Bool.not_eq_true', decide_eq_false_iff_not, Nat.reduceAdd, Nat.reduceSub, Nat.reduceLeDiff, and_true, true_and, if_true, if_false, ite_true, ite_false, Bool.false_eq_true, Bool.true_eq_false, Pv.PVA0, Pv.PVA1, Bool.not_true]
        exact k ⟨fs, s.cop, pl⟩ S2 _ _ _ _ (by unfold fstep; rw [if_neg c1, if_neg c2, e]; exact if_pos e2) h2 a2 (Nat.le_succ _)

noncomputable def bdWa : MS := (sSeq (sAsg (eVar 9) (gTp 4 (gCn (gNm 10) (gCn (gNm 11) (gCn (gNm 12) (gCn (gNm 13) gN0))))))
    (sSeq (sIf (tOf (eOp ltP (eVar 10) (eVar 8)))
    (sRet (eVar 5))
    sNil)
    (sSeq (sIf (tOf (eOp eqP (eVar 11) (eC (.str "copy"))))
    (sSeq (sIf (tOrP (tOf (eOp gtP (eVar 10) (eCB (oneF lenG) (aCons (eVar 1) aNil)))) (tOrP (tOf (eOp inP (eVar 12) (eCall 3 m__law_moved (aCons (eVar 1) (aCons (eVar 3) (aCons (eVar 10) aNil)))))) (tOf (eOp inP (eVar 12) (eVar 7)))))
    (sRet (eVar 5))
    sNil)
    (sSeq (sIf (tOf (eOp notinP (eTup (aCons (eVar 12) (aCons (eVar 13) aNil))) (eCall 3 m__law_at (aCons (eVar 0) (aCons (eVar 1) (aCons (eVar 10) aNil))))))
    (sRet (eVar 5))
    sNil)
    (sExpr (mL apF (eVar 7) (aCons (eVar 12) aNil)))))
    (sIf (tOrP (tOf (eOp eqP (eVar 4) (eFl (nLst aNil)))) (tOf (eOp neP (mL popAtF (eVar 4) (aCons (eC (.int 0)) aNil)) (eVar 9))))
    (sRet (eVar 5))
    sNil))
    (sSet 8 (eVar 10)))))
noncomputable def bdWd : MS := (sIf (tOf (eOp geP (eVar 5) (eVar 3)))
    (sSet 4 (eNew (nCat (eVar 4) (eFl (nLc (iSeq (eVar 6)) (bN1 14) yesT (eOp addP (eOp addP (eTup (aCons (eOp addP (eVar 5) (eC (.int 1))) aNil)) (eSl (eVar 14) oNone (oSome (eC (.int 2))))) (eTup (aCons (eOp ixP (eOp addP (eVar 14) (eTup (aCons (eC .non) aNil))) (eC (.int 2))) aNil))) [14])))))
    sNil)
theorem bdWa_in : b__law_wrong_at = (sSeq (sSet 4 (eNew (nLst aNil)))
    (sSeq (sFor (iEnu (aCons (eCall 1 m__law_groups (aCons (eVar 1) aNil)) aNil)) (gPr (gCn (gNm 5) (gCn (gNm 6) gN0))) bdWd)
    (sSeq (sSet 7 (eNew (nLst aNil)))
    (sSeq (sSet 8 (eVar 3))
    (sSeq (sFor (iEnu (aCons (eVar 2) aNil)) (gPr (gCn (gNm 5) (gCn (gNm 9) gN0))) bdWa)
    (sRet (eC .non))))))) := rfl
theorem ints_lt' {N : Nat} : ∀ l : List Int, LtPs N (l.map PV.int)
  | [] => trivial
  | _ :: l => ⟨trivial, ints_lt' l⟩
theorem notin_tab {S : Sto} {k : Int} {w : Option Int} {rows : List Rw} : notinP S (.tup [.int k, optI w]) (tabP rows) = some (.bl (!inTab k w rows)) := by
  have h := in_tab (S := S) (k := k) (w := w) (rows := rows)
  unfold inP at h
  unfold notinP
  cases e : inB S (.tup [.int k, optI w]) (tabP rows) with
  | none => rw [e] at h; cases h
  | some b =>
    rw [e] at h
    have h := PV.bl.inj (Option.some.inj h)
    rw [Option.map_some, h]
theorem wabody {S S0 : Sto} {P : Po} {c d i : Nat} {rows : List Rw} {es : List Ent} {ks : List Int} {m st : Nat} {s : FS} {v : Ev} {x2 x6 x10 x11 x12 x13 x14 : Option PV} (h : Has S [cl c (.lst (s.due.map evP)), cl d (.lst (s.cop.map .int))]) (a : Ab S0 S) (c0 : S0.length ≤ c) (d0 : S0.length ≤ d)
    (hk : ks.length < 100000) (hr : ∀ r ∈ rows, r.1 ∈ ks ∧ 0 ≤ r.2 ∧ r.2 ≤ 999) (hst : st ≤ es.length) (hl : es.length ≤ 1000) (he : ∀ e ∈ es, Ent.In ks m e) (hla : (st : Int) ≤ s.last) (cl1 : s.cop.length < 90000)
    (kn : ∀ S', Ab S0 S' → fstep rows es st s v = none → P.R (.int (i : Int)) S')
    (k : ∀ s' S' y10 y11 y12 y13, fstep rows es st s v = some s' → Has S' [cl c (.lst (s'.due.map evP)), cl d (.lst (s'.cop.map .int))] → Ab S0 S' → s'.cop.length ≤ s.cop.length + 1 → (st : Int) ≤ s'.last → P.N [some (tabP rows), some (logP es), x2, some (.int (st : Int)), some (.ref c), some (.int (i : Int)), x6, some (.ref d), some (.int s'.last), some (evP v), y10, y11, y12, y13, x14] S') :
    wS (bdWa [some (tabP rows), some (logP es), x2, some (.int (st : Int)), some (.ref c), some (.int (i : Int)), x6, some (.ref d), some (.int s.last), some (evP v), x10, x11, x12, x13, x14] S) P := by
  have okd : (s.due.map evP).all (okD 59) = true := okD_map (fun _ => okD_ev9) _
  have hlE : ∀ {S : Sto}, lenG S (logP es) = some (.int (es.length : Nat)) := fun {S} => by show some (PV.int ((es.map entP).length : Nat)) = _; rw [List.length_map]
  unfold bdWa
  obtain ⟨pl, wd, key, w⟩ := v
  have ev : ∀ pl wd key w, evP ⟨pl, wd, key, w⟩ = .tup [.int pl, .str wd, .int key, optI w] := fun _ _ _ _ => rfl
  rw [ev]
  try simp only [Pv.PV0, Pv.PV1, Pv.PV2, Pv.PV3, Pv.PV4, Pv.PV5, Pv.PV6, List.getElem?_cons_zero, List.getElem?_cons_succ, List.set_cons_zero, List.set_cons_succ, List.map_cons, List.map_nil, List.length_cons, List.length_nil, List.replicate, List.cons_append, List.nil_append, eq_self, decide_eq_true_eq, Bool.not_eq_true', decide_eq_false_iff_not, Nat.reduceAdd, Nat.reduceSub, Nat.reduceLeDiff, and_true, true_and, if_true, if_false, ite_true, ite_false, Bool.false_eq_true, Bool.true_eq_false, Pv.PVA0, Pv.PVA1]
  refine ite_w (fun c1 => kn S a (by unfold fstep; rw [if_pos c1])) (fun c1 => ?_)
  refine ite_w (fun c2 => ?_) (fun c2 => ?_)
  · have bad : ∀ S', Ab S0 S' → copyB rows es st ⟨pl, wd, key, w⟩ = false → P.R (.int (i : Int)) S' := fun S' a' hb => kn S' a' (by
      unfold fstep
      rw [if_neg c1, if_pos c2]
      by_cases c3 : key ∈ s.cop
      · rw [if_pos c3]
      · rw [if_neg c3, if_neg (by rw [hb]; decide)])
    try simp only [Pv.PV0, Pv.PV1, Pv.PV2, Pv.PV3, Pv.PV4, Pv.PV5, Pv.PV6, List.getElem?_cons_zero, List.getElem?_cons_succ, List.set_cons_zero, List.set_cons_succ, List.map_cons, List.map_nil, List.length_cons, List.length_nil, List.replicate, List.cons_append, List.nil_append, eq_self, decide_eq_true_eq, Bool.not_eq_true', decide_eq_false_iff_not, Nat.reduceAdd, Nat.reduceSub, Nat.reduceLeDiff, and_true, true_and, if_true, if_false, ite_true, ite_false, Bool.false_eq_true, Bool.true_eq_false, Pv.PVA0, Pv.PVA1, hlE]
    refine ite_w (fun c3 => bad S a (by unfold copyB; rw [decide_eq_false (fun z => by have z2 : pl ≤ (es.length : Int) := z.2; omega), Bool.false_and])) (fun c3 => ?_)
    obtain ⟨n, rfl⟩ : ∃ n : Nat, pl = (n : Int) := ⟨pl.toNat, by omega⟩
    have cb : copyB rows es st ⟨(n : Int), wd, key, w⟩ = (!decide (key ∈ movedK ((es.take n).drop st)) && inTab key w (tabAt rows es n)) := by
      unfold copyB
      rw [decide_eq_true (⟨by show (st : Int) ≤ (n : Int); omega, by show (n : Int) ≤ es.length; omega⟩ : (st : Int) ≤ (n : Int) ∧ (n : Int) ≤ es.length), Bool.true_and, Int.toNat_natCast]
    refine movek_w hk hl he ?_
    have h2 := h.new (u := .dic (kbP (movedK ((es.take n).drop st)))) lt_kbp
    have a2 := a.push (o := .dic (kbP (movedK ((es.take n).drop st))))
    generalize S ++ [Ob.dic (kbP (movedK ((es.take n).drop st)))] = S2 at h2 a2 ⊢
    generalize S.length = mm at h2 ⊢
    try simp only [Pv.PV0, Pv.PV1, Pv.PV2, Pv.PV3, Pv.PV4, Pv.PV5, Pv.PV6, List.getElem?_cons_zero, List.getElem?_cons_succ, List.set_cons_zero, List.set_cons_succ, List.map_cons, List.map_nil, List.length_cons, List.length_nil, List.replicate, List.cons_append, List.nil_append, eq_self, decide_eq_true_eq, Bool.not_eq_true', decide_eq_false_iff_not, Nat.reduceAdd, Nat.reduceSub, Nat.reduceLeDiff, and_true, true_and, if_true, if_false, ite_true, ite_false, Bool.false_eq_true, Bool.true_eq_false, Pv.PVA0, Pv.PVA1, in_kbp h2.get]
    by_cases c4 : key ∈ movedK ((es.take n).drop st)
    · try simp only [Pv.PV0, Pv.PV1, Pv.PV2, Pv.PV3, Pv.PV4, Pv.PV5, Pv.PV6, List.getElem?_cons_zero, List.getElem?_cons_succ, List.set_cons_zero, List.set_cons_succ, List.map_cons, List.map_nil, List.length_cons, List.length_nil, List.replicate, List.cons_append, List.nil_append, eq_self, decide_eq_true_eq, Bool.not_eq_true', decide_eq_false_iff_not, Nat.reduceAdd, Nat.reduceSub, Nat.reduceLeDiff, and_true, true_and, if_true, if_false, ite_true, ite_false, Bool.false_eq_true, Bool.true_eq_false, Pv.PVA0, Pv.PVA1, c4, decide_true]
      exact bad S2 a2 (by rw [cb, decide_eq_true c4]; rfl)
    · try simp only [Pv.PV0, Pv.PV1, Pv.PV2, Pv.PV3, Pv.PV4, Pv.PV5, Pv.PV6, List.getElem?_cons_zero, List.getElem?_cons_succ, List.set_cons_zero, List.set_cons_succ, List.map_cons, List.map_nil, List.length_cons, List.length_nil, List.replicate, List.cons_append, List.nil_append, eq_self, decide_eq_true_eq, Bool.not_eq_true', decide_eq_false_iff_not, Nat.reduceAdd, Nat.reduceSub, Nat.reduceLeDiff, and_true, true_and, if_true, if_false, ite_true, ite_false, Bool.false_eq_true, Bool.true_eq_false, Pv.PVA0, Pv.PVA1, c4, decide_false, in_lst_ints h2.g2]
      by_cases c5 : key ∈ s.cop
      · try simp only [Pv.PV0, Pv.PV1, Pv.PV2, Pv.PV3, Pv.PV4, Pv.PV5, Pv.PV6, List.getElem?_cons_zero, List.getElem?_cons_succ, List.set_cons_zero, List.set_cons_succ, List.map_cons, List.map_nil, List.length_cons, List.length_nil, List.replicate, List.cons_append, List.nil_append, eq_self, decide_eq_true_eq, Bool.not_eq_true', decide_eq_false_iff_not, Nat.reduceAdd, Nat.reduceSub, Nat.reduceLeDiff, and_true, true_and, if_true, if_false, ite_true, ite_false, Bool.false_eq_true, Bool.true_eq_false, Pv.PVA0, Pv.PVA1, c5, decide_true]
        exact kn S2 a2 (by unfold fstep; rw [if_neg c1, if_pos c2, if_pos c5])
      · try simp only [Pv.PV0, Pv.PV1, Pv.PV2, Pv.PV3, Pv.PV4, Pv.PV5, Pv.PV6, List.getElem?_cons_zero, List.getElem?_cons_succ, List.set_cons_zero, List.set_cons_succ, List.map_cons, List.map_nil, List.length_cons, List.length_nil, List.replicate, List.cons_append, List.nil_append, eq_self, decide_eq_true_eq, Bool.not_eq_true', decide_eq_false_iff_not, Nat.reduceAdd, Nat.reduceSub, Nat.reduceLeDiff, and_true, true_and, if_true, if_false, ite_true, ite_false, Bool.false_eq_true, Bool.true_eq_false, Pv.PVA0, Pv.PVA1, c5, decide_false]
        refine at_w h2.clo hk hr (by omega) he ?_
        try simp only [Pv.PV0, Pv.PV1, Pv.PV2, Pv.PV3, Pv.PV4, Pv.PV5, Pv.PV6, List.getElem?_cons_zero, List.getElem?_cons_succ, List.set_cons_zero, List.set_cons_succ, List.map_cons, List.map_nil, List.length_cons, List.length_nil, List.replicate, List.cons_append, List.nil_append, eq_self, decide_eq_true_eq, Bool.not_eq_true', decide_eq_false_iff_not, Nat.reduceAdd, Nat.reduceSub, Nat.reduceLeDiff, and_true, true_and, if_true, if_false, ite_true, ite_false, Bool.false_eq_true, Bool.true_eq_false, Pv.PVA0, Pv.PVA1, notin_tab]
        cases c6 : inTab key w (tabAt rows es n) with
        | false =>
          try simp only [Pv.PV0, Pv.PV1, Pv.PV2, Pv.PV3, Pv.PV4, Pv.PV5, Pv.PV6, List.getElem?_cons_zero, List.getElem?_cons_succ, List.set_cons_zero, List.set_cons_succ, List.map_cons, List.map_nil, List.length_cons, List.length_nil, List.replicate, List.cons_append, List.nil_append, eq_self, decide_eq_true_eq, Bool.not_eq_true', decide_eq_false_iff_not, Nat.reduceAdd, Nat.reduceSub, Nat.reduceLeDiff, and_true, true_and, if_true, if_false, ite_true, ite_false, Bool.false_eq_true, Bool.true_eq_false, Pv.PVA0, Pv.PVA1, Bool.not_false]
          exact bad S2 a2 (by rw [cb, c6, Bool.and_false])
        | true =>
          have h3 := h2.mv 2
          try simp only [Pv.PV0, Pv.PV1, Pv.PV2, Pv.PV3, Pv.PV4, Pv.PV5, Pv.PV6, List.getElem?_cons_zero, List.getElem?_cons_succ, List.set_cons_zero, List.set_cons_succ, List.map_cons, List.map_nil, List.length_cons, List.length_nil, List.replicate, List.cons_append, List.nil_append, eq_self, decide_eq_true_eq, Bool.not_eq_true', decide_eq_false_iff_not, Nat.reduceAdd, Nat.reduceSub, Nat.reduceLeDiff, and_true, true_and, if_true, if_false, ite_true, ite_false, Bool.false_eq_true, Bool.true_eq_false, Pv.PVA0, Pv.PVA1, Bool.not_true, lsq_lst h3.get]
          rw [h3.get]
          try simp only [Pv.PV0, Pv.PV1, Pv.PV2, Pv.PV3, Pv.PV4, Pv.PV5, Pv.PV6, List.getElem?_cons_zero, List.getElem?_cons_succ, List.set_cons_zero, List.set_cons_succ, List.map_cons, List.map_nil, List.length_cons, List.length_nil, List.replicate, List.cons_append, List.nil_append, eq_self, decide_eq_true_eq, Bool.not_eq_true', decide_eq_false_iff_not, Nat.reduceAdd, Nat.reduceSub, Nat.reduceLeDiff, and_true, true_and, if_true, if_false, ite_true, ite_false, Bool.false_eq_true, Bool.true_eq_false, Pv.PVA0, Pv.PVA1]
          unfold apF
          try simp only [Pv.PV0, Pv.PV1, Pv.PV2, Pv.PV3, Pv.PV4, Pv.PV5, Pv.PV6, List.getElem?_cons_zero, List.getElem?_cons_succ, List.set_cons_zero, List.set_cons_succ, List.map_cons, List.map_nil, List.length_cons, List.length_nil, List.replicate, List.cons_append, List.nil_append, eq_self, decide_eq_true_eq, Bool.not_eq_true', decide_eq_false_iff_not, Nat.reduceAdd, Nat.reduceSub, Nat.reduceLeDiff, and_true, true_and, if_true, if_false, ite_true, ite_false, Bool.false_eq_true, Bool.true_eq_false, Pv.PVA0, Pv.PVA1]
          refine ⟨by rw [List.length_map]; omega, ?_⟩
          rw [show s.cop.map PV.int ++ [PV.int key] = (s.cop ++ [key]).map PV.int by rw [List.map_append]; rfl]
          have h4 := h3.set (u := .lst ((s.cop ++ [key]).map PV.int)) (ints_lt' _)
          have ek : Pv.addK s.cop key = s.cop ++ [key] := by unfold Pv.addK; rw [if_neg c5]
          refine k ⟨s.due, Pv.addK s.cop key, (n : Int)⟩ _ _ _ _ _ (by unfold fstep; rw [if_neg c1, if_pos c2, if_neg c5, if_pos (by rw [cb, c6, decide_eq_false c4]; rfl)]) ?_ (a2.set d0) (by rw [ek, List.length_append]; exact Nat.le_refl _) (by show (st : Int) ≤ (n : Int); omega)
          rw [ek]
          exact ((h4.mv 1).tail.mv 1)
  · cases e : s.due with
    | nil =>
      have e0 : eqP S (.ref c) (.fl []) = some (.bl true) := by
        rw [eq_ref0 h.get okd, e]
        rfl
      try simp only [Pv.PV0, Pv.PV1, Pv.PV2, Pv.PV3, Pv.PV4, Pv.PV5, Pv.PV6, List.getElem?_cons_zero, List.getElem?_cons_succ, List.set_cons_zero, List.set_cons_succ, List.map_cons, List.map_nil, List.length_cons, List.length_nil, List.replicate, List.cons_append, List.nil_append, eq_self, decide_eq_true_eq, Bool.not_eq_true', decide_eq_false_iff_not, Nat.reduceAdd, Nat.reduceSub, Nat.reduceLeDiff, and_true, true_and, if_true, if_false, ite_true, ite_false, Bool.false_eq_true, Bool.true_eq_false, Pv.PVA0, Pv.PVA1, e0]
      exact kn S a (by unfold fstep; rw [if_neg c1, if_neg c2, e])
    | cons f fs =>
      have e0 : eqP S (.ref c) (.fl []) = some (.bl false) := by
        rw [eq_ref0 h.get okd, e]
        rfl
      have g : S[c]? = some (.lst ((f :: fs).map evP)) := by rw [← e]; exact h.get
      try simp only [Pv.PV0, Pv.PV1, Pv.PV2, Pv.PV3, Pv.PV4, Pv.PV5, Pv.PV6, List.getElem?_cons_zero, List.getElem?_cons_succ, List.set_cons_zero, List.set_cons_succ, List.map_cons, List.map_nil, List.length_cons, List.length_nil, List.replicate, List.cons_append, List.nil_append, eq_self, decide_eq_true_eq, Bool.not_eq_true', decide_eq_false_iff_not, Nat.reduceAdd, Nat.reduceSub, Nat.reduceLeDiff, and_true, true_and, if_true, if_false, ite_true, ite_false, Bool.false_eq_true, Bool.true_eq_false, Pv.PVA0, Pv.PVA1, e0, lsq_lst g]
      rw [g]
      try simp only [Pv.PV0, Pv.PV1, Pv.PV2, Pv.PV3, Pv.PV4, Pv.PV5, Pv.PV6, List.getElem?_cons_zero, List.getElem?_cons_succ, List.set_cons_zero, List.set_cons_succ, List.map_cons, List.map_nil, List.length_cons, List.length_nil, List.replicate, List.cons_append, List.nil_append, eq_self, decide_eq_true_eq, Bool.not_eq_true', decide_eq_false_iff_not, Nat.reduceAdd, Nat.reduceSub, Nat.reduceLeDiff, and_true, true_and, if_true, if_false, ite_true, ite_false, Bool.false_eq_true, Bool.true_eq_false, Pv.PVA0, Pv.PVA1]
      have ep2 : popAtF (evP f :: fs.map evP) [PV.int 0] = some (evP f, fs.map evP) := pop_ev
      try simp only [Pv.PV0, Pv.PV1, Pv.PV2, Pv.PV3, Pv.PV4, Pv.PV5, Pv.PV6, List.getElem?_cons_zero, List.getElem?_cons_succ, List.set_cons_zero, List.set_cons_succ, List.map_cons, List.map_nil, List.length_cons, List.length_nil, List.replicate, List.cons_append, List.nil_append, eq_self, decide_eq_true_eq, Bool.not_eq_true', decide_eq_false_iff_not, Nat.reduceAdd, Nat.reduceSub, Nat.reduceLeDiff, and_true, true_and, if_true, if_false, ite_true, ite_false, Bool.false_eq_true, Bool.true_eq_false, Pv.PVA0, Pv.PVA1, ep2]
      have h2 := h.set (u := .lst (fs.map evP)) (ev_lt _)
      have a2 := a.set (o := .lst (fs.map evP)) c0
      rw [← ev, ne_ev]
      generalize S.set c (.lst (fs.map evP)) = S2 at h2 a2 ⊢
      cases e2 : evB f ⟨pl, wd, key, w⟩ with
      | false =>
        try simp only [Pv.PV0, Pv.PV1, Pv.PV2, Pv.PV3, Pv.PV4, Pv.PV5, Pv.PV6, List.getElem?_cons_zero, List.getElem?_cons_succ, List.set_cons_zero, List.set_cons_succ, List.map_cons, List.map_nil, List.length_cons, List.length_nil, List.replicate, List.cons_append, List.nil_append, eq_self, decide_eq_true_eq, Bool.not_eq_true', decide_eq_false_iff_not, Nat.reduceAdd, Nat.reduceSub, Nat.reduceLeDiff, and_true, true_and, if_true, if_false, ite_true, ite_false, Bool.false_eq_true, Bool.true_eq_false, Pv.PVA0, Pv.PVA1, Bool.not_false]
        exact kn S2 a2 (by unfold fstep; rw [if_neg c1, if_neg c2, e]; exact if_neg (by rw [e2]; decide))
      | true =>
        try simp only [Pv.PV0, Pv.PV1, Pv.PV2, Pv.PV3, Pv.PV4, Pv.PV5, Pv.PV6, List.getElem?_cons_zero, List.getElem?_cons_succ, List.set_cons_zero, List.set_cons_succ, List.map_cons, List.map_nil, List.length_cons, List.length_nil, List.replicate, List.cons_append, List.nil_append, eq_self, decide_eq_true_eq, Bool.not_eq_true', decide_eq_false_iff_not, Nat.reduceAdd, Nat.reduceSub, Nat.reduceLeDiff, and_true, true_and, if_true, if_false, ite_true, ite_false, Bool.false_eq_true, Bool.true_eq_false, Pv.PVA0, Pv.PVA1, Bool.not_true]
        exact k ⟨fs, s.cop, pl⟩ S2 _ _ _ _ (by unfold fstep; rw [if_neg c1, if_neg c2, e]; exact if_pos e2) h2 a2 (Nat.le_succ _) (by show (st : Int) ≤ pl; omega)

theorem enum_ev {vs : List Ev} : enumL (vs.map evP) = ((List.range vs.length).zip vs).map fun p => (iP p.1, evP p.2) := enum_f evP vs
theorem zip_pre {vs : List Ev} {pre post : List (Nat × Ev)} {p : Nat × Ev} (e : (List.range vs.length).zip vs = pre ++ p :: post) : p.1 = pre.length ∧ vs = pre.map (·.2) ++ p.2 :: post.map (·.2) := by
  have e1 := congrArg (List.map (·.1)) e
  have e2 := congrArg (List.map (·.2)) e
  rw [List.map_fst_zip (by rw [List.length_range]; exact Nat.le_refl _), List.map_append, List.map_cons] at e1
  rw [List.map_snd_zip (by rw [List.length_range]; exact Nat.le_refl _), List.map_append, List.map_cons] at e2
  refine ⟨?_, e2⟩
  have l : pre.length < vs.length := by
    have := congrArg List.length e1
    rw [List.length_range, List.length_append, List.length_map, List.length_cons] at this
    omega
  have h1 : (List.range vs.length)[pre.length]? = some p.1 := by
    rw [e1, List.getElem?_append_right (by rw [List.length_map]; exact Nat.le_refl _), List.length_map, Nat.sub_self]
    rfl
  rw [List.getElem?_range l] at h1
  exact (Option.some.inj h1).symm
theorem first_w {S : Sto} {Q : PV → Sto → Prop} {X : WXE} {rows : List Rw} {es : List Ent} {ks : List Int} {m st : Nat} {vs : List Ev} (cS : Clo S) (hk : ks.length < 100000) (hr : ∀ r ∈ rows, r.1 ∈ ks ∧ 0 ≤ r.2 ∧ r.2 ≤ 999)
    (hst : st ≤ es.length) (hl : es.length ≤ 1000) (he : ∀ e ∈ es, Ent.In ks m e) (hm : es.length * m ≤ 3000) (hm2 : m ≤ 50) (hv : vs.length ≤ 80000)
    (k : Q (resP (firstM rows es st ⟨dueV st 0 es, [], st⟩ 0 vs)) S) : wE (m_first_wrong [tabP rows, logP es, .fl (vs.map evP), .int (st : Int)] S) Q X := by
  refine w_defT (m := m_first_wrong) rfl ?_
  rw [bdFw_in]
  try simp only [Pv.PV0, Pv.PV1, Pv.PV2, Pv.PV3, Pv.PV4, Pv.PV5, Pv.PV6, List.getElem?_cons_zero, List.getElem?_cons_succ, List.set_cons_zero, List.set_cons_succ, List.map_cons, List.map_nil, List.length_cons, List.length_nil, List.replicate, List.cons_append, List.nil_append, eq_self, decide_eq_true_eq, Bool.not_eq_true', decide_eq_false_iff_not, Nat.reduceAdd, Nat.reduceSub, Nat.reduceLeDiff, and_true, true_and, if_true, if_false, ite_true, ite_false, Bool.false_eq_true, Bool.true_eq_false, Pv.PVA0, Pv.PVA1]
  refine alltabs_w cS hk hr hl he ?_
  try simp only [Pv.PV0, Pv.PV1, Pv.PV2, Pv.PV3, Pv.PV4, Pv.PV5, Pv.PV6, List.getElem?_cons_zero, List.getElem?_cons_succ, List.set_cons_zero, List.set_cons_succ, List.map_cons, List.map_nil, List.length_cons, List.length_nil, List.replicate, List.cons_append, List.nil_append, eq_self, decide_eq_true_eq, Bool.not_eq_true', decide_eq_false_iff_not, Nat.reduceAdd, Nat.reduceSub, Nat.reduceLeDiff, and_true, true_and, if_true, if_false, ite_true, ite_false, Bool.false_eq_true, Bool.true_eq_false, Pv.PVA0, Pv.PVA1]
  refine dues_w hl he hm2 ?_
  rw [dueL_V]
  try simp only [Pv.PV0, Pv.PV1, Pv.PV2, Pv.PV3, Pv.PV4, Pv.PV5, Pv.PV6, List.getElem?_cons_zero, List.getElem?_cons_succ, List.set_cons_zero, List.set_cons_succ, List.map_cons, List.map_nil, List.length_cons, List.length_nil, List.replicate, List.cons_append, List.nil_append, eq_self, decide_eq_true_eq, Bool.not_eq_true', decide_eq_false_iff_not, Nat.reduceAdd, Nat.reduceSub, Nat.reduceLeDiff, and_true, true_and, if_true, if_false, ite_true, ite_false, Bool.false_eq_true, Bool.true_eq_false, Pv.PVA0, Pv.PVA1]
  have h0 : Has (S ++ [Ob.lst ((dueV st 0 es).map evP)]) [cl S.length (.lst ((dueV st 0 es).map evP))] := (has_nil cS).new (u := .lst ((dueV st 0 es).map evP)) (ev_lt _)
  have h1 := h0.new (u := .dic (kbP [])) lt_kbp
  have a1 : Ab S ((S ++ [Ob.lst ((dueV st 0 es).map evP)]) ++ [Ob.dic (kbP [])]) := Ab.refl.push.push
  rw [len_a1] at h1
  rw [show (Ob.dic ([] : List (Key × PV))) = Ob.dic (kbP []) from rfl]
  generalize (S ++ [Ob.lst ((dueV st 0 es).map evP)]) ++ [Ob.dic (kbP [])] = S2 at h1 a1 ⊢
  have h2 := h1.mv 1
  have cc : S.length ≤ S.length := Nat.le_refl _
  have dd : S.length ≤ S.length + 1 := Nat.le_succ _
  generalize S.length + 1 = d at h2 dd ⊢
  try simp only [Pv.PV0, Pv.PV1, Pv.PV2, Pv.PV3, Pv.PV4, Pv.PV5, Pv.PV6, List.getElem?_cons_zero, List.getElem?_cons_succ, List.set_cons_zero, List.set_cons_succ, List.map_cons, List.map_nil, List.length_cons, List.length_nil, List.replicate, List.cons_append, List.nil_append, eq_self, decide_eq_true_eq, Bool.not_eq_true', decide_eq_false_iff_not, Nat.reduceAdd, Nat.reduceSub, Nat.reduceLeDiff, and_true, true_and, if_true, if_false, ite_true, ite_false, Bool.false_eq_true, Bool.true_eq_false, Pv.PVA0, Pv.PVA1, w_iEnu]
  refine ⟨_, _, rfl, rfl, ?_⟩
  rw [enum_ev]
  have lz : ((List.range vs.length).zip vs).length = vs.length := by rw [List.length_zip, List.length_range, Nat.min_self]
  refine forI_w (fun p : Nat × Ev => (iP p.1, evP p.2)) (fun pre env S' => ∃ s, runF rows es st ⟨dueV st 0 es, [], st⟩ (pre.map (·.2)) = some s ∧ s.cop.length ≤ pre.length ∧ Has S' [cl S.length (.lst (s.due.map evP)), cl d (.dic (kbP s.cop))] ∧ Ab S S' ∧ ∃ x8 x9 x10 x11 x12 x13, env = [some (tabP rows), some (logP es), some (.fl (vs.map evP)), some (.int (st : Int)), some (.fl ((tabsAt rows es (es.length + 1)).map tabP)), some (.ref S.length), some (.ref d), some (.int s.last), x8, x9, x10, x11, x12, x13]) (fun _ _ _ _ => by rfl) ⟨_, rfl, Nat.le_refl _, h2, a1, _, _, _, _, _, _, rfl⟩ (fun pre p post env S' e ⟨s, r, cl1, h3, a, x8, x9, x10, x11, x12, x13, e1⟩ => ?_) fun env S' ⟨s, r, cl1, h3, a, x8, x9, x10, x11, x12, x13, e1⟩ => ?_
  · subst e1
    obtain ⟨ep, ev⟩ := zip_pre e
    obtain ⟨i, v⟩ := p
    have lp : pre.length < vs.length := by
      have := congrArg List.length e
      rw [lz, List.length_append, List.length_cons] at this
      omega
    unfold iP
    try simp only [Pv.PV0, Pv.PV1, Pv.PV2, Pv.PV3, Pv.PV4, Pv.PV5, Pv.PV6, List.getElem?_cons_zero, List.getElem?_cons_succ, List.set_cons_zero, List.set_cons_succ, List.map_cons, List.map_nil, List.length_cons, List.length_nil, List.replicate, List.cons_append, List.nil_append, eq_self, decide_eq_true_eq, Bool.not_eq_true', decide_eq_false_iff_not, Nat.reduceAdd, Nat.reduceSub, Nat.reduceLeDiff, and_true, true_and, if_true, if_false, ite_true, ite_false, Bool.false_eq_true, Bool.true_eq_false, Pv.PVA0, Pv.PVA1]
    refine fwbody h3 a cc dd hst hl he hm (by omega) (fun S'' a' f => ?_) fun s' S'' y10 y11 y12 y13 f h' a' l' => ?_
    · refine ⟨a'.clo cS, .inl ⟨trivial, ?_⟩⟩
      rw [a'.eq]
      rw [ev, firstM_at r f] at k
      have ep : i = pre.length := ep
      rw [ep]
      rw [List.length_map] at k
      exact k
    · refine ⟨s', by rw [List.map_append]; exact runF_snoc r f, by rw [List.length_append, List.length_singleton]; omega, h', a', _, _, _, _, _, _, rfl⟩
  · subst e1
    rw [List.map_snd_zip (by rw [List.length_range]; exact Nat.le_refl _)] at r
    rw [firstM_ok r] at k
    refine ⟨a.clo cS, .inl ⟨trivial, ?_⟩⟩
    rw [a.eq]
    exact k
theorem lt_ev1 {N : Nat} (v : Ev) : LtP N (evP v) := (ev_lt [v]).1
theorem wrong_w {S : Sto} {Q : PV → Sto → Prop} {X : WXE} {rows : List Rw} {es : List Ent} {ks : List Int} {m st : Nat} {vs : List Ev} (cS : Clo S) (hk : ks.length < 100000) (hr : ∀ r ∈ rows, r.1 ∈ ks ∧ 0 ≤ r.2 ∧ r.2 ≤ 999)
    (hst : st ≤ es.length) (hl : es.length ≤ 1000) (he : ∀ e ∈ es, Ent.In ks m e) (hm2 : m ≤ 50) (hv : vs.length ≤ 80000)
    (k : Q (resP (firstM rows es st ⟨dueV st 0 es, [], st⟩ 0 vs)) S) : wE (m__law_wrong_at [tabP rows, logP es, .fl (vs.map evP), .int (st : Int)] S) Q X := by
  refine w_defT (m := m__law_wrong_at) rfl ?_
  rw [bdWa_in]
  try simp only [Pv.PV0, Pv.PV1, Pv.PV2, Pv.PV3, Pv.PV4, Pv.PV5, Pv.PV6, List.getElem?_cons_zero, List.getElem?_cons_succ, List.set_cons_zero, List.set_cons_succ, List.map_cons, List.map_nil, List.length_cons, List.length_nil, List.replicate, List.cons_append, List.nil_append, eq_self, decide_eq_true_eq, Bool.not_eq_true', decide_eq_false_iff_not, Nat.reduceAdd, Nat.reduceSub, Nat.reduceLeDiff, and_true, true_and, if_true, if_false, ite_true, ite_false, Bool.false_eq_true, Bool.true_eq_false, Pv.PVA0, Pv.PVA1]
  have h0 : Has (S ++ [Ob.lst []]) [cl S.length (.lst ([] : List PV))] := (has_nil cS).new (u := .lst []) trivial
  have a0 : Ab S (S ++ [Ob.lst []]) := Ab.refl.push
  generalize S ++ [Ob.lst []] = S1 at h0 a0 ⊢
  try simp only [Pv.PV0, Pv.PV1, Pv.PV2, Pv.PV3, Pv.PV4, Pv.PV5, Pv.PV6, List.getElem?_cons_zero, List.getElem?_cons_succ, List.set_cons_zero, List.set_cons_succ, List.map_cons, List.map_nil, List.length_cons, List.length_nil, List.replicate, List.cons_append, List.nil_append, eq_self, decide_eq_true_eq, Bool.not_eq_true', decide_eq_false_iff_not, Nat.reduceAdd, Nat.reduceSub, Nat.reduceLeDiff, and_true, true_and, if_true, if_false, ite_true, ite_false, Bool.false_eq_true, Bool.true_eq_false, Pv.PVA0, Pv.PVA1, w_iEnu]
  refine groups_w (es := es) (by omega) ?_
  refine ⟨_, _, rfl, rfl, ?_⟩
  rw [enum_f (fun e : Ent => chsP (chsOf e)) es]
  refine forI_w (fun p : Nat × Ent => (iP p.1, chsP (chsOf p.2))) (fun pre env S' => ∃ c, S.length ≤ c ∧ Ab S S' ∧ Has S' [cl c (.lst (pre.flatMap fun p => dueE st p.1 p.2))] ∧ (pre.flatMap fun p => dueE st p.1 p.2).length ≤ m * pre.length ∧ ∃ x5 x6 x7 x8 x9 x10 x11 x12 x13 x14, env = [some (tabP rows), some (logP es), some (.fl (vs.map evP)), some (.int (st : Int)), some (.ref c), x5, x6, x7, x8, x9, x10, x11, x12, x13, x14]) (fun _ _ _ _ => by rfl) ⟨_, Nat.le_refl _, a0, h0, Nat.zero_le _, _, _, _, _, _, _, _, _, _, _, rfl⟩ (fun pre p post env S' e ⟨c, cc, a, h1, ll, x5, x6, x7, x8, x9, x10, x11, x12, x13, x14, e1⟩ => ?_) fun env S' ⟨c, cc, a, h1, ll, x5, x6, x7, x8, x9, x10, x11, x12, x13, x14, e1⟩ => ?_
  · subst e1
    obtain ⟨at_, ent⟩ := p
    have hp : (at_, ent) ∈ (List.range es.length).zip es := by rw [e]; simp
    have hin := he ent (List.of_mem_zip hp).2
    have lpre : pre.length < 1000 := by
      have := congrArg List.length e
      rw [List.length_zip, List.length_range, Nat.min_self, List.length_append, List.length_cons] at this
      omega
    have lm : m * pre.length ≤ 50 * 1000 := Nat.mul_le_mul hm2 (by omega)
    have fm : (pre ++ [(at_, ent)]).flatMap (fun p => dueE st p.1 p.2) = (pre.flatMap fun p => dueE st p.1 p.2) ++ dueE st at_ ent := by
      rw [List.flatMap_append, List.flatMap_cons, List.flatMap_nil, List.append_nil]
    have fl : ((pre ++ [(at_, ent)]).flatMap fun p => dueE st p.1 p.2).length ≤ m * (pre ++ [(at_, ent)]).length := by
      rw [fm, List.length_append, List.length_append, List.length_singleton, Nat.mul_succ]
      have := dueE_len (st := st) (n := at_) hin
      omega
    unfold iP bdWd
    try simp only [Pv.PV0, Pv.PV1, Pv.PV2, Pv.PV3, Pv.PV4, Pv.PV5, Pv.PV6, List.getElem?_cons_zero, List.getElem?_cons_succ, List.set_cons_zero, List.set_cons_succ, List.map_cons, List.map_nil, List.length_cons, List.length_nil, List.replicate, List.cons_append, List.nil_append, eq_self, decide_eq_true_eq, Bool.not_eq_true', decide_eq_false_iff_not, Nat.reduceAdd, Nat.reduceSub, Nat.reduceLeDiff, and_true, true_and, if_true, if_false, ite_true, ite_false, Bool.false_eq_true, Bool.true_eq_false, Pv.PVA0, Pv.PVA1]
    refine ite_w (fun c1 => ?_) (fun c1 => ?_)
    · have hd : dueE st at_ ent = (chsOf ent).map (evC ((at_ : Int) + 1)) := by unfold dueE; rw [if_pos (by omega)]
      have hdl := dueE_len (st := st) (n := at_) hin
      rw [hd, List.length_map] at hdl
      unfold chsP
      try simp only [Pv.PV0, Pv.PV1, Pv.PV2, Pv.PV3, Pv.PV4, Pv.PV5, Pv.PV6, List.getElem?_cons_zero, List.getElem?_cons_succ, List.set_cons_zero, List.set_cons_succ, List.map_cons, List.map_nil, List.length_cons, List.length_nil, List.replicate, List.cons_append, List.nil_append, eq_self, decide_eq_true_eq, Bool.not_eq_true', decide_eq_false_iff_not, Nat.reduceAdd, Nat.reduceSub, Nat.reduceLeDiff, and_true, true_and, if_true, if_false, ite_true, ite_false, Bool.false_eq_true, Bool.true_eq_false, Pv.PVA0, Pv.PVA1, lsq_lst h1.get]
      refine lcM chP (evC ((at_ : Int) + 1)) trivial (by omega) (fun ch hch => ?_) ?_
      · cases ch with
        | put k w =>
          unfold chP
          try simp only [Pv.PV0, Pv.PV1, Pv.PV2, Pv.PV3, Pv.PV4, Pv.PV5, Pv.PV6, List.getElem?_cons_zero, List.getElem?_cons_succ, List.set_cons_zero, List.set_cons_succ, List.map_cons, List.map_nil, List.length_cons, List.length_nil, List.replicate, List.cons_append, List.nil_append, eq_self, decide_eq_true_eq, Bool.not_eq_true', decide_eq_false_iff_not, Nat.reduceAdd, Nat.reduceSub, Nat.reduceLeDiff, and_true, true_and, if_true, if_false, ite_true, ite_false, Bool.false_eq_true, Bool.true_eq_false, Pv.PVA0, Pv.PVA1]
          exact ⟨by show 1 + 2 ≤ 100000; decide, by show 2 ≤ 99998; decide, rfl⟩
        | drop k =>
          unfold chP
          try simp only [Pv.PV0, Pv.PV1, Pv.PV2, Pv.PV3, Pv.PV4, Pv.PV5, Pv.PV6, List.getElem?_cons_zero, List.getElem?_cons_succ, List.set_cons_zero, List.set_cons_succ, List.map_cons, List.map_nil, List.length_cons, List.length_nil, List.replicate, List.cons_append, List.nil_append, eq_self, decide_eq_true_eq, Bool.not_eq_true', decide_eq_false_iff_not, Nat.reduceAdd, Nat.reduceSub, Nat.reduceLeDiff, and_true, true_and, if_true, if_false, ite_true, ite_false, Bool.false_eq_true, Bool.true_eq_false, Pv.PVA0, Pv.PVA1]
          exact ⟨by show 1 + 2 ≤ 100000; decide, by show 2 ≤ 99998; decide, rfl⟩
      · have ec : catS S' (.ref c) (.fl ((chsOf ent).map (evC ((at_ : Int) + 1)))) = some ((pre.flatMap fun p => dueE st p.1 p.2) ++ dueE st at_ ent) := by
          rw [hd]
          have el : lstS S' (.ref c) = some (pre.flatMap fun p => dueE st p.1 p.2) := by unfold lstS; simp only [h1.get]
          unfold catS
          rw [el]
          show (if (pre.flatMap fun p => dueE st p.1 p.2).length + ((chsOf ent).map (evC ((at_ : Int) + 1))).length ≤ 100000 then some ((pre.flatMap fun p => dueE st p.1 p.2) ++ (chsOf ent).map (evC ((at_ : Int) + 1))) else none) = _
          rw [if_pos (by rw [List.length_map]; omega)]
        rw [ec, o_some, ← fm]
        have h2 := h1.new (u := .lst ((pre ++ [(at_, ent)]).flatMap fun p => dueE st p.1 p.2)) (ltPs_of fun x hx => by
          obtain ⟨p, _, hx⟩ := List.mem_flatMap.mp hx
          rw [dueE_V] at hx
          obtain ⟨v, _, rfl⟩ := List.mem_map.mp hx
          exact lt_ev1 v)
        have h3 := (h2.mv 1).tail
        exact ⟨_, Nat.le_trans a.le (Nat.le_refl _), a.push, h3, fl, _, _, _, _, _, _, _, _, _, _, rfl⟩
    · have hd : dueE st at_ ent = [] := by unfold dueE; rw [if_neg (by omega)]
      exact ⟨c, cc, a, by rw [fm, hd, List.append_nil]; exact h1, fl, _, _, _, _, _, _, _, _, _, _, rfl⟩
  · subst e1
    rw [List.range_eq_range', due_zip, dueL_V] at h1
    try simp only [Pv.PV0, Pv.PV1, Pv.PV2, Pv.PV3, Pv.PV4, Pv.PV5, Pv.PV6, List.getElem?_cons_zero, List.getElem?_cons_succ, List.set_cons_zero, List.set_cons_succ, List.map_cons, List.map_nil, List.length_cons, List.length_nil, List.replicate, List.cons_append, List.nil_append, eq_self, decide_eq_true_eq, Bool.not_eq_true', decide_eq_false_iff_not, Nat.reduceAdd, Nat.reduceSub, Nat.reduceLeDiff, and_true, true_and, if_true, if_false, ite_true, ite_false, Bool.false_eq_true, Bool.true_eq_false, Pv.PVA0, Pv.PVA1]
    have h2 := h1.new (u := .lst (([] : List Int).map .int)) trivial
    have a2 := a.push (o := .lst (([] : List Int).map .int))
    have dd : S.length ≤ S'.length := a.le
    have h3 : Has (S' ++ [Ob.lst (([] : List Int).map .int)]) [cl c (.lst ((dueV st 0 es).map evP)), cl S'.length (.lst (([] : List Int).map .int))] := h2.mv 1
    generalize S'.length = d at h3 dd ⊢
    rw [show (Ob.lst ([] : List PV)) = Ob.lst (([] : List Int).map .int) from rfl]
    generalize S' ++ [Ob.lst (([] : List Int).map .int)] = S2 at h3 a2 ⊢
    refine ⟨_, _, rfl, rfl, ?_⟩
    rw [enum_ev]
    have lz : ((List.range vs.length).zip vs).length = vs.length := by rw [List.length_zip, List.length_range, Nat.min_self]
    refine forI_w (fun p : Nat × Ev => (iP p.1, evP p.2)) (fun pre env S' => ∃ s, runF rows es st ⟨dueV st 0 es, [], st⟩ (pre.map (·.2)) = some s ∧ s.cop.length ≤ pre.length ∧ (st : Int) ≤ s.last ∧ Has S' [cl c (.lst (s.due.map evP)), cl d (.lst (s.cop.map .int))] ∧ Ab S S' ∧ ∃ x5 x6 x9 x10 x11 x12 x13 x14, env = [some (tabP rows), some (logP es), some (.fl (vs.map evP)), some (.int (st : Int)), some (.ref c), x5, x6, some (.ref d), some (.int s.last), x9, x10, x11, x12, x13, x14]) (fun _ _ _ _ => by rfl) ⟨_, rfl, Nat.le_refl _, Int.le_refl _, h3, a2, _, _, _, _, _, _, _, _, rfl⟩ (fun pre p post env S' e ⟨s, r, cl1, la, h4, a3, x5, x6, x9, x10, x11, x12, x13, x14, e1⟩ => ?_) fun env S' ⟨s, r, cl1, la, h4, a3, x5, x6, x9, x10, x11, x12, x13, x14, e1⟩ => ?_
    · subst e1
      obtain ⟨ep, ev⟩ := zip_pre e
      obtain ⟨i, v⟩ := p
      have lp : pre.length < vs.length := by
        have := congrArg List.length e
        rw [lz, List.length_append, List.length_cons] at this
        omega
      unfold iP
      try simp only [Pv.PV0, Pv.PV1, Pv.PV2, Pv.PV3, Pv.PV4, Pv.PV5, Pv.PV6, List.getElem?_cons_zero, List.getElem?_cons_succ, List.set_cons_zero, List.set_cons_succ, List.map_cons, List.map_nil, List.length_cons, List.length_nil, List.replicate, List.cons_append, List.nil_append, eq_self, decide_eq_true_eq, Bool.not_eq_true', decide_eq_false_iff_not, Nat.reduceAdd, Nat.reduceSub, Nat.reduceLeDiff, and_true, true_and, if_true, if_false, ite_true, ite_false, Bool.false_eq_true, Bool.true_eq_false, Pv.PVA0, Pv.PVA1]
      refine wabody h4 a3 cc dd hk hr hst hl he la (by omega) (fun S'' a' f => ?_) fun s' S'' y10 y11 y12 y13 f h' a' l' la' => ?_
      · refine ⟨a'.clo cS, .inl ⟨trivial, ?_⟩⟩
        rw [a'.eq]
        rw [ev, firstM_at r f] at k
        have ep : i = pre.length := ep
        rw [ep]
        rw [List.length_map] at k
        exact k
      · refine ⟨s', by rw [List.map_append]; exact runF_snoc r f, by rw [List.length_append, List.length_singleton]; omega, la', h', a', _, _, _, _, _, _, _, _, rfl⟩
    · subst e1
      rw [List.map_snd_zip (by rw [List.length_range]; exact Nat.le_refl _)] at r
      rw [firstM_ok r] at k
      refine ⟨a3.clo cS, .inl ⟨trivial, ?_⟩⟩
      rw [a3.eq]
      exact k

structure Abb (b : Nat) (S S' : Sto) : Prop where
  le : S.length ≤ S'.length
  eq : ∀ i, i < S.length → i ≠ b → S'[i]? = S[i]?
theorem Abb.refl {b : Nat} {S : Sto} : Abb b S S := ⟨Nat.le_refl _, fun _ _ _ => rfl⟩
theorem Abb.push {b : Nat} {S S' : Sto} {o : Ob} (h : Abb b S S') : Abb b S (S' ++ [o]) := ⟨by rw [List.length_append]; exact Nat.le_trans h.le (Nat.le_add_right _ _), fun i hi hb => by
  rw [List.getElem?_append_left (Nat.lt_of_lt_of_le hi h.le)]
  exact h.eq i hi hb⟩
theorem Abb.set {b i : Nat} {S S' : Sto} {o : Ob} (h : Abb b S S') (hi : S.length ≤ i) : Abb b S (S'.set i o) := ⟨by rw [List.length_set]; exact h.le, fun j hj hb => by
  rw [List.getElem?_set_ne (by omega)]
  exact h.eq j hj hb⟩
theorem Abb.st {b : Nat} {S S' S2 : Sto} (h : Abb b S S') (s : Pv.St b S' S2) : Abb b S S2 := ⟨by rw [s.1]; exact h.le, fun i hi hb => (s.2 i hb).trans (h.eq i hi hb)⟩
theorem Abb.fin {b : Nat} {S S' : Sto} (hb : Bg b S) (h : Abb b S S') (hb2 : Bg b S') : Pv.Cl S.length S' ∧ Bg b (S'.take S.length) ∧ Pv.St b S (S'.take S.length) := by
  have bl := hb.lt
  have gt : ∀ i, i < S.length → (S'.take S.length)[i]? = S'[i]? := fun i hi => List.getElem?_take_of_lt hi
  have lt : (S'.take S.length).length = S.length := by rw [List.length_take]; have := h.le; omega
  obtain ⟨⟨x, y, e, q⟩, _⟩ := hb2
  have st : Pv.St b S (S'.take S.length) := ⟨lt, fun i hi => by
    by_cases c : i < S.length
    · rw [gt i c]
      exact h.eq i c hi
    · rw [List.getElem?_eq_none (by omega), List.getElem?_eq_none (by omega)]⟩
  have cl : Pv.Cl S.length S' := fun o ho => by
    obtain ⟨i, hi, rfl⟩ := List.mem_iff_getElem.mp ho
    rw [lt] at hi
    have g := gt i hi
    rw [List.getElem?_eq_getElem (by omega)] at g
    by_cases c : i = b
    · subst c
      rw [e] at g
      rw [Option.some.inj g]
      exact ⟨trivial, trivial, trivial⟩
    · rw [h.eq i hi c] at g
      exact hb.2 _ (List.mem_of_getElem? g.symm)
  refine ⟨cl, ⟨⟨x, y, ?_, q⟩, ?_⟩, st⟩
  · rw [gt b bl]
    exact e
  · unfold Clo
    rw [lt]
    exact cl
theorem dueV_skip {st : Nat} : ∀ {q n : Nat} {es : List Ent}, n + q ≤ st → dueV st n es = dueV st (n + q) (es.drop q)
  | 0, n, es, _ => rfl
  | q + 1, n, [], h => by rw [List.drop_nil]; rfl
  | q + 1, n, e :: es, h => by
    show dueEv st n e ++ dueV st (n + 1) es = dueV st (n + (q + 1)) (es.drop q)
    have e0 : dueEv st n e = [] := by unfold dueEv; rw [if_neg (by omega)]
    rw [e0, List.nil_append, dueV_skip (q := q) (n := n + 1) (by omega), show n + 1 + q = n + (q + 1) by omega]
theorem dueV_drop {st p : Nat} {es : List Ent} {e : Ent} (h : es[p]? = some e) (hp : st ≤ p) : dueV st p (es.drop p) = (chsOf e).map (chEv ((p : Int) + 1)) ++ dueV st (p + 1) (es.drop (p + 1)) := by
  have pl := (List.getElem?_eq_some_iff.mp h).1
  have e1 : es.drop p = e :: es.drop (p + 1) := by
    rw [List.drop_eq_getElem_cons pl]
    rw [List.getElem?_eq_getElem pl] at h
    rw [Option.some.inj h]
  rw [e1]
  show dueEv st p e ++ _ = _
  unfold dueEv
  rw [if_pos hp]
theorem chEv_wd {pl : Int} {c : Ch} : (chEv pl c).wd ≠ ("copy" : Str) := by
  cases c with
  | put k w => show ("put" : Str) ≠ "copy"; decide
  | drop k => show ("drop" : Str) ≠ "copy"; decide
theorem chEv_pl {pl : Int} {c : Ch} : (chEv pl c).pl = pl := by cases c <;> rfl
noncomputable def bdTc : MS := (sExpr (mL apF (eVar 4) (aCons (eOp addP (eOp addP (eTup (aCons (eVar 6) aNil)) (eSl (eVar 7) oNone (oSome (eC (.int 2))))) (eTup (aCons (eOp ixP (eOp addP (eVar 7) (eTup (aCons (eC .non) aNil))) (eC (.int 2))) aNil))) aNil)))
noncomputable def bdTk : MS := (sIf (tAndP (tOf (eOp notinP (eVar 8) (eVar 5))) (tAndP (tOf (eOp notinP (eVar 8) (eCall 3 m__law_moved (aCons (eVar 2) (aCons (eVar 3) (aCons (eVar 6) aNil)))))) (tOf (eOp eqP (eCall 2 m__law_take (aCons (eVar 0) (aCons (eC (.int 3)) aNil))) (eC (.int 0))))))
    (sSeq (sAsg (eC (.bl true)) (gIx (eVar 5) (eVar 8)))
    (sExpr (mL apF (eVar 4) (aCons (eTup (aCons (eVar 6) (aCons (eC (.str "copy")) (aCons (eVar 8) (aCons (eVar 9) aNil))))) aNil))))
    sNil)
noncomputable def bdT1 : MS := (sIf (tOf (eOp gtP (eVar 6) (eVar 3)))
    (sFor (iSeq (eOp ixP (eCall 1 m__law_groups (aCons (eVar 2) aNil)) (eOp subP (eVar 6) (eC (.int 1))))) (gNm 7) bdTc)
    sNil)
noncomputable def bdT2 : MS := (sIf (tOf (eOp eqP (eCall 2 m__law_take (aCons (eVar 0) (aCons (eC (.int 3)) aNil))) (eC (.int 0))))
    (sFor (iSeq (eCall 3 m__law_at (aCons (eVar 1) (aCons (eVar 2) (aCons (eVar 6) aNil))))) (gTp 2 (gCn (gNm 8) (gCn (gNm 9) gN0))) bdTk)
    sNil)
theorem bdT_in : b__law_true_events = (sSeq (sSet 4 (eNew (nLst aNil)))
    (sSeq (sSet 5 eDNew)
    (sSeq (sFor (iRng2 (aCons (eVar 3) (aCons (eOp addP (eCB (oneF lenG) (aCons (eVar 2) aNil)) (eC (.int 1))) aNil))) (gNm 6) (sSeq bdT1 bdT2))
    (sRet (eVar 4))))) := rfl
/-- the events so far, and where they lead -/
structure Te (rows : List Rw) (es : List Ent) (ks : List Int) (st p : Nat) (vs : List Ev) (due : List Ev) (cop : List Int) : Prop where
  run : ∃ l, runF rows es st ⟨dueV st 0 es, [], st⟩ vs = some ⟨due, cop, l⟩ ∧ l ≤ (p : Int)
  nd : cop.Nodup
  sub : ∀ k ∈ cop, k ∈ ks
  ln : vs.length + due.length = (dueV st 0 es).length + cop.length
theorem Te.up {rows : List Rw} {es : List Ent} {ks : List Int} {st p q : Nat} {vs due : List Ev} {cop : List Int} (t : Te rows es ks st p vs due cop) (h : p ≤ q) : Te rows es ks st q vs due cop := by
  obtain ⟨⟨l, r, hl⟩, nd, sub, ln⟩ := t
  exact ⟨⟨l, r, by omega⟩, nd, sub, ln⟩
theorem Te.chg {rows : List Rw} {es : List Ent} {ks : List Int} {st p : Nat} {vs due : List Ev} {cop : List Int} {c : Ch} (t : Te rows es ks st p vs (chEv (p : Int) c :: due) cop) : Te rows es ks st p (vs ++ [chEv (p : Int) c]) due cop := by
  obtain ⟨⟨l, r, hl⟩, nd, sub, ln⟩ := t
  refine ⟨⟨(p : Int), runF_snoc r ?_, Int.le_refl _⟩, nd, sub, by rw [List.length_cons] at ln; rw [List.length_append, List.length_singleton]; omega⟩
  unfold fstep
  rw [if_neg (by rw [chEv_pl]; show ¬ (p : Int) < l; omega), if_neg chEv_wd]
  show (if evB (chEv (p : Int) c) (chEv (p : Int) c) = true then some (⟨due, cop, (chEv (p : Int) c).pl⟩ : FS) else none) = _
  rw [if_pos (evB_eq.mpr rfl), chEv_pl]
theorem Te.cpy {rows : List Rw} {es : List Ent} {ks : List Int} {st p : Nat} {vs due : List Ev} {cop : List Int} {k w : Int} (t : Te rows es ks st p vs due cop) (h1 : k ∉ cop) (hs : st ≤ p) (hp : p ≤ es.length) (h2 : k ∉ movedK ((es.take p).drop st)) (h3 : (k, w) ∈ tabAt rows es p) (h4 : k ∈ ks) : Te rows es ks st p (vs ++ [⟨(p : Int), "copy", k, some w⟩]) due (Pv.addK cop k) := by
  obtain ⟨⟨l, r, hl⟩, nd, sub, ln⟩ := t
  have ea : Pv.addK cop k = cop ++ [k] := by unfold Pv.addK; rw [if_neg h1]
  refine ⟨⟨(p : Int), runF_snoc r ?_, Int.le_refl _⟩, addK_nd nd, fun x hx => ?_, by rw [ea, List.length_append, List.length_append, List.length_singleton, List.length_singleton]; omega⟩
  · unfold fstep
    rw [if_neg (show ¬ (p : Int) < l by omega), if_pos rfl, if_neg h1, if_pos]
    unfold copyB
    show (decide ((st : Int) ≤ (p : Int) ∧ (p : Int) ≤ es.length) && (!decide (k ∈ movedK ((es.take (p : Int).toNat).drop st)) && inTab k (some w) (tabAt rows es (p : Int).toNat))) = true
    rw [Int.toNat_natCast, decide_eq_true ⟨by omega, by omega⟩, decide_eq_false h2]
    show decide ((k, w) ∈ tabAt rows es p) = true
    exact decide_eq_true h3
  · rcases addK_mem.mp hx with z | z
    · exact sub x z
    · rw [z]; exact h4
structure TeS (b f d : Nat) (S S' : Sto) (vs : List Ev) (cop : List Int) : Prop where
  h : Has S' [bagP b, cl f (.lst (vs.map evP)), cl d (.dic (kbP cop))]
  a : Abb b S S'
theorem TeS.app {b f d : Nat} {S S' : Sto} {vs : List Ev} {cop : List Int} {v : Ev} (t : TeS b f d S S' vs cop) (hf : S.length ≤ f) : TeS b f d S (S'.set f (.lst ((vs ++ [v]).map evP))) (vs ++ [v]) cop :=
  ⟨((t.h.mv 1).set (u := .lst ((vs ++ [v]).map evP)) (ev_lt _)).mv 1, t.a.set hf⟩
theorem te1_w {S S' : Sto} {P : Po} {b f d st p : Nat} {rows : List Rw} {es : List Ent} {ks : List Int} {m : Nat} {vs : List Ev} {cop : List Int} {x1 x7 x8 x9 : Option PV} (T : TeS b f d S S' vs cop) (hf : S.length ≤ f) (hs : st ≤ p) (hp : p ≤ es.length) (hl : es.length ≤ 1000) (he : ∀ e ∈ es, Ent.In ks m e) (hm : es.length * m ≤ 3000) (hk : ks.length ≤ 1000)
    (t : Te rows es ks st p vs (dueV st (st + (p - st - 1)) (es.drop (st + (p - st - 1)))) cop)
    (k : ∀ S2 vs2 y7, TeS b f d S S2 vs2 cop → Te rows es ks st p vs2 (dueV st p (es.drop p)) cop → P.N [some (.ref b), x1, some (logP es), some (.int (st : Int)), some (.ref f), some (.ref d), some (.int (p : Int)), y7, x8, x9] S2) :
    wS (bdT1 [some (.ref b), x1, some (logP es), some (.int (st : Int)), some (.ref f), some (.ref d), some (.int (p : Int)), x7, x8, x9] S') P := by
  unfold bdT1
  try simp only [Pv.PV0, Pv.PV1, Pv.PV2, Pv.PV3, Pv.PV4, Pv.PV5, Pv.PV6, List.getElem?_cons_zero, List.getElem?_cons_succ, List.set_cons_zero, List.set_cons_succ, List.map_cons, List.map_nil, List.length_cons, List.length_nil, List.replicate, List.cons_append, List.nil_append, eq_self, decide_eq_true_eq, Bool.not_eq_true', decide_eq_false_iff_not, Nat.reduceAdd, Nat.reduceSub, Nat.reduceLeDiff, and_true, true_and, if_true, if_false, ite_true, ite_false, Bool.false_eq_true, Bool.true_eq_false, Pv.PVA0, Pv.PVA1]
  refine ite_w (fun c1 => ?_) (fun c1 => ?_)
  · have lt : p - 1 < es.length := by omega
    obtain ⟨e, he1⟩ : ∃ e, es[p - 1]? = some e := ⟨es[p - 1], List.getElem?_eq_getElem lt⟩
    have eq : st + (p - st - 1) = p - 1 := by omega
    rw [eq, dueV_drop he1 (by omega)] at t
    rw [show ((p - 1 : Nat) : Int) + 1 = (p : Int) by omega, show p - 1 + 1 = p by omega] at t
    have hin := he e (List.mem_of_getElem? he1)
    have cl : (chsOf e).length ≤ m := by
      cases e with
      | group cs => exact hin.2.1
      | mark a b c => exact Nat.zero_le _
    refine groups_w (es := es) (by omega) ?_
    have ei : atI (es.map fun e => chsP (chsOf e)) ((p : Int) - 1) = some (chsP (chsOf e)) := by
      rw [at_int (by omega) (by rw [List.length_map]; omega), show ((p : Int) - 1).toNat = p - 1 by omega, List.getElem?_map, he1]
      rfl
    try simp only [Pv.PV0, Pv.PV1, Pv.PV2, Pv.PV3, Pv.PV4, Pv.PV5, Pv.PV6, List.getElem?_cons_zero, List.getElem?_cons_succ, List.set_cons_zero, List.set_cons_succ, List.map_cons, List.map_nil, List.length_cons, List.length_nil, List.replicate, List.cons_append, List.nil_append, eq_self, decide_eq_true_eq, Bool.not_eq_true', decide_eq_false_iff_not, Nat.reduceAdd, Nat.reduceSub, Nat.reduceLeDiff, and_true, true_and, if_true, if_false, ite_true, ite_false, Bool.false_eq_true, Bool.true_eq_false, Pv.PVA0, Pv.PVA1, ei]
    unfold chsP
    try simp only [Pv.PV0, Pv.PV1, Pv.PV2, Pv.PV3, Pv.PV4, Pv.PV5, Pv.PV6, List.getElem?_cons_zero, List.getElem?_cons_succ, List.set_cons_zero, List.set_cons_succ, List.map_cons, List.map_nil, List.length_cons, List.length_nil, List.replicate, List.cons_append, List.nil_append, eq_self, decide_eq_true_eq, Bool.not_eq_true', decide_eq_false_iff_not, Nat.reduceAdd, Nat.reduceSub, Nat.reduceLeDiff, and_true, true_and, if_true, if_false, ite_true, ite_false, Bool.false_eq_true, Bool.true_eq_false, Pv.PVA0, Pv.PVA1]
    have tl : vs.length ≤ 5000 := by
      have h1 := t.ln
      have h2 := dueV_len (st := st) (n := 0) he
      have h3 := nd_len t.nd t.sub
      have h4 : m * es.length = es.length * m := Nat.mul_comm _ _
      omega
    refine forI_w chP (fun pre env S2 => ∃ vs2, TeS b f d S S2 vs2 cop ∧ Te rows es ks st p vs2 (((chsOf e).drop pre.length).map (chEv (p : Int)) ++ dueV st p (es.drop p)) cop ∧ vs2.length = vs.length + pre.length ∧ ∃ y7, env = [some (.ref b), x1, some (logP es), some (.int (st : Int)), some (.ref f), some (.ref d), some (.int (p : Int)), y7, x8, x9]) (fun _ _ _ _ => trivial) ⟨vs, T, t, rfl, _, rfl⟩ (fun pre c post env S2 e2 ⟨vs2, T2, t2, l2, y7, e3⟩ => ?_) fun env S2 ⟨vs2, T2, t2, l2, y7, e3⟩ => ?_
    · subst e3
      have lp : pre.length < (chsOf e).length := by rw [e2, List.length_append, List.length_cons]; omega
      have ed : (chsOf e).drop pre.length = c :: (chsOf e).drop (pre.length + 1) := by
        have hc : (chsOf e)[pre.length]? = some c := by
          rw [e2, List.getElem?_append_right (Nat.le_refl _), Nat.sub_self]
          rfl
        rw [List.drop_eq_getElem_cons lp]
        rw [List.getElem?_eq_getElem lp] at hc
        rw [Option.some.inj hc]
      rw [ed, List.map_cons, List.cons_append] at t2
      have ml : m ≤ 3000 := by
        have : 1 * m ≤ es.length * m := Nat.mul_le_mul_right m (by omega)
        omega
      have fin : ∀ pv, pv = evP (chEv (p : Int) c) → vs2.length < 100000 ∧ (∃ vs3, TeS b f d S (S2.set f (.lst (vs2.map evP ++ [pv]))) vs3 cop ∧ Te rows es ks st p vs3 (((chsOf e).drop (pre ++ [c]).length).map (chEv (p : Int)) ++ dueV st p (es.drop p)) cop ∧ vs3.length = vs.length + (pre ++ [c]).length) := fun pv epv => by
        refine ⟨by omega, vs2 ++ [chEv (p : Int) c], ?_, ?_, ?_⟩
        · rw [epv, show vs2.map evP ++ [evP (chEv (p : Int) c)] = (vs2 ++ [chEv (p : Int) c]).map evP by rw [List.map_append]; rfl]
          exact T2.app hf
        · rw [List.length_append, List.length_singleton]
          exact t2.chg
        · rw [List.length_append, List.length_append, List.length_singleton, List.length_singleton]
          omega
      have g := T2.h.g1
      unfold bdTc
      cases c with
      | put k w =>
        have fin := fin (.tup [.int (p : Int), .str "put", .int k, .int w]) rfl
        have ec : PV.tup (PV.int (p : Int) :: (cutP [PV.str "put", PV.int k, PV.int w] none (some 2) ++ [.int w])) = .tup [.int (p : Int), .str "put", .int k, .int w] := rfl
        unfold chP
        try simp only [Pv.PV0, Pv.PV1, Pv.PV2, Pv.PV3, Pv.PV4, Pv.PV5, Pv.PV6, List.getElem?_cons_zero, List.getElem?_cons_succ, List.set_cons_zero, List.set_cons_succ, List.map_cons, List.map_nil, List.length_cons, List.length_nil, List.replicate, List.cons_append, List.nil_append, eq_self, decide_eq_true_eq, Bool.not_eq_true', decide_eq_false_iff_not, Nat.reduceAdd, Nat.reduceSub, Nat.reduceLeDiff, and_true, true_and, if_true, if_false, ite_true, ite_false, Bool.false_eq_true, Bool.true_eq_false, Pv.PVA0, Pv.PVA1, lsq_lst g]
        refine ⟨by show 1 + 2 ≤ 100000; decide, by show 2 ≤ 99998; decide, ?_⟩
        rw [g, o_some, ec]
        unfold apF
        try simp only [Pv.PV0, Pv.PV1, Pv.PV2, Pv.PV3, Pv.PV4, Pv.PV5, Pv.PV6, List.getElem?_cons_zero, List.getElem?_cons_succ, List.set_cons_zero, List.set_cons_succ, List.map_cons, List.map_nil, List.length_cons, List.length_nil, List.replicate, List.cons_append, List.nil_append, eq_self, decide_eq_true_eq, Bool.not_eq_true', decide_eq_false_iff_not, Nat.reduceAdd, Nat.reduceSub, Nat.reduceLeDiff, and_true, true_and, if_true, if_false, ite_true, ite_false, Bool.false_eq_true, Bool.true_eq_false, Pv.PVA0, Pv.PVA1]
        obtain ⟨f1, vs3, f2, f3, f4⟩ := fin
        exact ⟨by rw [List.length_map]; omega, vs3, f2, f3, f4, _, rfl⟩
      | drop k =>
        have fin := fin (.tup [.int (p : Int), .str "drop", .int k, .non]) rfl
        have ec : PV.tup (PV.int (p : Int) :: (cutP [PV.str "drop", PV.int k] none (some 2) ++ [.non])) = .tup [.int (p : Int), .str "drop", .int k, .non] := rfl
        unfold chP
        try simp only [Pv.PV0, Pv.PV1, Pv.PV2, Pv.PV3, Pv.PV4, Pv.PV5, Pv.PV6, List.getElem?_cons_zero, List.getElem?_cons_succ, List.set_cons_zero, List.set_cons_succ, List.map_cons, List.map_nil, List.length_cons, List.length_nil, List.replicate, List.cons_append, List.nil_append, eq_self, decide_eq_true_eq, Bool.not_eq_true', decide_eq_false_iff_not, Nat.reduceAdd, Nat.reduceSub, Nat.reduceLeDiff, and_true, true_and, if_true, if_false, ite_true, ite_false, Bool.false_eq_true, Bool.true_eq_false, Pv.PVA0, Pv.PVA1, lsq_lst g]
        refine ⟨by show 1 + 2 ≤ 100000; decide, by show 2 ≤ 99998; decide, ?_⟩
        rw [g, o_some, ec]
        unfold apF
        try simp only [Pv.PV0, Pv.PV1, Pv.PV2, Pv.PV3, Pv.PV4, Pv.PV5, Pv.PV6, List.getElem?_cons_zero, List.getElem?_cons_succ, List.set_cons_zero, List.set_cons_succ, List.map_cons, List.map_nil, List.length_cons, List.length_nil, List.replicate, List.cons_append, List.nil_append, eq_self, decide_eq_true_eq, Bool.not_eq_true', decide_eq_false_iff_not, Nat.reduceAdd, Nat.reduceSub, Nat.reduceLeDiff, and_true, true_and, if_true, if_false, ite_true, ite_false, Bool.false_eq_true, Bool.true_eq_false, Pv.PVA0, Pv.PVA1]
        obtain ⟨f1, vs3, f2, f3, f4⟩ := fin
        exact ⟨by rw [List.length_map]; omega, vs3, f2, f3, f4, _, rfl⟩
    · subst e3
      rw [List.drop_length, List.map_nil, List.nil_append] at t2
      exact k S2 vs2 _ T2 t2
  · have ep : p = st := by omega
    subst ep
    rw [show p + (p - p - 1) = p by omega] at t
    exact k S' vs _ T t
theorem te2_w {S S' : Sto} {P : Po} {b f d st p : Nat} {rows : List Rw} {es : List Ent} {ks : List Int} {m : Nat} {vs : List Ev} {cop : List Int} {x7 x8 x9 : Option PV} (T : TeS b f d S S' vs cop) (hf : S.length ≤ f) (hd : S.length ≤ d) (hs : st ≤ p) (hp : p ≤ es.length) (hl : es.length ≤ 1000) (he : ∀ e ∈ es, Ent.In ks m e) (hm : es.length * m ≤ 3000) (hk : ks.length ≤ 1000) (hr : ∀ r ∈ rows, r.1 ∈ ks ∧ 0 ≤ r.2 ∧ r.2 ≤ 999)
    (t : Te rows es ks st p vs (dueV st p (es.drop p)) cop)
    (k : ∀ S2 vs2 cop2 y8 y9, TeS b f d S S2 vs2 cop2 → Te rows es ks st p vs2 (dueV st p (es.drop p)) cop2 → P.N [some (.ref b), some (tabP rows), some (logP es), some (.int (st : Int)), some (.ref f), some (.ref d), some (.int (p : Int)), x7, y8, y9] S2) :
    wS (bdT2 [some (.ref b), some (tabP rows), some (logP es), some (.int (st : Int)), some (.ref f), some (.ref d), some (.int (p : Int)), x7, x8, x9] S') P := by
  unfold bdT2
  try simp only [Pv.PV0, Pv.PV1, Pv.PV2, Pv.PV3, Pv.PV4, Pv.PV5, Pv.PV6, List.getElem?_cons_zero, List.getElem?_cons_succ, List.set_cons_zero, List.set_cons_succ, List.map_cons, List.map_nil, List.length_cons, List.length_nil, List.replicate, List.cons_append, List.nil_append, eq_self, decide_eq_true_eq, Bool.not_eq_true', decide_eq_false_iff_not, Nat.reduceAdd, Nat.reduceSub, Nat.reduceLeDiff, and_true, true_and, if_true, if_false, ite_true, ite_false, Bool.false_eq_true, Bool.true_eq_false, Pv.PVA0, Pv.PVA1]
  refine take_w T.h.bg (by decide) (by decide) fun dd S1 d0 d1 b1 s1 => ?_
  have T1 : TeS b f d S S1 vs cop := ⟨T.h.bag b1 s1, T.a.st s1⟩
  try simp only [Pv.PV0, Pv.PV1, Pv.PV2, Pv.PV3, Pv.PV4, Pv.PV5, Pv.PV6, List.getElem?_cons_zero, List.getElem?_cons_succ, List.set_cons_zero, List.set_cons_succ, List.map_cons, List.map_nil, List.length_cons, List.length_nil, List.replicate, List.cons_append, List.nil_append, eq_self, decide_eq_true_eq, Bool.not_eq_true', decide_eq_false_iff_not, Nat.reduceAdd, Nat.reduceSub, Nat.reduceLeDiff, and_true, true_and, if_true, if_false, ite_true, ite_false, Bool.false_eq_true, Bool.true_eq_false, Pv.PVA0, Pv.PVA1]
  refine ite_w (fun c => ?_) (fun c => k _ _ _ _ _ T1 t)
  refine at_w T1.h.clo (by omega) hr (by omega) he ?_
  have mok : Tc.Mok ks (logM (normM rows) (es.take p)) := at_ok hr he
  have inK : ∀ r ∈ tabAt rows es p, r.1 ∈ ks := fun r hr2 => (Tc.tabOf_mem mok hr2).1
  unfold tabP
  try simp only [Pv.PV0, Pv.PV1, Pv.PV2, Pv.PV3, Pv.PV4, Pv.PV5, Pv.PV6, List.getElem?_cons_zero, List.getElem?_cons_succ, List.set_cons_zero, List.set_cons_succ, List.map_cons, List.map_nil, List.length_cons, List.length_nil, List.replicate, List.cons_append, List.nil_append, eq_self, decide_eq_true_eq, Bool.not_eq_true', decide_eq_false_iff_not, Nat.reduceAdd, Nat.reduceSub, Nat.reduceLeDiff, and_true, true_and, if_true, if_false, ite_true, ite_false, Bool.false_eq_true, Bool.true_eq_false, Pv.PVA0, Pv.PVA1]
  refine forI_w rowP (fun pre env S2 => ∃ vs2 cop2, TeS b f d S S2 vs2 cop2 ∧ Te rows es ks st p vs2 (dueV st p (es.drop p)) cop2 ∧ ∃ y8 y9, env = [some (.ref b), some (.tup (rows.map rowP)), some (logP es), some (.int (st : Int)), some (.ref f), some (.ref d), some (.int (p : Int)), x7, y8, y9]) (fun _ _ _ _ => trivial) ⟨vs, cop, T1, t, _, _, rfl⟩ (fun pre r post env S2 e2 ⟨vs2, cop2, T2, t2, y8, y9, e3⟩ => ?_) fun env S2 ⟨vs2, cop2, T2, t2, y8, y9, e3⟩ => ?_
  · subst e3
    have hr2 : r ∈ tabAt rows es p := by rw [e2]; simp
    have rk := inK r hr2
    have tl : vs2.length ≤ 5000 := by
      have h1 := t2.ln
      have h2 := dueV_len (st := st) (n := 0) he
      have h3 := nd_len t2.nd t2.sub
      have h4 : m * es.length = es.length * m := Nat.mul_comm _ _
      omega
    have cl := nd_len t2.nd t2.sub
    obtain ⟨key, w⟩ := r
    unfold rowP bdTk
    try simp only [Pv.PV0, Pv.PV1, Pv.PV2, Pv.PV3, Pv.PV4, Pv.PV5, Pv.PV6, List.getElem?_cons_zero, List.getElem?_cons_succ, List.set_cons_zero, List.set_cons_succ, List.map_cons, List.map_nil, List.length_cons, List.length_nil, List.replicate, List.cons_append, List.nil_append, eq_self, decide_eq_true_eq, Bool.not_eq_true', decide_eq_false_iff_not, Nat.reduceAdd, Nat.reduceSub, Nat.reduceLeDiff, and_true, true_and, if_true, if_false, ite_true, ite_false, Bool.false_eq_true, Bool.true_eq_false, Pv.PVA0, Pv.PVA1, notin_kbp T2.h.g2]
    by_cases c1 : key ∈ cop2
    · try simp only [Pv.PV0, Pv.PV1, Pv.PV2, Pv.PV3, Pv.PV4, Pv.PV5, Pv.PV6, List.getElem?_cons_zero, List.getElem?_cons_succ, List.set_cons_zero, List.set_cons_succ, List.map_cons, List.map_nil, List.length_cons, List.length_nil, List.replicate, List.cons_append, List.nil_append, eq_self, decide_eq_true_eq, Bool.not_eq_true', decide_eq_false_iff_not, Nat.reduceAdd, Nat.reduceSub, Nat.reduceLeDiff, and_true, true_and, if_true, if_false, ite_true, ite_false, Bool.false_eq_true, Bool.true_eq_false, Pv.PVA0, Pv.PVA1, c1, decide_true, Bool.not_true]
      exact ⟨vs2, cop2, T2, t2, _, _, rfl⟩
    · try simp only [Pv.PV0, Pv.PV1, Pv.PV2, Pv.PV3, Pv.PV4, Pv.PV5, Pv.PV6, List.getElem?_cons_zero, List.getElem?_cons_succ, List.set_cons_zero, List.set_cons_succ, List.map_cons, List.map_nil, List.length_cons, List.length_nil, List.replicate, List.cons_append, List.nil_append, eq_self, decide_eq_true_eq, Bool.not_eq_true', decide_eq_false_iff_not, Nat.reduceAdd, Nat.reduceSub, Nat.reduceLeDiff, and_true, true_and, if_true, if_false, ite_true, ite_false, Bool.false_eq_true, Bool.true_eq_false, Pv.PVA0, Pv.PVA1, c1, decide_false, Bool.not_false]
      refine movek_w (by omega) hl he ?_
      have h3 := T2.h.new (u := .dic (kbP (movedK ((es.take p).drop st)))) lt_kbp
      have a3 := T2.a.push (o := .dic (kbP (movedK ((es.take p).drop st))))
      generalize S2 ++ [Ob.dic (kbP (movedK ((es.take p).drop st)))] = S3 at h3 a3 ⊢
      generalize S2.length = mm at h3 ⊢
      have T3 : TeS b f d S S3 vs2 cop2 := ⟨h3.tail, a3⟩
      try simp only [Pv.PV0, Pv.PV1, Pv.PV2, Pv.PV3, Pv.PV4, Pv.PV5, Pv.PV6, List.getElem?_cons_zero, List.getElem?_cons_succ, List.set_cons_zero, List.set_cons_succ, List.map_cons, List.map_nil, List.length_cons, List.length_nil, List.replicate, List.cons_append, List.nil_append, eq_self, decide_eq_true_eq, Bool.not_eq_true', decide_eq_false_iff_not, Nat.reduceAdd, Nat.reduceSub, Nat.reduceLeDiff, and_true, true_and, if_true, if_false, ite_true, ite_false, Bool.false_eq_true, Bool.true_eq_false, Pv.PVA0, Pv.PVA1, notin_kbp h3.get]
      by_cases c2 : key ∈ movedK ((es.take p).drop st)
      · try simp only [Pv.PV0, Pv.PV1, Pv.PV2, Pv.PV3, Pv.PV4, Pv.PV5, Pv.PV6, List.getElem?_cons_zero, List.getElem?_cons_succ, List.set_cons_zero, List.set_cons_succ, List.map_cons, List.map_nil, List.length_cons, List.length_nil, List.replicate, List.cons_append, List.nil_append, eq_self, decide_eq_true_eq, Bool.not_eq_true', decide_eq_false_iff_not, Nat.reduceAdd, Nat.reduceSub, Nat.reduceLeDiff, and_true, true_and, if_true, if_false, ite_true, ite_false, Bool.false_eq_true, Bool.true_eq_false, Pv.PVA0, Pv.PVA1, c2, decide_true, Bool.not_true]
        exact ⟨vs2, cop2, T3, t2, _, _, rfl⟩
      · try simp only [Pv.PV0, Pv.PV1, Pv.PV2, Pv.PV3, Pv.PV4, Pv.PV5, Pv.PV6, List.getElem?_cons_zero, List.getElem?_cons_succ, List.set_cons_zero, List.set_cons_succ, List.map_cons, List.map_nil, List.length_cons, List.length_nil, List.replicate, List.cons_append, List.nil_append, eq_self, decide_eq_true_eq, Bool.not_eq_true', decide_eq_false_iff_not, Nat.reduceAdd, Nat.reduceSub, Nat.reduceLeDiff, and_true, true_and, if_true, if_false, ite_true, ite_false, Bool.false_eq_true, Bool.true_eq_false, Pv.PVA0, Pv.PVA1, c2, decide_false, Bool.not_false]
        refine take_w T3.h.bg (by decide) (by decide) fun q S4 q0 q1 b4 s4 => ?_
        have T4 : TeS b f d S S4 vs2 cop2 := ⟨T3.h.bag b4 s4, T3.a.st s4⟩
        try simp only [Pv.PV0, Pv.PV1, Pv.PV2, Pv.PV3, Pv.PV4, Pv.PV5, Pv.PV6, List.getElem?_cons_zero, List.getElem?_cons_succ, List.set_cons_zero, List.set_cons_succ, List.map_cons, List.map_nil, List.length_cons, List.length_nil, List.replicate, List.cons_append, List.nil_append, eq_self, decide_eq_true_eq, Bool.not_eq_true', decide_eq_false_iff_not, Nat.reduceAdd, Nat.reduceSub, Nat.reduceLeDiff, and_true, true_and, if_true, if_false, ite_true, ite_false, Bool.false_eq_true, Bool.true_eq_false, Pv.PVA0, Pv.PVA1]
        refine ite_w (fun c3 => ?_) (fun c3 => ⟨vs2, cop2, T4, t2, _, _, rfl⟩)
        try simp only [Pv.PV0, Pv.PV1, Pv.PV2, Pv.PV3, Pv.PV4, Pv.PV5, Pv.PV6, List.getElem?_cons_zero, List.getElem?_cons_succ, List.set_cons_zero, List.set_cons_succ, List.map_cons, List.map_nil, List.length_cons, List.length_nil, List.replicate, List.cons_append, List.nil_append, eq_self, decide_eq_true_eq, Bool.not_eq_true', decide_eq_false_iff_not, Nat.reduceAdd, Nat.reduceSub, Nat.reduceLeDiff, and_true, true_and, if_true, if_false, ite_true, ite_false, Bool.false_eq_true, Bool.true_eq_false, Pv.PVA0, Pv.PVA1, set_dic T4.h.g2, put_kbp, len_kbp]
        refine ⟨by omega, ?_⟩
        have h5 := (T4.h.mv 2).set (u := .dic (kbP (Pv.addK cop2 key))) lt_kbp
        have a5 := T4.a.set (o := .dic (kbP (Pv.addK cop2 key))) hd
        generalize S4.set d (.dic (kbP (Pv.addK cop2 key))) = S5 at h5 a5 ⊢
        have T5 : TeS b f d S S5 vs2 (Pv.addK cop2 key) := ⟨(h5.mv 2).mv 2 |>.mv 0 |> fun z => by exact ((z.mv 1).mv 1), a5⟩
        have g := T5.h.g1
        try simp only [Pv.PV0, Pv.PV1, Pv.PV2, Pv.PV3, Pv.PV4, Pv.PV5, Pv.PV6, List.getElem?_cons_zero, List.getElem?_cons_succ, List.set_cons_zero, List.set_cons_succ, List.map_cons, List.map_nil, List.length_cons, List.length_nil, List.replicate, List.cons_append, List.nil_append, eq_self, decide_eq_true_eq, Bool.not_eq_true', decide_eq_false_iff_not, Nat.reduceAdd, Nat.reduceSub, Nat.reduceLeDiff, and_true, true_and, if_true, if_false, ite_true, ite_false, Bool.false_eq_true, Bool.true_eq_false, Pv.PVA0, Pv.PVA1, lsq_lst g]
        rw [g, o_some]
        unfold apF
        try simp only [Pv.PV0, Pv.PV1, Pv.PV2, Pv.PV3, Pv.PV4, Pv.PV5, Pv.PV6, List.getElem?_cons_zero, List.getElem?_cons_succ, List.set_cons_zero, List.set_cons_succ, List.map_cons, List.map_nil, List.length_cons, List.length_nil, List.replicate, List.cons_append, List.nil_append, eq_self, decide_eq_true_eq, Bool.not_eq_true', decide_eq_false_iff_not, Nat.reduceAdd, Nat.reduceSub, Nat.reduceLeDiff, and_true, true_and, if_true, if_false, ite_true, ite_false, Bool.false_eq_true, Bool.true_eq_false, Pv.PVA0, Pv.PVA1]
        refine ⟨by rw [List.length_map]; omega, ?_⟩
        have ev : vs2.map evP ++ [PV.tup [.int (p : Int), .str "copy", .int key, .int w]] = (vs2 ++ [(⟨(p : Int), "copy", key, some w⟩ : Ev)]).map evP := by rw [List.map_append]; rfl
        rw [ev]
        exact ⟨_, _, T5.app hf, t2.cpy c1 hs hp c2 hr2 rk, _, _, rfl⟩
  · subst e3
    exact k S2 vs2 cop2 _ _ T2 t2

theorem rngI_at {a b k : Int} {pre post : List Int} (e : rngI a b = pre ++ k :: post) : k = a + (pre.length : Int) ∧ k < b := by
  have hm : k ∈ rngI a b := by rw [e]; simp
  have l : pre.length < (rngI a b).length := by rw [e, List.length_append, List.length_cons]; omega
  have g : (rngI a b)[pre.length]? = some k := by
    rw [e, List.getElem?_append_right (Nat.le_refl _), Nat.sub_self]
    rfl
  unfold rngI at g l
  rw [List.length_map, List.length_range] at l
  rw [List.getElem?_map, List.getElem?_range l] at g
  exact ⟨(Option.some.inj g).symm, (rngI_mem.mp hm).2⟩
theorem true_w {b : Nat} {S : Sto} {Q : PV → Sto → Prop} {X : WXE} {rows : List Rw} {es : List Ent} {ks : List Int} {m st : Nat} (hb : Bg b S) (hk : ks.length ≤ 1000) (hr : ∀ r ∈ rows, r.1 ∈ ks ∧ 0 ≤ r.2 ∧ r.2 ≤ 999)
    (hst : st ≤ es.length) (hl : es.length ≤ 1000) (he : ∀ e ∈ es, Ent.In ks m e) (hm : es.length * m ≤ 3000)
    (k : ∀ vs S', firstM rows es st ⟨dueV st 0 es, [], st⟩ 0 vs = none → vs.length ≤ 5000 → Bg b S' → Pv.St b S S' → Q (.fl (vs.map evP)) S') : wE (m__law_true_events [.ref b, tabP rows, logP es, .int (st : Int)] S) Q X := by
  have hlE : ∀ {S : Sto}, lenG S (logP es) = some (.int (es.length : Nat)) := fun {S} => by show some (PV.int ((es.map entP).length : Nat)) = _; rw [List.length_map]
  refine w_defT (m := m__law_true_events) rfl ?_
  rw [bdT_in]
  try simp only [Pv.PV0, Pv.PV1, Pv.PV2, Pv.PV3, Pv.PV4, Pv.PV5, Pv.PV6, List.getElem?_cons_zero, List.getElem?_cons_succ, List.set_cons_zero, List.set_cons_succ, List.map_cons, List.map_nil, List.length_cons, List.length_nil, List.replicate, List.cons_append, List.nil_append, eq_self, decide_eq_true_eq, Bool.not_eq_true', decide_eq_false_iff_not, Nat.reduceAdd, Nat.reduceSub, Nat.reduceLeDiff, and_true, true_and, if_true, if_false, ite_true, ite_false, Bool.false_eq_true, Bool.true_eq_false, Pv.PVA0, Pv.PVA1, hlE]
  have hb0 : Has S [bagP b] := by
    obtain ⟨⟨x, y, e, q⟩, c⟩ := hb
    have h2 : Has S [cl b (.lst [.int x, .int y])] := ⟨[(b, .lst [.int x, .int y])], ⟨fun z hz => by cases List.mem_singleton.mp hz; exact e, by simp, c⟩, _, [], rfl, rfl, rfl⟩
    exact Has.mk (x, y) (Has.close (l1 := [_, _]) (h2.pur q))
  have h1 := hb0.new (u := .lst (([] : List Ev).map evP)) trivial
  have h2 := h1.new (u := .dic (kbP [])) lt_kbp
  rw [len_a1] at h2
  have a2 : Abb b S ((S ++ [Ob.lst (([] : List Ev).map evP)]) ++ [Ob.dic (kbP [])]) := Abb.refl.push.push
  have h3 : Has ((S ++ [Ob.lst (([] : List Ev).map evP)]) ++ [Ob.dic (kbP [])]) [bagP b, cl S.length (.lst (([] : List Ev).map evP)), cl (S.length + 1) (.dic (kbP []))] := (h2.mv 1).mv 2
  have T0 : TeS b S.length (S.length + 1) S ((S ++ [Ob.lst (([] : List Ev).map evP)]) ++ [Ob.dic (kbP [])]) [] [] := ⟨h3, a2⟩
  refine ⟨_, _, rfl, ⟨by omega, by omega, by omega, by omega⟩, ?_⟩
  rw [rngI_map]
  rw [show (Ob.lst ([] : List PV)) = Ob.lst (([] : List Ev).map evP) from rfl, show (Ob.dic ([] : List (Key × PV))) = Ob.dic (kbP []) from rfl]
  generalize (S ++ [Ob.lst (([] : List Ev).map evP)]) ++ [Ob.dic (kbP [])] = S2 at T0 ⊢
  have ff : S.length ≤ S.length := Nat.le_refl _
  have dd : S.length ≤ S.length + 1 := Nat.le_succ _
  generalize S.length + 1 = d at T0 dd ⊢
  have eS : dueV st (st + (0 - 1)) (es.drop (st + (0 - 1))) = dueV st 0 es := by rw [show st + (0 - 1) = st by omega, dueV_skip (q := st) (n := 0) (by omega), Nat.zero_add]
  have t0 : Te rows es ks st st [] (dueV st (st + (0 - 1)) (es.drop (st + (0 - 1)))) [] := by
    refine ⟨⟨(st : Int), ?_, Int.le_refl _⟩, List.nodup_nil, (fun k hk => by cases hk), ?_⟩
    · show some _ = some _
      rw [eS]
    · rw [eS, List.length_nil, List.length_nil, Nat.zero_add, Nat.add_zero]
  refine forI_w PV.int (fun pre env S' => ∃ vs cop, TeS b S.length d S S' vs cop ∧ Te rows es ks st (st + pre.length) vs (dueV st (st + (pre.length - 1)) (es.drop (st + (pre.length - 1)))) cop ∧ ∃ x6 x7 x8 x9, env = [some (.ref b), some (tabP rows), some (logP es), some (.int (st : Int)), some (.ref S.length), some (.ref d), x6, x7, x8, x9]) (fun _ _ _ _ => trivial) ⟨[], [], T0, t0, _, _, _, _, rfl⟩ (fun pre kk post env S' e ⟨vs, cop, T, t, x6, x7, x8, x9, e3⟩ => ?_) fun env S' ⟨vs, cop, T, t, x6, x7, x8, x9, e3⟩ => ?_
  · subst e3
    obtain ⟨ek, lk⟩ := rngI_at e
    obtain ⟨p, ep⟩ : ∃ p : Nat, p = st + pre.length := ⟨_, rfl⟩
    have ekp : kk = (p : Int) := by omega
    subst ekp
    have hp : p ≤ es.length := by omega
    have eq : st + (p - st - 1) = st + (pre.length - 1) := by omega
    rw [← eq, ← ep] at t
    try simp only [Pv.PV0, Pv.PV1, Pv.PV2, Pv.PV3, Pv.PV4, Pv.PV5, Pv.PV6, List.getElem?_cons_zero, List.getElem?_cons_succ, List.set_cons_zero, List.set_cons_succ, List.map_cons, List.map_nil, List.length_cons, List.length_nil, List.replicate, List.cons_append, List.nil_append, eq_self, decide_eq_true_eq, Bool.not_eq_true', decide_eq_false_iff_not, Nat.reduceAdd, Nat.reduceSub, Nat.reduceLeDiff, and_true, true_and, if_true, if_false, ite_true, ite_false, Bool.false_eq_true, Bool.true_eq_false, Pv.PVA0, Pv.PVA1]
    refine te1_w T ff (by omega) hp hl he hm hk t fun S3 vs3 y7 T3 t3 => ?_
    refine te2_w T3 ff dd (by omega) hp hl he hm hk hr t3 fun S4 vs4 cop4 y8 y9 T4 t4 => ?_
    refine ⟨vs4, cop4, T4, ?_, _, _, _, _, rfl⟩
    rw [List.length_append, List.length_singleton, show st + (pre.length + 1 - 1) = p by omega]
    exact t4.up (by omega)
  · subst e3
    try simp only [Pv.PV0, Pv.PV1, Pv.PV2, Pv.PV3, Pv.PV4, Pv.PV5, Pv.PV6, List.getElem?_cons_zero, List.getElem?_cons_succ, List.set_cons_zero, List.set_cons_succ, List.map_cons, List.map_nil, List.length_cons, List.length_nil, List.replicate, List.cons_append, List.nil_append, eq_self, decide_eq_true_eq, Bool.not_eq_true', decide_eq_false_iff_not, Nat.reduceAdd, Nat.reduceSub, Nat.reduceLeDiff, and_true, true_and, if_true, if_false, ite_true, ite_false, Bool.false_eq_true, Bool.true_eq_false, Pv.PVA0, Pv.PVA1]
    have tl : vs.length ≤ 5000 := by
      have h1 := t.ln
      have h2 := dueV_len (st := st) (n := 0) he
      have h3 := nd_len t.nd t.sub
      have h4 : m * es.length = es.length * m := Nat.mul_comm _ _
      omega
    obtain ⟨cl, bg, stt⟩ := T.a.fin hb T.h.bg
    obtain ⟨l, r, _⟩ := t.run
    exact ⟨cl, .inr ⟨_, _, rfl, T.h.g1, Nat.le_refl _, ev_lt _, k vs _ (firstM_ok r) tl bg stt⟩⟩

theorem pop_at {vs : List Ev} {j : Nat} (jl : j < vs.length) (hl : vs.length ≤ 100000) : popAtF (vs.map evP) [PV.int (j : Int)] = some (evP (vs[j]'jl), (vs.eraseIdx j).map evP) := by
  unfold popAtF
  show (if -1000000 ≤ (j : Int) ∧ (j : Int) ≤ 1000000 then _ else none) = _
  rw [if_pos (by omega)]
  have es := (ixN_seq (show ixN (vs.map evP).length (j : Int) = some j by unfold ixN; rw [if_pos (by omega), if_pos (by rw [List.length_map]; omega), Int.toNat_natCast])).1
  rw [es]
  show ((vs.map evP)[j]?).map _ = _
  rw [List.getElem?_map, List.getElem?_eq_getElem jl]
  show some (evP _, (vs.map evP).eraseIdx j) = _
  rw [List.eraseIdx_eq_take_drop_succ, List.eraseIdx_eq_take_drop_succ, List.map_append, List.map_take, List.map_drop]
theorem ins_at {vs : List Ev} {v : Ev} {j : Nat} (jl : j ≤ vs.length) (hl : vs.length ≤ 90000) : insF (vs.map evP) [PV.int (j : Int), evP v] = some (.non, (vs.take j ++ [v] ++ vs.drop j).map evP) := by
  unfold insF
  show (if (vs.map evP).length < 100000 ∧ 0 ≤ (j : Int) ∧ (j : Int) ≤ 1000000 then _ else none) = _
  rw [if_pos (by rw [List.length_map]; omega), Int.toNat_natCast, List.map_append, List.map_append, List.map_take, List.map_drop]
  rfl
theorem has_bag {S : Sto} {b : Nat} (h : Bg b S) : Has S [bagP b] := by
  obtain ⟨⟨x, y, e, q⟩, c⟩ := h
  have h2 : Has S [cl b (.lst [.int x, .int y])] := ⟨[(b, .lst [.int x, .int y])], ⟨fun z hz => by cases List.mem_singleton.mp hz; exact e, by simp, c⟩, _, [], rfl, rfl, rfl⟩
  exact Has.mk (x, y) (Has.close (l1 := [_, _]) (h2.pur q))
theorem other_w {b : Nat} {S : Sto} {Q : PV → Sto → Prop} {X : WXE} {ks : List Int} {vs : List Ev} (hb : Bg b S) (hk : ks.length ≤ 1000) (k0 : 0 < ks.length) (hv : vs.length ≤ 80000)
    (k : ∀ (vs' : List Ev) S', vs'.length ≤ vs.length + 1 → Bg b S' → Pv.St b S S' → Q (.fl (vs'.map evP)) S') : wE (m__law_other_events [.ref b, .fl (vs.map evP), .fl (ks.map .int)] S) Q X := by
  refine w_defT (m := m__law_other_events) rfl ?_
  unfold b__law_other_events
  have okd : (vs.map evP).all (okD 59) = true := okD_map (fun _ => okD_ev9) _
  have l0 : ∀ S, lstG S (.fl (vs.map evP)) = some (vs.map evP) := fun _ => rfl
  try simp only [Pv.PV0, Pv.PV1, Pv.PV2, Pv.PV3, Pv.PV4, Pv.PV5, Pv.PV6, List.getElem?_cons_zero, List.getElem?_cons_succ, List.set_cons_zero, List.set_cons_succ, List.map_cons, List.map_nil, List.length_cons, List.length_nil, List.replicate, List.cons_append, List.nil_append, eq_self, decide_eq_true_eq, Bool.not_eq_true', decide_eq_false_iff_not, Nat.reduceAdd, Nat.reduceSub, Nat.reduceLeDiff, and_true, true_and, if_true, if_false, ite_true, ite_false, Bool.false_eq_true, Bool.true_eq_false, Pv.PVA0, Pv.PVA1, l0]
  have h1 := (has_bag hb).new (u := .lst (vs.map evP)) (ev_lt _)
  have a1 : Abb b S (S ++ [Ob.lst (vs.map evP)]) := Abb.refl.push
  have ff : S.length ≤ S.length := Nat.le_refl _
  have h2 : Has (S ++ [Ob.lst (vs.map evP)]) [bagP b, cl S.length (.lst (vs.map evP))] := h1.mv 1
  generalize S ++ [Ob.lst (vs.map evP)] = S1 at h2 a1 ⊢
  clear h1
  try simp only [Pv.PV0, Pv.PV1, Pv.PV2, Pv.PV3, Pv.PV4, Pv.PV5, Pv.PV6, List.getElem?_cons_zero, List.getElem?_cons_succ, List.set_cons_zero, List.set_cons_succ, List.map_cons, List.map_nil, List.length_cons, List.length_nil, List.replicate, List.cons_append, List.nil_append, eq_self, decide_eq_true_eq, Bool.not_eq_true', decide_eq_false_iff_not, Nat.reduceAdd, Nat.reduceSub, Nat.reduceLeDiff, and_true, true_and, if_true, if_false, ite_true, ite_false, Bool.false_eq_true, Bool.true_eq_false, Pv.PVA0, Pv.PVA1, len_lst h2.g1, List.length_map]
  refine take_w h2.bg (by omega) (by omega) fun d S2 d0 d1 b2 s2 => ?_
  have h3 := h2.bag b2 s2
  have a3 := a1.st s2
  obtain ⟨a, rfl⟩ : ∃ a : Nat, d = (a : Int) := ⟨d.toNat, by omega⟩
  try simp only [Pv.PV0, Pv.PV1, Pv.PV2, Pv.PV3, Pv.PV4, Pv.PV5, Pv.PV6, List.getElem?_cons_zero, List.getElem?_cons_succ, List.set_cons_zero, List.set_cons_succ, List.map_cons, List.map_nil, List.length_cons, List.length_nil, List.replicate, List.cons_append, List.nil_append, eq_self, decide_eq_true_eq, Bool.not_eq_true', decide_eq_false_iff_not, Nat.reduceAdd, Nat.reduceSub, Nat.reduceLeDiff, and_true, true_and, if_true, if_false, ite_true, ite_false, Bool.false_eq_true, Bool.true_eq_false, Pv.PVA0, Pv.PVA1]
  refine take_w h3.bg (by decide) (by decide) fun way S3 w0 w1 b3 s3 => ?_
  have h4 := h3.bag b3 s3
  have a4 := a3.st s3
  try simp only [Pv.PV0, Pv.PV1, Pv.PV2, Pv.PV3, Pv.PV4, Pv.PV5, Pv.PV6, List.getElem?_cons_zero, List.getElem?_cons_succ, List.set_cons_zero, List.set_cons_succ, List.map_cons, List.map_nil, List.length_cons, List.length_nil, List.replicate, List.cons_append, List.nil_append, eq_self, decide_eq_true_eq, Bool.not_eq_true', decide_eq_false_iff_not, Nat.reduceAdd, Nat.reduceSub, Nat.reduceLeDiff, and_true, true_and, if_true, if_false, ite_true, ite_false, Bool.false_eq_true, Bool.true_eq_false, Pv.PVA0, Pv.PVA1]
  refine take_w h4.bg (by decide) (by decide) fun n1 S4 n10 n11 b4 s4 => ?_
  have h5 := h4.bag b4 s4
  have a5 := a4.st s4
  try simp only [Pv.PV0, Pv.PV1, Pv.PV2, Pv.PV3, Pv.PV4, Pv.PV5, Pv.PV6, List.getElem?_cons_zero, List.getElem?_cons_succ, List.set_cons_zero, List.set_cons_succ, List.map_cons, List.map_nil, List.length_cons, List.length_nil, List.replicate, List.cons_append, List.nil_append, eq_self, decide_eq_true_eq, Bool.not_eq_true', decide_eq_false_iff_not, Nat.reduceAdd, Nat.reduceSub, Nat.reduceLeDiff, and_true, true_and, if_true, if_false, ite_true, ite_false, Bool.false_eq_true, Bool.true_eq_false, Pv.PVA0, Pv.PVA1]
  refine take_w h5.bg (by decide) (by decide) fun n2 S5 n20 n21 b5 s5 => ?_
  have h6 := h5.bag b5 s5
  have a6 := a5.st s5
  obtain ⟨wd, ew⟩ : ∃ wd : Str, atI [PV.str "put", .str "drop", .str "copy"] n2 = some (.str wd) := by
    have : n2 = 0 ∨ n2 = 1 ∨ n2 = 2 := by omega
    rcases this with rfl | rfl | rfl <;> exact ⟨_, rfl⟩
  try simp only [Pv.PV0, Pv.PV1, Pv.PV2, Pv.PV3, Pv.PV4, Pv.PV5, Pv.PV6, List.getElem?_cons_zero, List.getElem?_cons_succ, List.set_cons_zero, List.set_cons_succ, List.map_cons, List.map_nil, List.length_cons, List.length_nil, List.replicate, List.cons_append, List.nil_append, eq_self, decide_eq_true_eq, Bool.not_eq_true', decide_eq_false_iff_not, Nat.reduceAdd, Nat.reduceSub, Nat.reduceLeDiff, and_true, true_and, if_true, if_false, ite_true, ite_false, Bool.false_eq_true, Bool.true_eq_false, Pv.PVA0, Pv.PVA1, ew]
  refine of_w h6.bg (by rw [List.length_map]; omega) (by rw [List.length_map]; omega) fun x S6 hx b6 s6 => ?_
  obtain ⟨key, _, rfl⟩ := List.mem_map.mp hx
  have h7 := h6.bag b6 s6
  have a7 := a6.st s6
  try simp only [Pv.PV0, Pv.PV1, Pv.PV2, Pv.PV3, Pv.PV4, Pv.PV5, Pv.PV6, List.getElem?_cons_zero, List.getElem?_cons_succ, List.set_cons_zero, List.set_cons_succ, List.map_cons, List.map_nil, List.length_cons, List.length_nil, List.replicate, List.cons_append, List.nil_append, eq_self, decide_eq_true_eq, Bool.not_eq_true', decide_eq_false_iff_not, Nat.reduceAdd, Nat.reduceSub, Nat.reduceLeDiff, and_true, true_and, if_true, if_false, ite_true, ite_false, Bool.false_eq_true, Bool.true_eq_false, Pv.PVA0, Pv.PVA1]
  refine take_w h7.bg (by decide) (by decide) fun n4 S7 n40 n41 b7 s7 => ?_
  have h8 := h7.bag b7 s7
  have a8 := a7.st s7
  have en : PV.tup [.int n1, .str wd, .int key, .int n4] = evP ⟨n1, wd, key, some n4⟩ := rfl
  clear h2 h3 h4 h5 h6 h7 a1 a3 a4 a5 a6 a7
  -- how it ends
  have fin : ∀ (vs' : List Ev) S', Has S' [bagP b, cl S.length (.lst (vs'.map evP))] → Abb b S S' → vs'.length ≤ vs.length + 1 → Pv.Cl S.length S' ∧ (LtP S.length (.ref S.length) ∧ Q (.ref S.length) (S'.take S.length) ∨ ∃ i ys, PV.ref S.length = .ref i ∧ S'[i]? = some (.lst ys) ∧ S.length ≤ i ∧ LtPs S.length ys ∧ Q (.fl ys) (S'.take S.length)) := fun vs' S' h a hl => by
    obtain ⟨cl, bg, stt⟩ := a.fin hb h.bg
    exact ⟨cl, .inr ⟨_, _, rfl, h.g1, ff, ev_lt _, k vs' _ hl bg stt⟩⟩
  have g := h8.g1
  have upd := fun (us : List Ev) (hl : us.length ≤ vs.length + 1) => fin us (S7.set S.length (.lst (us.map evP))) (((h8.mv 1).set (u := .lst (us.map evP)) (ev_lt us)).mv 1) (a8.set ff) hl
  have ei : insF (vs.map evP) [PV.int (a : Int), .tup [.int n1, .str wd, .int key, .int n4]] = some (.non, (vs.take a ++ [(⟨n1, wd, key, some n4⟩ : Ev)] ++ vs.drop a).map evP) := ins_at (v := ⟨n1, wd, key, some n4⟩) (by omega) (by omega)
  have e0 := eq_ref0 (S := S7) g okd
  cases em : (vs.map evP).isEmpty with
  | true =>
    rw [em] at e0
    try simp only [Pv.PV0, Pv.PV1, Pv.PV2, Pv.PV3, Pv.PV4, Pv.PV5, Pv.PV6, List.getElem?_cons_zero, List.getElem?_cons_succ, List.set_cons_zero, List.set_cons_succ, List.map_cons, List.map_nil, List.length_cons, List.length_nil, List.replicate, List.cons_append, List.nil_append, eq_self, decide_eq_true_eq, Bool.not_eq_true', decide_eq_false_iff_not, Nat.reduceAdd, Nat.reduceSub, Nat.reduceLeDiff, and_true, true_and, if_true, if_false, ite_true, ite_false, Bool.false_eq_true, Bool.true_eq_false, Pv.PVA0, Pv.PVA1, e0]
    try simp only [Pv.PV0, Pv.PV1, Pv.PV2, Pv.PV3, Pv.PV4, Pv.PV5, Pv.PV6, List.getElem?_cons_zero, List.getElem?_cons_succ, List.set_cons_zero, List.set_cons_succ, List.map_cons, List.map_nil, List.length_cons, List.length_nil, List.replicate, List.cons_append, List.nil_append, eq_self, decide_eq_true_eq, Bool.not_eq_true', decide_eq_false_iff_not, Nat.reduceAdd, Nat.reduceSub, Nat.reduceLeDiff, and_true, true_and, if_true, if_false, ite_true, ite_false, Bool.false_eq_true, Bool.true_eq_false, Pv.PVA0, Pv.PVA1, lsq_lst g]
    rw [g]
    try simp only [Pv.PV0, Pv.PV1, Pv.PV2, Pv.PV3, Pv.PV4, Pv.PV5, Pv.PV6, List.getElem?_cons_zero, List.getElem?_cons_succ, List.set_cons_zero, List.set_cons_succ, List.map_cons, List.map_nil, List.length_cons, List.length_nil, List.replicate, List.cons_append, List.nil_append, eq_self, decide_eq_true_eq, Bool.not_eq_true', decide_eq_false_iff_not, Nat.reduceAdd, Nat.reduceSub, Nat.reduceLeDiff, and_true, true_and, if_true, if_false, ite_true, ite_false, Bool.false_eq_true, Bool.true_eq_false, Pv.PVA0, Pv.PVA1, ei]
    exact upd _ (by rw [List.length_append, List.length_append, List.length_singleton, List.length_take, List.length_drop]; omega)
  | false =>
    rw [em] at e0
    try simp only [Pv.PV0, Pv.PV1, Pv.PV2, Pv.PV3, Pv.PV4, Pv.PV5, Pv.PV6, List.getElem?_cons_zero, List.getElem?_cons_succ, List.set_cons_zero, List.set_cons_succ, List.map_cons, List.map_nil, List.length_cons, List.length_nil, List.replicate, List.cons_append, List.nil_append, eq_self, decide_eq_true_eq, Bool.not_eq_true', decide_eq_false_iff_not, Nat.reduceAdd, Nat.reduceSub, Nat.reduceLeDiff, and_true, true_and, if_true, if_false, ite_true, ite_false, Bool.false_eq_true, Bool.true_eq_false, Pv.PVA0, Pv.PVA1, e0]
    refine ite_w (fun c => ?_) (fun c => ?_)
    · try simp only [Pv.PV0, Pv.PV1, Pv.PV2, Pv.PV3, Pv.PV4, Pv.PV5, Pv.PV6, List.getElem?_cons_zero, List.getElem?_cons_succ, List.set_cons_zero, List.set_cons_succ, List.map_cons, List.map_nil, List.length_cons, List.length_nil, List.replicate, List.cons_append, List.nil_append, eq_self, decide_eq_true_eq, Bool.not_eq_true', decide_eq_false_iff_not, Nat.reduceAdd, Nat.reduceSub, Nat.reduceLeDiff, and_true, true_and, if_true, if_false, ite_true, ite_false, Bool.false_eq_true, Bool.true_eq_false, Pv.PVA0, Pv.PVA1, lsq_lst g]
      rw [g]
      try simp only [Pv.PV0, Pv.PV1, Pv.PV2, Pv.PV3, Pv.PV4, Pv.PV5, Pv.PV6, List.getElem?_cons_zero, List.getElem?_cons_succ, List.set_cons_zero, List.set_cons_succ, List.map_cons, List.map_nil, List.length_cons, List.length_nil, List.replicate, List.cons_append, List.nil_append, eq_self, decide_eq_true_eq, Bool.not_eq_true', decide_eq_false_iff_not, Nat.reduceAdd, Nat.reduceSub, Nat.reduceLeDiff, and_true, true_and, if_true, if_false, ite_true, ite_false, Bool.false_eq_true, Bool.true_eq_false, Pv.PVA0, Pv.PVA1, ei]
      exact upd _ (by rw [List.length_append, List.length_append, List.length_singleton, List.length_take, List.length_drop]; omega)
    have pv : 0 < vs.length := by
      rcases vs with _ | ⟨v, vs⟩
      · cases em
      · exact Nat.succ_pos _
    have m0 : ((a : Int) % (vs.length : Nat)) = ((a % vs.length : Nat) : Int) := by omega
    have al : a % vs.length < vs.length := Nat.mod_lt _ pv
    try simp only [Pv.PV0, Pv.PV1, Pv.PV2, Pv.PV3, Pv.PV4, Pv.PV5, Pv.PV6, List.getElem?_cons_zero, List.getElem?_cons_succ, List.set_cons_zero, List.set_cons_succ, List.map_cons, List.map_nil, List.length_cons, List.length_nil, List.replicate, List.cons_append, List.nil_append, eq_self, decide_eq_true_eq, Bool.not_eq_true', decide_eq_false_iff_not, Nat.reduceAdd, Nat.reduceSub, Nat.reduceLeDiff, and_true, true_and, if_true, if_false, ite_true, ite_false, Bool.false_eq_true, Bool.true_eq_false, Pv.PVA0, Pv.PVA1, len_lst g, List.length_map]
    generalize a % vs.length = j at al m0
    rw [m0]
    refine ⟨by omega, ?_⟩
    have ej : ∀ S : Sto, S[S.length]? = none := fun S => List.getElem?_eq_none (Nat.le_refl _)
    have ix : ∀ S' : Sto, S'[S.length]? = some (.lst (vs.map evP)) → ixP S' (.ref S.length) (.int (j : Int)) = some (evP (vs[j]'al)) := fun S' g' => by
      rw [ix_lst g', at_int (by omega) (by rw [List.length_map]; omega), Int.toNat_natCast, List.getElem?_map, List.getElem?_eq_getElem al]
      rfl
    refine ite_w (fun c1 => ?_) (fun c1 => ite_w (fun c2 => ?_) (fun c2 => ite_w (fun c3 => ?_) (fun c3 => ?_)))
    · try simp only [Pv.PV0, Pv.PV1, Pv.PV2, Pv.PV3, Pv.PV4, Pv.PV5, Pv.PV6, List.getElem?_cons_zero, List.getElem?_cons_succ, List.set_cons_zero, List.set_cons_succ, List.map_cons, List.map_nil, List.length_cons, List.length_nil, List.replicate, List.cons_append, List.nil_append, eq_self, decide_eq_true_eq, Bool.not_eq_true', decide_eq_false_iff_not, Nat.reduceAdd, Nat.reduceSub, Nat.reduceLeDiff, and_true, true_and, if_true, if_false, ite_true, ite_false, Bool.false_eq_true, Bool.true_eq_false, Pv.PVA0, Pv.PVA1, lsq_lst g]
      rw [g]
      try simp only [Pv.PV0, Pv.PV1, Pv.PV2, Pv.PV3, Pv.PV4, Pv.PV5, Pv.PV6, List.getElem?_cons_zero, List.getElem?_cons_succ, List.set_cons_zero, List.set_cons_succ, List.map_cons, List.map_nil, List.length_cons, List.length_nil, List.replicate, List.cons_append, List.nil_append, eq_self, decide_eq_true_eq, Bool.not_eq_true', decide_eq_false_iff_not, Nat.reduceAdd, Nat.reduceSub, Nat.reduceLeDiff, and_true, true_and, if_true, if_false, ite_true, ite_false, Bool.false_eq_true, Bool.true_eq_false, Pv.PVA0, Pv.PVA1, pop_at al (by omega)]
      exact upd _ (by rw [List.length_eraseIdx]; split <;> omega)
    · try simp only [Pv.PV0, Pv.PV1, Pv.PV2, Pv.PV3, Pv.PV4, Pv.PV5, Pv.PV6, List.getElem?_cons_zero, List.getElem?_cons_succ, List.set_cons_zero, List.set_cons_succ, List.map_cons, List.map_nil, List.length_cons, List.length_nil, List.replicate, List.cons_append, List.nil_append, eq_self, decide_eq_true_eq, Bool.not_eq_true', decide_eq_false_iff_not, Nat.reduceAdd, Nat.reduceSub, Nat.reduceLeDiff, and_true, true_and, if_true, if_false, ite_true, ite_false, Bool.false_eq_true, Bool.true_eq_false, Pv.PVA0, Pv.PVA1, lsq_lst g, ix _ g]
      rw [g]
      try simp only [Pv.PV0, Pv.PV1, Pv.PV2, Pv.PV3, Pv.PV4, Pv.PV5, Pv.PV6, List.getElem?_cons_zero, List.getElem?_cons_succ, List.set_cons_zero, List.set_cons_succ, List.map_cons, List.map_nil, List.length_cons, List.length_nil, List.replicate, List.cons_append, List.nil_append, eq_self, decide_eq_true_eq, Bool.not_eq_true', decide_eq_false_iff_not, Nat.reduceAdd, Nat.reduceSub, Nat.reduceLeDiff, and_true, true_and, if_true, if_false, ite_true, ite_false, Bool.false_eq_true, Bool.true_eq_false, Pv.PVA0, Pv.PVA1, ins_at (v := vs[j]'al) (Nat.le_of_lt al) (by omega)]
      exact upd _ (by rw [List.length_append, List.length_append, List.length_singleton, List.length_take, List.length_drop]; omega)
    · try simp only [Pv.PV0, Pv.PV1, Pv.PV2, Pv.PV3, Pv.PV4, Pv.PV5, Pv.PV6, List.getElem?_cons_zero, List.getElem?_cons_succ, List.set_cons_zero, List.set_cons_succ, List.map_cons, List.map_nil, List.length_cons, List.length_nil, List.replicate, List.cons_append, List.nil_append, eq_self, decide_eq_true_eq, Bool.not_eq_true', decide_eq_false_iff_not, Nat.reduceAdd, Nat.reduceSub, Nat.reduceLeDiff, and_true, true_and, if_true, if_false, ite_true, ite_false, Bool.false_eq_true, Bool.true_eq_false, Pv.PVA0, Pv.PVA1, lsq_lst g]
      refine take_w h8.bg (by omega) (by omega) fun q S8 q0 q1 b8 s8 => ?_
      have h9 := h8.bag b8 s8
      have a9 := a8.st s8
      have g9 := h9.g1
      obtain ⟨qn, rfl⟩ : ∃ qn : Nat, q = (qn : Int) := ⟨q.toNat, by omega⟩
      try simp only [Pv.PV0, Pv.PV1, Pv.PV2, Pv.PV3, Pv.PV4, Pv.PV5, Pv.PV6, List.getElem?_cons_zero, List.getElem?_cons_succ, List.set_cons_zero, List.set_cons_succ, List.map_cons, List.map_nil, List.length_cons, List.length_nil, List.replicate, List.cons_append, List.nil_append, eq_self, decide_eq_true_eq, Bool.not_eq_true', decide_eq_false_iff_not, Nat.reduceAdd, Nat.reduceSub, Nat.reduceLeDiff, and_true, true_and, if_true, if_false, ite_true, ite_false, Bool.false_eq_true, Bool.true_eq_false, Pv.PVA0, Pv.PVA1, lsq_lst g9]
      rw [g9]
      try simp only [Pv.PV0, Pv.PV1, Pv.PV2, Pv.PV3, Pv.PV4, Pv.PV5, Pv.PV6, List.getElem?_cons_zero, List.getElem?_cons_succ, List.set_cons_zero, List.set_cons_succ, List.map_cons, List.map_nil, List.length_cons, List.length_nil, List.replicate, List.cons_append, List.nil_append, eq_self, decide_eq_true_eq, Bool.not_eq_true', decide_eq_false_iff_not, Nat.reduceAdd, Nat.reduceSub, Nat.reduceLeDiff, and_true, true_and, if_true, if_false, ite_true, ite_false, Bool.false_eq_true, Bool.true_eq_false, Pv.PVA0, Pv.PVA1, pop_at al (by omega)]
      have le : (vs.eraseIdx j).length = vs.length - 1 := by rw [List.length_eraseIdx, if_pos al]
      have h10 := (h9.mv 1).set (u := .lst ((vs.eraseIdx j).map evP)) (ev_lt _)
      have a10 := a9.set (o := .lst ((vs.eraseIdx j).map evP)) ff
      generalize S8.set S.length (.lst ((vs.eraseIdx j).map evP)) = S9 at h10 a10 ⊢
      rw [h10.get]
      try simp only [Pv.PV0, Pv.PV1, Pv.PV2, Pv.PV3, Pv.PV4, Pv.PV5, Pv.PV6, List.getElem?_cons_zero, List.getElem?_cons_succ, List.set_cons_zero, List.set_cons_succ, List.map_cons, List.map_nil, List.length_cons, List.length_nil, List.replicate, List.cons_append, List.nil_append, eq_self, decide_eq_true_eq, Bool.not_eq_true', decide_eq_false_iff_not, Nat.reduceAdd, Nat.reduceSub, Nat.reduceLeDiff, and_true, true_and, if_true, if_false, ite_true, ite_false, Bool.false_eq_true, Bool.true_eq_false, Pv.PVA0, Pv.PVA1, ins_at (vs := vs.eraseIdx j) (v := vs[j]'al) (j := qn) (by omega) (by omega)]
      exact fin _ _ ((h10.set (u := .lst (((vs.eraseIdx j).take qn ++ [vs[j]'al] ++ (vs.eraseIdx j).drop qn).map evP)) (ev_lt _)).mv 1) (a10.set ff) (by rw [List.length_append, List.length_append, List.length_singleton, List.length_take, List.length_drop]; omega)
    · obtain ⟨v, ev⟩ : ∃ v, v = vs[j]'al := ⟨_, rfl⟩
      have el : ∀ S, lstG S (evP v) = some [.int v.pl, .str v.wd, .int v.key, optI v.w] := fun _ => rfl
      try simp only [Pv.PV0, Pv.PV1, Pv.PV2, Pv.PV3, Pv.PV4, Pv.PV5, Pv.PV6, List.getElem?_cons_zero, List.getElem?_cons_succ, List.set_cons_zero, List.set_cons_succ, List.map_cons, List.map_nil, List.length_cons, List.length_nil, List.replicate, List.cons_append, List.nil_append, eq_self, decide_eq_true_eq, Bool.not_eq_true', decide_eq_false_iff_not, Nat.reduceAdd, Nat.reduceSub, Nat.reduceLeDiff, and_true, true_and, if_true, if_false, ite_true, ite_false, Bool.false_eq_true, Bool.true_eq_false, Pv.PVA0, Pv.PVA1, ix _ g, ← ev, el]
      have h9 := h8.new (u := .lst [.int v.pl, .str v.wd, .int v.key, optI v.w]) ⟨trivial, trivial, trivial, by cases v.w <;> trivial, trivial⟩
      have a9 := a8.push (o := .lst [.int v.pl, .str v.wd, .int v.key, optI v.w])
      generalize S7 ++ [Ob.lst [.int v.pl, .str v.wd, .int v.key, optI v.w]] = S8 at h9 a9 ⊢
      have e8 : S.length ≤ S7.length := a8.le
      generalize S7.length = ee at h9 e8 ⊢
      refine take_w (h9.mv 1).bg (by decide) (by decide) fun q S9 q0 q1 b9 s9 => ?_
      have h10 := ((h9.mv 1).bag b9 s9).mv 1
      have a10 := a9.st s9
      have setf : ∀ (v' : Ev) (us : List PV), us = [.int v'.pl, .str v'.wd, .int v'.key, optI v'.w] → wO (seqS (S9.set ee (.lst us)) (.ref ee)) fun b => wO (setS (S9.set ee (.lst us)) (.ref S.length) (.int (j : Int)) (.tup b)) fun S_3 => Pv.Cl S.length S_3 ∧ (LtP S.length (.ref S.length) ∧ Q (.ref S.length) (S_3.take S.length) ∨ ∃ i ys, PV.ref S.length = .ref i ∧ S_3[i]? = some (.lst ys) ∧ S.length ≤ i ∧ LtPs S.length ys ∧ Q (.fl ys) (S_3.take S.length)) := fun v' us hu => by
        subst hu
        have h11 := h10.set (u := .lst [.int v'.pl, .str v'.wd, .int v'.key, optI v'.w]) ⟨trivial, trivial, trivial, by cases v'.w <;> trivial, trivial⟩
        have a11 := a10.set (o := .lst [.int v'.pl, .str v'.wd, .int v'.key, optI v'.w]) e8
        generalize S9.set ee (.lst [.int v'.pl, .str v'.wd, .int v'.key, optI v'.w]) = S10 at h11 a11 ⊢
        have g11 := h11.g2
        rw [Pv.seq_lst h11.get, o_some]
        have es : setS S10 (.ref S.length) (.int (j : Int)) (.tup [.int v'.pl, .str v'.wd, .int v'.key, optI v'.w]) = some (S10.set S.length (.lst ((vs.set j v').map evP))) := by
          rw [set_lst g11]
          have : ixN (vs.map evP).length (j : Int) = some j := by unfold ixN; rw [if_pos (by omega), if_pos (by rw [List.length_map]; omega), Int.toNat_natCast]
          rw [this]
          show some (S10.set S.length (.lst ((vs.map evP).set j (evP v')))) = _
          rw [List.map_set]
        rw [es, o_some]
        have h12 := (h11.mv 2).set (u := .lst ((vs.set j v').map evP)) (ev_lt _)
        exact fin _ _ (((h12.mv 1).tail).mv 1) (a11.set ff) (by rw [List.length_set]; omega)
      have ge := h10.get
      have : q = 0 ∨ q = 1 ∨ q = 2 ∨ q = 3 := by omega
      rcases this with rfl | rfl | rfl | rfl
      · try simp only [Pv.PV0, Pv.PV1, Pv.PV2, Pv.PV3, Pv.PV4, Pv.PV5, Pv.PV6, List.getElem?_cons_zero, List.getElem?_cons_succ, List.set_cons_zero, List.set_cons_succ, List.map_cons, List.map_nil, List.length_cons, List.length_nil, List.replicate, List.cons_append, List.nil_append, eq_self, decide_eq_true_eq, Bool.not_eq_true', decide_eq_false_iff_not, Nat.reduceAdd, Nat.reduceSub, Nat.reduceLeDiff, and_true, true_and, if_true, if_false, ite_true, ite_false, Bool.false_eq_true, Bool.true_eq_false, Pv.PVA0, Pv.PVA1, set_lst ge]
        exact setf ⟨n1, v.wd, v.key, v.w⟩ _ rfl
      · try simp only [Pv.PV0, Pv.PV1, Pv.PV2, Pv.PV3, Pv.PV4, Pv.PV5, Pv.PV6, List.getElem?_cons_zero, List.getElem?_cons_succ, List.set_cons_zero, List.set_cons_succ, List.map_cons, List.map_nil, List.length_cons, List.length_nil, List.replicate, List.cons_append, List.nil_append, eq_self, decide_eq_true_eq, Bool.not_eq_true', decide_eq_false_iff_not, Nat.reduceAdd, Nat.reduceSub, Nat.reduceLeDiff, and_true, true_and, if_true, if_false, ite_true, ite_false, Bool.false_eq_true, Bool.true_eq_false, Pv.PVA0, Pv.PVA1, set_lst ge]
        exact setf ⟨v.pl, wd, v.key, v.w⟩ _ rfl
      · try simp only [Pv.PV0, Pv.PV1, Pv.PV2, Pv.PV3, Pv.PV4, Pv.PV5, Pv.PV6, List.getElem?_cons_zero, List.getElem?_cons_succ, List.set_cons_zero, List.set_cons_succ, List.map_cons, List.map_nil, List.length_cons, List.length_nil, List.replicate, List.cons_append, List.nil_append, eq_self, decide_eq_true_eq, Bool.not_eq_true', decide_eq_false_iff_not, Nat.reduceAdd, Nat.reduceSub, Nat.reduceLeDiff, and_true, true_and, if_true, if_false, ite_true, ite_false, Bool.false_eq_true, Bool.true_eq_false, Pv.PVA0, Pv.PVA1, set_lst ge]
        exact setf ⟨v.pl, v.wd, key, v.w⟩ _ rfl
      · try simp only [Pv.PV0, Pv.PV1, Pv.PV2, Pv.PV3, Pv.PV4, Pv.PV5, Pv.PV6, List.getElem?_cons_zero, List.getElem?_cons_succ, List.set_cons_zero, List.set_cons_succ, List.map_cons, List.map_nil, List.length_cons, List.length_nil, List.replicate, List.cons_append, List.nil_append, eq_self, decide_eq_true_eq, Bool.not_eq_true', decide_eq_false_iff_not, Nat.reduceAdd, Nat.reduceSub, Nat.reduceLeDiff, and_true, true_and, if_true, if_false, ite_true, ite_false, Bool.false_eq_true, Bool.true_eq_false, Pv.PVA0, Pv.PVA1, set_lst ge]
        exact setf ⟨v.pl, v.wd, v.key, some n4⟩ _ rfl

noncomputable def st29_1 : MS := (sSet 2 (eCall 2 m__law_bag (aCons (eVar 0) (aCons (eVar 1) aNil))))
noncomputable def st29_2 : MS := (sSet 3 (eCall 1 m__law_keys (aCons (eVar 2) aNil)))
noncomputable def st29_3 : MS := (sSet 4 (eCall 2 m__law_table (aCons (eVar 2) (aCons (eVar 3) aNil))))
noncomputable def st29_4 : MS := (sSet 5 (eCall 3 m__law_log (aCons (eVar 2) (aCons (eVar 3) (aCons (eC (.int 15)) aNil)))))
noncomputable def st29_5 : MS := (sSet 6 (eOp mulP (eCall 2 m__law_take (aCons (eVar 2) (aCons (eOp addP (eCB (oneF lenG) (aCons (eVar 5) aNil)) (eC (.int 1))) aNil))) (eCall 2 m__law_take (aCons (eVar 2) (aCons (eC (.int 2)) aNil)))))
noncomputable def st29_6 : MS := (sSet 7 (eCall 4 m__law_true_events (aCons (eVar 2) (aCons (eVar 4) (aCons (eVar 5) (aCons (eVar 6) aNil))))))
noncomputable def st29_7 : MS := (sSet 9 (eFl (nCB (oneF lstG) (aCons (eVar 7) aNil))))
noncomputable def st29_8 : MS := (sSet 10 (eCallN 3 1 m_first_wrong (aCons (eVar 4) (aCons (eVar 5) (aCons (eVar 9) aNil))) (aCons (eVar 6) aNil)))
noncomputable def st29_9 : MS := (sIf (tAndP (tOf (eOp eqP (eVar 6) (eC (.int 0)))) (tOf (eOp neP (eVar 10) (eCallDf 3 m_first_wrong [.int 0] (aCons (eVar 4) (aCons (eVar 5) (aCons (eVar 9) aNil))))))) (sRet (eC (.bl false))) sNil)
noncomputable def st29_10 : MS := (sSet 11 (eCall 4 m__law_wrong_at (aCons (eVar 4) (aCons (eVar 5) (aCons (eVar 7) (aCons (eVar 6) aNil))))))
noncomputable def st29_11 : MS := (sIf (tOrP (tOf (eOp neP (eVar 10) (eVar 11))) (tOf (eOp neP (eVar 9) (eVar 7)))) (sRet (eC (.bl false))) sNil)
noncomputable def st29_12 : MS := (sIf (tAndP (tOf (eOp eqP (eVar 8) (eC (.int 0)))) (tOf (eOp isntP (eVar 10) (eC .non)))) (sRet (eC (.bl false))) sNil)
noncomputable def st29_13 : MS := (sSet 7 (eCall 3 m__law_other_events (aCons (eVar 2) (aCons (eVar 7) (aCons (eVar 3) aNil)))))
noncomputable def bd29_14 : MS := (sSeq st29_7 (sSeq st29_8 (sSeq st29_9 (sSeq st29_10 (sSeq st29_11 (sSeq st29_12 st29_13))))))
noncomputable def st29_15 : MS := (sFor (iRng1 (aCons (eC (.int 5)) aNil)) (gNm 8) bd29_14)
noncomputable def bd29 : MS := (sSeq st29_1 (sSeq st29_2 (sSeq st29_3 (sSeq st29_4 (sSeq st29_5 (sSeq st29_6 st29_15))))))
theorem b_law29 : b_law = (sSeq (sFor (iRng1 (aCons (eOp addP (eC (.int 1)) (eCB (twoF min2) (aCons (eCB (oneF lenG) (aCons (eVar 0) aNil)) (aCons (eC (.int 10)) aNil)))) aNil)) (gNm 1) bd29) (sRet (eC (.bl true)))) := rfl

theorem okD_res {r : Option Nat} : okD 60 (resP r) = true := by cases r <;> rfl
theorem turn29 {S : Sto} {P : Po} {b st t : Nat} {rows : List Rw} {es : List Ent} {ks : List Int} {vs : List Ev} {x0 x1 x9 x10 x11 : Option PV} (hb : Bg b S) (hk : ks.length ≤ 1000) (k0 : 0 < ks.length) (hr : ∀ r ∈ rows, r.1 ∈ ks ∧ 0 ≤ r.2 ∧ r.2 ≤ 999)
    (hst : st ≤ es.length) (hl : es.length ≤ 15) (he : ∀ e ∈ es, Ent.In ks 3 e) (hv : vs.length ≤ 6000) (h0 : t = 0 → firstM rows es st ⟨dueV st 0 es, [], st⟩ 0 vs = none)
    (k : ∀ (vs' : List Ev) S' y9 y10 y11, vs'.length ≤ vs.length + 1 → Bg b S' → P.N [x0, x1, some (.ref b), some (.fl (ks.map .int)), some (tabP rows), some (logP es), some (.int (st : Int)), some (.fl (vs'.map evP)), some (.int (t : Int)), y9, y10, y11] S') :
    wS (bd29_14 [x0, x1, some (.ref b), some (.fl (ks.map .int)), some (tabP rows), some (logP es), some (.int (st : Int)), some (.fl (vs.map evP)), some (.int (t : Int)), x9, x10, x11] S) P := by
  have l0 : ∀ S, lstG S (.fl (vs.map evP)) = some (vs.map evP) := fun _ => rfl
  obtain ⟨r, er⟩ : ∃ r, r = firstM rows es st ⟨dueV st 0 es, [], st⟩ 0 vs := ⟨_, rfl⟩
  unfold bd29_14 st29_7 st29_8
  try simp only [Pv.PV0, Pv.PV1, Pv.PV2, Pv.PV3, Pv.PV4, Pv.PV5, Pv.PV6, List.getElem?_cons_zero, List.getElem?_cons_succ, List.set_cons_zero, List.set_cons_succ, List.map_cons, List.map_nil, List.length_cons, List.length_nil, List.replicate, List.cons_append, List.nil_append, eq_self, decide_eq_true_eq, Bool.not_eq_true', decide_eq_false_iff_not, Nat.reduceAdd, Nat.reduceSub, Nat.reduceLeDiff, and_true, true_and, if_true, if_false, ite_true, ite_false, Bool.false_eq_true, Bool.true_eq_false, Pv.PVA0, Pv.PVA1, l0]
  refine first_w hb.2 (by omega) hr hst (by omega) he (by omega) (by decide) (by omega) ?_
  rw [← er]
  try simp only [Pv.PV0, Pv.PV1, Pv.PV2, Pv.PV3, Pv.PV4, Pv.PV5, Pv.PV6, List.getElem?_cons_zero, List.getElem?_cons_succ, List.set_cons_zero, List.set_cons_succ, List.map_cons, List.map_nil, List.length_cons, List.length_nil, List.replicate, List.cons_append, List.nil_append, eq_self, decide_eq_true_eq, Bool.not_eq_true', decide_eq_false_iff_not, Nat.reduceAdd, Nat.reduceSub, Nat.reduceLeDiff, and_true, true_and, if_true, if_false, ite_true, ite_false, Bool.false_eq_true, Bool.true_eq_false, Pv.PVA0, Pv.PVA1]
  refine mid_w (fun env S' => S' = S ∧ env = [x0, x1, some (.ref b), some (.fl (ks.map .int)), some (tabP rows), some (logP es), some (.int (st : Int)), some (.fl (vs.map evP)), some (.int (t : Int)), some (.fl (vs.map evP)), some (resP r), x11]) ?_ fun env S1 ⟨e1, e2⟩ => ?_
  · unfold st29_9
    try simp only [Pv.PV0, Pv.PV1, Pv.PV2, Pv.PV3, Pv.PV4, Pv.PV5, Pv.PV6, List.getElem?_cons_zero, List.getElem?_cons_succ, List.set_cons_zero, List.set_cons_succ, List.map_cons, List.map_nil, List.length_cons, List.length_nil, List.replicate, List.cons_append, List.nil_append, eq_self, decide_eq_true_eq, Bool.not_eq_true', decide_eq_false_iff_not, Nat.reduceAdd, Nat.reduceSub, Nat.reduceLeDiff, and_true, true_and, if_true, if_false, ite_true, ite_false, Bool.false_eq_true, Bool.true_eq_false, Pv.PVA0, Pv.PVA1]
    refine ite_w (fun c => ?_) (fun c => by first | trivial | exact ⟨rfl, rfl⟩)
    have c0 : st = 0 := by omega
    subst c0
    refine first_w (st := 0) hb.2 (by omega) hr hst (by omega) he (by omega) (by decide) (by omega) ?_
    rw [← er]
    try simp only [Pv.PV0, Pv.PV1, Pv.PV2, Pv.PV3, Pv.PV4, Pv.PV5, Pv.PV6, List.getElem?_cons_zero, List.getElem?_cons_succ, List.set_cons_zero, List.set_cons_succ, List.map_cons, List.map_nil, List.length_cons, List.length_nil, List.replicate, List.cons_append, List.nil_append, eq_self, decide_eq_true_eq, Bool.not_eq_true', decide_eq_false_iff_not, Nat.reduceAdd, Nat.reduceSub, Nat.reduceLeDiff, and_true, true_and, if_true, if_false, ite_true, ite_false, Bool.false_eq_true, Bool.true_eq_false, Pv.PVA0, Pv.PVA1, ne_refl (S := S) (okD_res (r := r)), tru_bl]
    try exact ⟨rfl, rfl⟩
  obtain ⟨e1, e2⟩ := (⟨e1, e2⟩ : S1 = S ∧ _)
  subst e1 e2
  unfold st29_10 st29_11
  try simp only [Pv.PV0, Pv.PV1, Pv.PV2, Pv.PV3, Pv.PV4, Pv.PV5, Pv.PV6, List.getElem?_cons_zero, List.getElem?_cons_succ, List.set_cons_zero, List.set_cons_succ, List.map_cons, List.map_nil, List.length_cons, List.length_nil, List.replicate, List.cons_append, List.nil_append, eq_self, decide_eq_true_eq, Bool.not_eq_true', decide_eq_false_iff_not, Nat.reduceAdd, Nat.reduceSub, Nat.reduceLeDiff, and_true, true_and, if_true, if_false, ite_true, ite_false, Bool.false_eq_true, Bool.true_eq_false, Pv.PVA0, Pv.PVA1]
  refine wrong_w hb.2 (by omega) hr hst (by omega) he (by decide) (by omega) ?_
  rw [← er]
  try simp only [Pv.PV0, Pv.PV1, Pv.PV2, Pv.PV3, Pv.PV4, Pv.PV5, Pv.PV6, List.getElem?_cons_zero, List.getElem?_cons_succ, List.set_cons_zero, List.set_cons_succ, List.map_cons, List.map_nil, List.length_cons, List.length_nil, List.replicate, List.cons_append, List.nil_append, eq_self, decide_eq_true_eq, Bool.not_eq_true', decide_eq_false_iff_not, Nat.reduceAdd, Nat.reduceSub, Nat.reduceLeDiff, and_true, true_and, if_true, if_false, ite_true, ite_false, Bool.false_eq_true, Bool.true_eq_false, Pv.PVA0, Pv.PVA1, ne_refl (S := S1) (okD_res (r := r)), ne_evs, tru_bl]
  refine mid_w (fun env S' => S' = S1 ∧ env = [x0, x1, some (.ref b), some (.fl (ks.map .int)), some (tabP rows), some (logP es), some (.int (st : Int)), some (.fl (vs.map evP)), some (.int (t : Int)), some (.fl (vs.map evP)), some (resP r), some (resP r)]) ?_ fun env S2 ⟨e1, e2⟩ => ?_
  · unfold st29_12
    by_cases c : t = 0
    · have er : r = none := by rw [er]; exact h0 c
      subst er
      have ez : resP none = .non := rfl
      try simp only [Pv.PV0, Pv.PV1, Pv.PV2, Pv.PV3, Pv.PV4, Pv.PV5, Pv.PV6, List.getElem?_cons_zero, List.getElem?_cons_succ, List.set_cons_zero, List.set_cons_succ, List.map_cons, List.map_nil, List.length_cons, List.length_nil, List.replicate, List.cons_append, List.nil_append, eq_self, decide_eq_true_eq, Bool.not_eq_true', decide_eq_false_iff_not, Nat.reduceAdd, Nat.reduceSub, Nat.reduceLeDiff, and_true, true_and, if_true, if_false, ite_true, ite_false, Bool.false_eq_true, Bool.true_eq_false, Pv.PVA0, Pv.PVA1, ez]
      by_cases c2 : (t : Int) = 0
      · try simp only [Pv.PV0, Pv.PV1, Pv.PV2, Pv.PV3, Pv.PV4, Pv.PV5, Pv.PV6, List.getElem?_cons_zero, List.getElem?_cons_succ, List.set_cons_zero, List.set_cons_succ, List.map_cons, List.map_nil, List.length_cons, List.length_nil, List.replicate, List.cons_append, List.nil_append, eq_self, decide_eq_true_eq, Bool.not_eq_true', decide_eq_false_iff_not, Nat.reduceAdd, Nat.reduceSub, Nat.reduceLeDiff, and_true, true_and, if_true, if_false, ite_true, ite_false, Bool.false_eq_true, Bool.true_eq_false, Pv.PVA0, Pv.PVA1, c2, decide_true]
        try exact ⟨rfl, rfl⟩
      · exact absurd (by omega) c2
    · have c2 : ((t : Int) = 0) = False := eq_false (by omega)
      try simp only [Pv.PV0, Pv.PV1, Pv.PV2, Pv.PV3, Pv.PV4, Pv.PV5, Pv.PV6, List.getElem?_cons_zero, List.getElem?_cons_succ, List.set_cons_zero, List.set_cons_succ, List.map_cons, List.map_nil, List.length_cons, List.length_nil, List.replicate, List.cons_append, List.nil_append, eq_self, decide_eq_true_eq, Bool.not_eq_true', decide_eq_false_iff_not, Nat.reduceAdd, Nat.reduceSub, Nat.reduceLeDiff, and_true, true_and, if_true, if_false, ite_true, ite_false, Bool.false_eq_true, Bool.true_eq_false, Pv.PVA0, Pv.PVA1, c2, decide_false]
      try exact ⟨rfl, rfl⟩
  subst e1 e2
  unfold st29_13
  try simp only [Pv.PV0, Pv.PV1, Pv.PV2, Pv.PV3, Pv.PV4, Pv.PV5, Pv.PV6, List.getElem?_cons_zero, List.getElem?_cons_succ, List.set_cons_zero, List.set_cons_succ, List.map_cons, List.map_nil, List.length_cons, List.length_nil, List.replicate, List.cons_append, List.nil_append, eq_self, decide_eq_true_eq, Bool.not_eq_true', decide_eq_false_iff_not, Nat.reduceAdd, Nat.reduceSub, Nat.reduceLeDiff, and_true, true_and, if_true, if_false, ite_true, ite_false, Bool.false_eq_true, Bool.true_eq_false, Pv.PVA0, Pv.PVA1]
  refine other_w hb hk k0 (by omega) fun vs' S' hl' hb' s' => ?_
  try simp only [Pv.PV0, Pv.PV1, Pv.PV2, Pv.PV3, Pv.PV4, Pv.PV5, Pv.PV6, List.getElem?_cons_zero, List.getElem?_cons_succ, List.set_cons_zero, List.set_cons_succ, List.map_cons, List.map_nil, List.length_cons, List.length_nil, List.replicate, List.cons_append, List.nil_append, eq_self, decide_eq_true_eq, Bool.not_eq_true', decide_eq_false_iff_not, Nat.reduceAdd, Nat.reduceSub, Nat.reduceLeDiff, and_true, true_and, if_true, if_false, ite_true, ite_false, Bool.false_eq_true, Bool.true_eq_false, Pv.PVA0, Pv.PVA1]
  exact k vs' S' _ _ _ hl' hb'
theorem law_w (ns : List Int) (hns : ns.length ≤ 63) : wE (runB 12 b_law [.ro (ns.map .int)] []) (fun v _ => v = .bl true) never := by
  rw [w_runBE]
  rw [b_law29]
  try simp only [Pv.PV0, Pv.PV1, Pv.PV2, Pv.PV3, Pv.PV4, Pv.PV5, Pv.PV6, List.getElem?_cons_zero, List.getElem?_cons_succ, List.set_cons_zero, List.set_cons_succ, List.map_cons, List.map_nil, List.length_cons, List.length_nil, List.replicate, List.cons_append, List.nil_append, eq_self, decide_eq_true_eq, Bool.not_eq_true', decide_eq_false_iff_not, Nat.reduceAdd, Nat.reduceSub, Nat.reduceLeDiff, and_true, true_and, if_true, if_false, ite_true, ite_false, Bool.false_eq_true, Bool.true_eq_false, Pv.PVA0, Pv.PVA1, List.length_map, Pv.min_int]
  refine ⟨_, rfl, by split <;> omega, by split <;> omega, ?_⟩
  obtain ⟨N, hN, hN2⟩ : ∃ N : Nat, (1 + (if (10 : Int) < (ns.length : Nat) then 10 else ((ns.length : Nat) : Int))) = (N : Int) ∧ N ≤ 11 := ⟨(1 + (if (10 : Int) < (ns.length : Nat) then 10 else ((ns.length : Nat) : Int))).toNat, by split <;> omega, by split <;> omega⟩
  rw [hN, Int.toNat_natCast, rng0]
  refine forI_w iP (fun pre env S' => Clo S' ∧ ∃ x1 x2 x3 x4 x5 x6 x7 x8 x9 x10 x11, env = [some (.ro (ns.map .int)), x1, x2, x3, x4, x5, x6, x7, x8, x9, x10, x11]) (fun _ _ _ _ => trivial) ⟨fun o ho => (by cases ho), _, _, _, _, _, _, _, _, _, _, _, rfl⟩ (fun pre k post env S0 e ⟨clo, x1, x2, x3, x4, x5, x6, x7, x8, x9, x10, x11, e1⟩ => ?_) fun env S_ _ => ?_
  · subst e1
    have hk : k < 100000 := by
      have := List.mem_range.mp (show k ∈ List.range N by rw [e]; simp)
      omega
    unfold bd29 iP st29_1 st29_2 st29_3 st29_4
    try simp only [Pv.PV0, Pv.PV1, Pv.PV2, Pv.PV3, Pv.PV4, Pv.PV5, Pv.PV6, List.getElem?_cons_zero, List.getElem?_cons_succ, List.set_cons_zero, List.set_cons_succ, List.map_cons, List.map_nil, List.length_cons, List.length_nil, List.replicate, List.cons_append, List.nil_append, eq_self, decide_eq_true_eq, Bool.not_eq_true', decide_eq_false_iff_not, Nat.reduceAdd, Nat.reduceSub, Nat.reduceLeDiff, and_true, true_and, if_true, if_false, ite_true, ite_false, Bool.false_eq_true, Bool.true_eq_false, Pv.PVA0, Pv.PVA1]
    refine bag_w (by omega) fun b0 b1 b2 b3 b4 => ?_
    have bg := Bg.new clo b2 b3 b4
    generalize S0 ++ [Ob.lst [.int b0, .int b1]] = S1 at bg ⊢
    generalize S0.length = b at bg ⊢
    try simp only [Pv.PV0, Pv.PV1, Pv.PV2, Pv.PV3, Pv.PV4, Pv.PV5, Pv.PV6, List.getElem?_cons_zero, List.getElem?_cons_succ, List.set_cons_zero, List.set_cons_succ, List.map_cons, List.map_nil, List.length_cons, List.length_nil, List.replicate, List.cons_append, List.nil_append, eq_self, decide_eq_true_eq, Bool.not_eq_true', decide_eq_false_iff_not, Nat.reduceAdd, Nat.reduceSub, Nat.reduceLeDiff, and_true, true_and, if_true, if_false, ite_true, ite_false, Bool.false_eq_true, Bool.true_eq_false, Pv.PVA0, Pv.PVA1]
    refine keys_w bg fun ks S2 hk2 bg2 s2 => ?_
    obtain ⟨kup, kin, kl, k0⟩ := hk2
    try simp only [Pv.PV0, Pv.PV1, Pv.PV2, Pv.PV3, Pv.PV4, Pv.PV5, Pv.PV6, List.getElem?_cons_zero, List.getElem?_cons_succ, List.set_cons_zero, List.set_cons_succ, List.map_cons, List.map_nil, List.length_cons, List.length_nil, List.replicate, List.cons_append, List.nil_append, eq_self, decide_eq_true_eq, Bool.not_eq_true', decide_eq_false_iff_not, Nat.reduceAdd, Nat.reduceSub, Nat.reduceLeDiff, and_true, true_and, if_true, if_false, ite_true, ite_false, Bool.false_eq_true, Bool.true_eq_false, Pv.PVA0, Pv.PVA1]
    refine table_w bg2 (by omega) fun rows S3 hr bg3 s3 => ?_
    have hri : ∀ r ∈ rows, r.1 ∈ ks ∧ 0 ≤ r.2 ∧ r.2 ≤ 999 := fun r h => ⟨hr.1.subset (List.mem_map_of_mem h), hr.2 r h⟩
    try simp only [Pv.PV0, Pv.PV1, Pv.PV2, Pv.PV3, Pv.PV4, Pv.PV5, Pv.PV6, List.getElem?_cons_zero, List.getElem?_cons_succ, List.set_cons_zero, List.set_cons_succ, List.map_cons, List.map_nil, List.length_cons, List.length_nil, List.replicate, List.cons_append, List.nil_append, eq_self, decide_eq_true_eq, Bool.not_eq_true', decide_eq_false_iff_not, Nat.reduceAdd, Nat.reduceSub, Nat.reduceLeDiff, and_true, true_and, if_true, if_false, ite_true, ite_false, Bool.false_eq_true, Bool.true_eq_false, Pv.PVA0, Pv.PVA1]
    refine log_w bg3 k0 (by omega) (by decide) (by decide) fun es S4 el he bg4 s4 => ?_
    have hlE : ∀ {S : Sto}, lenG S (logP es) = some (.int (es.length : Nat)) := fun {S} => by show some (PV.int ((es.map entP).length : Nat)) = _; rw [List.length_map]
    unfold st29_5
    try simp only [Pv.PV0, Pv.PV1, Pv.PV2, Pv.PV3, Pv.PV4, Pv.PV5, Pv.PV6, List.getElem?_cons_zero, List.getElem?_cons_succ, List.set_cons_zero, List.set_cons_succ, List.map_cons, List.map_nil, List.length_cons, List.length_nil, List.replicate, List.cons_append, List.nil_append, eq_self, decide_eq_true_eq, Bool.not_eq_true', decide_eq_false_iff_not, Nat.reduceAdd, Nat.reduceSub, Nat.reduceLeDiff, and_true, true_and, if_true, if_false, ite_true, ite_false, Bool.false_eq_true, Bool.true_eq_false, Pv.PVA0, Pv.PVA1, hlE]
    refine take_w bg4 (by omega) (by omega) fun d S5 d0 d1 bg5 s5 => ?_
    try simp only [Pv.PV0, Pv.PV1, Pv.PV2, Pv.PV3, Pv.PV4, Pv.PV5, Pv.PV6, List.getElem?_cons_zero, List.getElem?_cons_succ, List.set_cons_zero, List.set_cons_succ, List.map_cons, List.map_nil, List.length_cons, List.length_nil, List.replicate, List.cons_append, List.nil_append, eq_self, decide_eq_true_eq, Bool.not_eq_true', decide_eq_false_iff_not, Nat.reduceAdd, Nat.reduceSub, Nat.reduceLeDiff, and_true, true_and, if_true, if_false, ite_true, ite_false, Bool.false_eq_true, Bool.true_eq_false, Pv.PVA0, Pv.PVA1]
    refine take_w bg5 (by decide) (by decide) fun d2 S6 d20 d21 bg6 s6 => ?_
    obtain ⟨st, es1, hst⟩ : ∃ st : Nat, d * d2 = (st : Int) ∧ st ≤ es.length := by
      have : d2 = 0 ∨ d2 = 1 := by omega
      rcases this with rfl | rfl
      · exact ⟨0, by omega, by omega⟩
      · exact ⟨d.toNat, by omega, by omega⟩
    try simp only [Pv.PV0, Pv.PV1, Pv.PV2, Pv.PV3, Pv.PV4, Pv.PV5, Pv.PV6, List.getElem?_cons_zero, List.getElem?_cons_succ, List.set_cons_zero, List.set_cons_succ, List.map_cons, List.map_nil, List.length_cons, List.length_nil, List.replicate, List.cons_append, List.nil_append, eq_self, decide_eq_true_eq, Bool.not_eq_true', decide_eq_false_iff_not, Nat.reduceAdd, Nat.reduceSub, Nat.reduceLeDiff, and_true, true_and, if_true, if_false, ite_true, ite_false, Bool.false_eq_true, Bool.true_eq_false, Pv.PVA0, Pv.PVA1]
    refine ⟨Nat.lt_trans (Nat.add_lt_add (log_small (by omega)) (log_small (by omega))) (by decide), ?_⟩
    rw [es1]
    unfold st29_6
    try simp only [Pv.PV0, Pv.PV1, Pv.PV2, Pv.PV3, Pv.PV4, Pv.PV5, Pv.PV6, List.getElem?_cons_zero, List.getElem?_cons_succ, List.set_cons_zero, List.set_cons_succ, List.map_cons, List.map_nil, List.length_cons, List.length_nil, List.replicate, List.cons_append, List.nil_append, eq_self, decide_eq_true_eq, Bool.not_eq_true', decide_eq_false_iff_not, Nat.reduceAdd, Nat.reduceSub, Nat.reduceLeDiff, and_true, true_and, if_true, if_false, ite_true, ite_false, Bool.false_eq_true, Bool.true_eq_false, Pv.PVA0, Pv.PVA1]
    refine true_w bg6 (by omega) hri hst (by omega) he (by omega) fun vs S7 fm hv bg7 s7 => ?_
    unfold st29_15
    try simp only [Pv.PV0, Pv.PV1, Pv.PV2, Pv.PV3, Pv.PV4, Pv.PV5, Pv.PV6, List.getElem?_cons_zero, List.getElem?_cons_succ, List.set_cons_zero, List.set_cons_succ, List.map_cons, List.map_nil, List.length_cons, List.length_nil, List.replicate, List.cons_append, List.nil_append, eq_self, decide_eq_true_eq, Bool.not_eq_true', decide_eq_false_iff_not, Nat.reduceAdd, Nat.reduceSub, Nat.reduceLeDiff, and_true, true_and, if_true, if_false, ite_true, ite_false, Bool.false_eq_true, Bool.true_eq_false, Pv.PVA0, Pv.PVA1]
    refine ⟨_, rfl, by decide, by decide, ?_⟩
    rw [show (5 : Int).toNat = 5 from rfl, rng0]
    refine forI_w iP (fun pre env S' => ∃ vs : List Ev, Bg b S' ∧ vs.length ≤ 5000 + pre.length ∧ (pre = [] → firstM rows es st ⟨dueV st 0 es, [], st⟩ 0 vs = none) ∧ ∃ x8 x9 x10 x11, env = [some (.ro (ns.map .int)), some (.int (k : Int)), some (.ref b), some (.fl (ks.map .int)), some (tabP rows), some (logP es), some (.int (st : Int)), some (.fl (vs.map evP)), x8, x9, x10, x11]) (fun _ _ _ _ => trivial) ⟨vs, bg7, hv, fun _ => fm, _, _, _, _, rfl⟩ (fun pre t post env S' e ⟨vs, bg8, hv, fm, x8, x9, x10, x11, e2⟩ => ?_) fun env S8 ⟨vs, bg8, hv, fm, x8, x9, x10, x11, e2⟩ => ?_
    · subst e2
      have lp : pre.length < 5 := by
        have := congrArg List.length e
        rw [List.length_range, List.length_append, List.length_cons] at this
        omega
      have et : t = pre.length := by
        have h1 : (List.range 5)[pre.length]? = some t := by
          rw [e, List.getElem?_append_right (Nat.le_refl _), Nat.sub_self]
          rfl
        rw [List.getElem?_range lp] at h1
        exact (Option.some.inj h1).symm
      unfold iP
      try simp only [Pv.PV0, Pv.PV1, Pv.PV2, Pv.PV3, Pv.PV4, Pv.PV5, Pv.PV6, List.getElem?_cons_zero, List.getElem?_cons_succ, List.set_cons_zero, List.set_cons_succ, List.map_cons, List.map_nil, List.length_cons, List.length_nil, List.replicate, List.cons_append, List.nil_append, eq_self, decide_eq_true_eq, Bool.not_eq_true', decide_eq_false_iff_not, Nat.reduceAdd, Nat.reduceSub, Nat.reduceLeDiff, and_true, true_and, if_true, if_false, ite_true, ite_false, Bool.false_eq_true, Bool.true_eq_false, Pv.PVA0, Pv.PVA1]
      refine turn29 bg8 (by omega) k0 hri hst (by omega) he (by omega) (fun z => fm (List.eq_nil_of_length_eq_zero (by omega))) fun vs' S9 y9 y10 y11 hl' bg9 => ?_
      exact ⟨vs', bg9, by rw [List.length_append, List.length_singleton]; omega, fun z => by simp at z, _, _, _, _, rfl⟩
    · subst e2
      exact ⟨bg8.2, _, _, _, _, _, _, _, _, _, _, _, rfl⟩
  · try simp only [Pv.PV0, Pv.PV1, Pv.PV2, Pv.PV3, Pv.PV4, Pv.PV5, Pv.PV6, List.getElem?_cons_zero, List.getElem?_cons_succ, List.set_cons_zero, List.set_cons_succ, List.map_cons, List.map_nil, List.length_cons, List.length_nil, List.replicate, List.cons_append, List.nil_append, eq_self, decide_eq_true_eq, Bool.not_eq_true', decide_eq_false_iff_not, Nat.reduceAdd, Nat.reduceSub, Nat.reduceLeDiff, and_true, true_and, if_true, if_false, ite_true, ite_false, Bool.false_eq_true, Bool.true_eq_false, Pv.PVA0, Pv.PVA1]

theorem ok_lawF {P : Program} {w : World} {K : PySem.W.Frag} {mg : Str → Option Value} {base : Heap} (T : Txt K mg) : FnOk P w K mg base CX0 6 T.f_law T.fd_law ["script"] (Tc.spLaw K) := law_of (ok_law T) law_w
set_option maxHeartbeats 0 in
theorem facts {P : Program} {w : World} {K : PySem.W.Frag} {h : Heap} {mg : Str → Option Value} {f : Addr} (X : K.In h) (G : h.Ns mainGlobals mg) (hfa : mg ("law" : Str) = some (.ref f)) (c : SaysM faL fnL exL K) :
    ∃ fd : FuncData, (∀ (s : Shared) (v : Value), BindsTo s fd ⟨[v], []⟩ [("script", v)]) ∧ ∀ base : Heap, K.In base → base.Ns mainGlobals mg → FnOk P w K mg base CX0 6 f fd ["script"] (Tc.spLaw K) := by
  obtain ⟨fd_changes_of, F_changes_of⟩ := c.def_ 0 (d := dd_changes_of) rfl
  obtain ⟨fd_put_change, F_put_change⟩ := c.def_ 1 (d := dd_put_change) rfl
  obtain ⟨fd_pairs_of, F_pairs_of⟩ := c.def_ 2 (d := dd_pairs_of) rfl
  obtain ⟨fd_need_place, F_need_place⟩ := c.def_ 3 (d := dd_need_place) rfl
  obtain ⟨fd_all_tables, F_all_tables⟩ := c.def_ 4 (d := dd_all_tables) rfl
  obtain ⟨fd_changed, F_changed⟩ := c.def_ 5 (d := dd_changed) rfl
  obtain ⟨fd_due_changes, F_due_changes⟩ := c.def_ 6 (d := dd_due_changes) rfl
  obtain ⟨fd_is_copy, F_is_copy⟩ := c.def_ 7 (d := dd_is_copy) rfl
  obtain ⟨fd_first_wrong, F_first_wrong⟩ := c.def_ 8 (d := dd_first_wrong) rfl
  obtain ⟨fd__law_bag, F__law_bag⟩ := c.def_ 9 (d := dd__law_bag) rfl
  obtain ⟨fd__law_take, F__law_take⟩ := c.def_ 10 (d := dd__law_take) rfl
  obtain ⟨fd__law_of, F__law_of⟩ := c.def_ 11 (d := dd__law_of) rfl
  obtain ⟨fd__law_keys, F__law_keys⟩ := c.def_ 12 (d := dd__law_keys) rfl
  obtain ⟨fd__law_table, F__law_table⟩ := c.def_ 13 (d := dd__law_table) rfl
  obtain ⟨fd__law_changes, F__law_changes⟩ := c.def_ 14 (d := dd__law_changes) rfl
  obtain ⟨fd__law_entry, F__law_entry⟩ := c.def_ 15 (d := dd__law_entry) rfl
  obtain ⟨fd__law_log, F__law_log⟩ := c.def_ 16 (d := dd__law_log) rfl
  obtain ⟨fd__law_done, F__law_done⟩ := c.def_ 17 (d := dd__law_done) rfl
  obtain ⟨fd__law_pairs, F__law_pairs⟩ := c.def_ 18 (d := dd__law_pairs) rfl
  obtain ⟨fd__law_groups, F__law_groups⟩ := c.def_ 19 (d := dd__law_groups) rfl
  obtain ⟨fd__law_at, F__law_at⟩ := c.def_ 20 (d := dd__law_at) rfl
  obtain ⟨fd__law_moved, F__law_moved⟩ := c.def_ 21 (d := dd__law_moved) rfl
  obtain ⟨fd__law_wrong_at, F__law_wrong_at⟩ := c.def_ 22 (d := dd__law_wrong_at) rfl
  obtain ⟨fd__law_true_events, F__law_true_events⟩ := c.def_ 23 (d := dd__law_true_events) rfl
  obtain ⟨fd__law_other_events, F__law_other_events⟩ := c.def_ 24 (d := dd__law_other_events) rfl
  obtain ⟨fd_law, F_law⟩ := c.def_ 25 (d := dd_law) rfl
  have e := hfa.symm.trans (He.glo_ok X G (c.fact 25 (f := .glo "law") rfl))
  cases e
  let T : Txt K mg := {
    f_changes_of := He.fAd K ("changes_of", none), fd_changes_of := fd_changes_of, F_changes_of := He5.fun_of F_changes_of, g_changes_of := (He.glo_ok X G (c.fact 0 (f := .glo "changes_of") rfl)),
    b_changes_of := FunD.bindsN (ps := ["entry"]) F_changes_of fun _ _ _ _ _ _ us hl => match us, hl with | [_], _ => rfl,
    f_put_change := He.fAd K ("put_change", none), fd_put_change := fd_put_change, F_put_change := He5.fun_of F_put_change, g_put_change := (He.glo_ok X G (c.fact 1 (f := .glo "put_change") rfl)),
    b_put_change := FunD.bindsN (ps := ["rows", "change"]) F_put_change fun _ _ _ _ _ _ us hl => match us, hl with | [_, _], _ => rfl,
    f_pairs_of := He.fAd K ("pairs_of", none), fd_pairs_of := fd_pairs_of, F_pairs_of := He5.fun_of F_pairs_of, g_pairs_of := (He.glo_ok X G (c.fact 2 (f := .glo "pairs_of") rfl)),
    b_pairs_of := FunD.bindsN (ps := ["rows"]) F_pairs_of fun _ _ _ _ _ _ us hl => match us, hl with | [_], _ => rfl,
    f_need_place := He.fAd K ("need_place", none), fd_need_place := fd_need_place, F_need_place := He5.fun_of F_need_place, g_need_place := (He.glo_ok X G (c.fact 3 (f := .glo "need_place") rfl)),
    b_need_place := FunD.bindsN (ps := ["place", "least", "most"]) F_need_place fun _ _ _ _ _ _ us hl => match us, hl with | [_, _, _], _ => rfl,
    f_all_tables := He.fAd K ("all_tables", none), fd_all_tables := fd_all_tables, F_all_tables := He5.fun_of F_all_tables, g_all_tables := (He.glo_ok X G (c.fact 4 (f := .glo "all_tables") rfl)),
    b_all_tables := FunD.bindsN (ps := ["table", "log"]) F_all_tables fun _ _ _ _ _ _ us hl => match us, hl with | [_, _], _ => rfl,
    f_changed := He.fAd K ("changed", none), fd_changed := fd_changed, F_changed := He5.fun_of F_changed, g_changed := (He.glo_ok X G (c.fact 5 (f := .glo "changed") rfl)),
    b_changed := FunD.bindsN (ps := ["log", "low", "high"]) F_changed fun _ _ _ _ _ _ us hl => match us, hl with | [_, _, _], _ => rfl,
    f_due_changes := He.fAd K ("due_changes", none), fd_due_changes := fd_due_changes, F_due_changes := He5.fun_of F_due_changes, g_due_changes := (He.glo_ok X G (c.fact 6 (f := .glo "due_changes") rfl)),
    b_due_changes := FunD.bindsN (ps := ["log", "start"]) F_due_changes fun _ _ _ _ _ _ us hl => match us, hl with | [_, _], _ => rfl,
    f_is_copy := He.fAd K ("is_copy", none), fd_is_copy := fd_is_copy, F_is_copy := He5.fun_of F_is_copy, g_is_copy := (He.glo_ok X G (c.fact 7 (f := .glo "is_copy") rfl)),
    b_is_copy := FunD.bindsN (ps := ["tables", "log", "start", "event"]) F_is_copy fun _ _ _ _ _ _ us hl => match us, hl with | [_, _, _, _], _ => rfl,
    f_first_wrong := He.fAd K ("first_wrong", none), fd_first_wrong := fd_first_wrong, F_first_wrong := He5.fun_of F_first_wrong, g_first_wrong := (He.glo_ok X G (c.fact 8 (f := .glo "first_wrong") rfl)),
    kb_first_wrong := (FunD.kbinds0 (ps := ["table", "log", "events", "start"]) F_first_wrong 3 ["start"] [] (fun us _ ws => us ++ ws) (List.cons_ne_nil _ _) (fun _ h => nomatch h) (fun r1 _ r2 => r1.append r2) fun _ _ _ _ _ _ us mv ws l1 l2 l3 => match us, mv, ws, l1, l2, l3 with | [_, _, _], [], [_], _, _, _ => rfl).elim fun _ h => h,
    d0_first_wrong := FunD.binds0 (ps := ["table", "log", "events", "start"]) F_first_wrong 3 (List.cons_ne_nil _ _) rfl fun _ _ _ _ _ _ us ks l1 l2 => match us, ks, l1, l2 with | [_, _, _], [_], _, _ => ⟨_, _, _, _, _, _, rfl, rfl, rfl⟩,
    f__law_bag := He.fAd K ("_law_bag", none), fd__law_bag := fd__law_bag, F__law_bag := He5.fun_of F__law_bag, g__law_bag := (He.glo_ok X G (c.fact 9 (f := .glo "_law_bag") rfl)),
    b__law_bag := FunD.bindsN (ps := ["script", "k"]) F__law_bag fun _ _ _ _ _ _ us hl => match us, hl with | [_, _], _ => rfl,
    f__law_take := He.fAd K ("_law_take", none), fd__law_take := fd__law_take, F__law_take := He5.fun_of F__law_take, g__law_take := (He.glo_ok X G (c.fact 10 (f := .glo "_law_take") rfl)),
    b__law_take := FunD.bindsN (ps := ["bag", "many"]) F__law_take fun _ _ _ _ _ _ us hl => match us, hl with | [_, _], _ => rfl,
    f__law_of := He.fAd K ("_law_of", none), fd__law_of := fd__law_of, F__law_of := He5.fun_of F__law_of, g__law_of := (He.glo_ok X G (c.fact 11 (f := .glo "_law_of") rfl)),
    b__law_of := FunD.bindsN (ps := ["bag", "some"]) F__law_of fun _ _ _ _ _ _ us hl => match us, hl with | [_, _], _ => rfl,
    f__law_keys := He.fAd K ("_law_keys", none), fd__law_keys := fd__law_keys, F__law_keys := He5.fun_of F__law_keys, g__law_keys := (He.glo_ok X G (c.fact 12 (f := .glo "_law_keys") rfl)),
    b__law_keys := FunD.bindsN (ps := ["bag"]) F__law_keys fun _ _ _ _ _ _ us hl => match us, hl with | [_], _ => rfl,
    f__law_table := He.fAd K ("_law_table", none), fd__law_table := fd__law_table, F__law_table := He5.fun_of F__law_table, g__law_table := (He.glo_ok X G (c.fact 13 (f := .glo "_law_table") rfl)),
    b__law_table := FunD.bindsN (ps := ["bag", "keys"]) F__law_table fun _ _ _ _ _ _ us hl => match us, hl with | [_, _], _ => rfl,
    f__law_changes := He.fAd K ("_law_changes", none), fd__law_changes := fd__law_changes, F__law_changes := He5.fun_of F__law_changes, g__law_changes := (He.glo_ok X G (c.fact 14 (f := .glo "_law_changes") rfl)),
    b__law_changes := FunD.bindsN (ps := ["bag", "keys", "most"]) F__law_changes fun _ _ _ _ _ _ us hl => match us, hl with | [_, _, _], _ => rfl,
    f__law_entry := He.fAd K ("_law_entry", none), fd__law_entry := fd__law_entry, F__law_entry := He5.fun_of F__law_entry, g__law_entry := (He.glo_ok X G (c.fact 15 (f := .glo "_law_entry") rfl)),
    b__law_entry := FunD.bindsN (ps := ["bag", "keys"]) F__law_entry fun _ _ _ _ _ _ us hl => match us, hl with | [_, _], _ => rfl,
    f__law_log := He.fAd K ("_law_log", none), fd__law_log := fd__law_log, F__law_log := He5.fun_of F__law_log, g__law_log := (He.glo_ok X G (c.fact 16 (f := .glo "_law_log") rfl)),
    b__law_log := FunD.bindsN (ps := ["bag", "keys", "most"]) F__law_log fun _ _ _ _ _ _ us hl => match us, hl with | [_, _, _], _ => rfl,
    f__law_done := He.fAd K ("_law_done", none), fd__law_done := fd__law_done, F__law_done := He5.fun_of F__law_done, g__law_done := (He.glo_ok X G (c.fact 17 (f := .glo "_law_done") rfl)),
    b__law_done := FunD.bindsN (ps := ["rows", "changes"]) F__law_done fun _ _ _ _ _ _ us hl => match us, hl with | [_, _], _ => rfl,
    f__law_pairs := He.fAd K ("_law_pairs", none), fd__law_pairs := fd__law_pairs, F__law_pairs := He5.fun_of F__law_pairs, g__law_pairs := (He.glo_ok X G (c.fact 18 (f := .glo "_law_pairs") rfl)),
    b__law_pairs := FunD.bindsN (ps := ["rows"]) F__law_pairs fun _ _ _ _ _ _ us hl => match us, hl with | [_], _ => rfl,
    f__law_groups := He.fAd K ("_law_groups", none), fd__law_groups := fd__law_groups, F__law_groups := He5.fun_of F__law_groups, g__law_groups := (He.glo_ok X G (c.fact 19 (f := .glo "_law_groups") rfl)),
    b__law_groups := FunD.bindsN (ps := ["log"]) F__law_groups fun _ _ _ _ _ _ us hl => match us, hl with | [_], _ => rfl,
    f__law_at := He.fAd K ("_law_at", none), fd__law_at := fd__law_at, F__law_at := He5.fun_of F__law_at, g__law_at := (He.glo_ok X G (c.fact 20 (f := .glo "_law_at") rfl)),
    b__law_at := FunD.bindsN (ps := ["table", "log", "place"]) F__law_at fun _ _ _ _ _ _ us hl => match us, hl with | [_, _, _], _ => rfl,
    f__law_moved := He.fAd K ("_law_moved", none), fd__law_moved := fd__law_moved, F__law_moved := He5.fun_of F__law_moved, g__law_moved := (He.glo_ok X G (c.fact 21 (f := .glo "_law_moved") rfl)),
    b__law_moved := FunD.bindsN (ps := ["log", "low", "high"]) F__law_moved fun _ _ _ _ _ _ us hl => match us, hl with | [_, _, _], _ => rfl,
    f__law_wrong_at := He.fAd K ("_law_wrong_at", none), fd__law_wrong_at := fd__law_wrong_at, F__law_wrong_at := He5.fun_of F__law_wrong_at, g__law_wrong_at := (He.glo_ok X G (c.fact 22 (f := .glo "_law_wrong_at") rfl)),
    b__law_wrong_at := FunD.bindsN (ps := ["table", "log", "events", "sta1"]) F__law_wrong_at fun _ _ _ _ _ _ us hl => match us, hl with | [_, _, _, _], _ => rfl,
    f__law_true_events := He.fAd K ("_law_true_events", none), fd__law_true_events := fd__law_true_events, F__law_true_events := He5.fun_of F__law_true_events, g__law_true_events := (He.glo_ok X G (c.fact 23 (f := .glo "_law_true_events") rfl)),
    b__law_true_events := FunD.bindsN (ps := ["bag", "table", "log", "sta1"]) F__law_true_events fun _ _ _ _ _ _ us hl => match us, hl with | [_, _, _, _], _ => rfl,
    f__law_other_events := He.fAd K ("_law_other_events", none), fd__law_other_events := fd__law_other_events, F__law_other_events := He5.fun_of F__law_other_events, g__law_other_events := (He.glo_ok X G (c.fact 24 (f := .glo "_law_other_events") rfl)),
    b__law_other_events := FunD.bindsN (ps := ["bag", "events", "keys"]) F__law_other_events fun _ _ _ _ _ _ us hl => match us, hl with | [_, _, _], _ => rfl,
    f_law := He.fAd K ("law", none), fd_law := fd_law, F_law := He5.fun_of F_law, g_law := (He.glo_ok X G (c.fact 25 (f := .glo "law") rfl)),
    b_law := FunD.bindsN (ps := ["script"]) F_law fun _ _ _ _ _ _ us hl => match us, hl with | [_], _ => rfl,
    z_tuple := (He.free_ok X G (c.fact 26 (f := .free "tuple") rfl)),
    z_sorted := (He.free_ok X G (c.fact 27 (f := .free "sorted") rfl)),
    z_dict := (He.free_ok X G (c.fact 28 (f := .free "dict") rfl)),
    z_len := (He.free_ok X G (c.fact 29 (f := .free "len") rfl)),
    z_enumerate := (He.free_ok X G (c.fact 30 (f := .free "enumerate") rfl)),
    z_abs := (He.free_ok X G (c.fact 31 (f := .free "abs") rfl)),
    z_set := (He.free_ok X G (c.fact 32 (f := .free "set") rfl)),
    z_range := (He.free_ok X G (c.fact 33 (f := .free "range") rfl)),
    z_list := (He.free_ok X G (c.fact 34 (f := .free "list") rfl)),
    z_min := (He.free_ok X G (c.fact 35 (f := .free "min") rfl)) }
  exact ⟨fd_law, fun s v => FunD.bindsA (ps := ["script"]) F_law (fun _ _ _ _ _ _ us hl => match us, hl with | [_], _ => rfl) s [v] rfl, fun base _ _ => ok_lawF T⟩
end K29
open PySem PySem.W PySem.Calls PyProof.Rows
set_option maxHeartbeats 0 in
theorem PySem.Challenge.cw_tidecopy_k29_events_judged_holds : PySem.Challenge.rw_tidecopy_k29_events_judged.Holds := by
  w_on; o_law
  refine HandSHeadRun.head_any (r := OpenLaw.row PySem.Challenge.rw_tidecopy_k29_events_judged) (q := view (OpenLaw.row PySem.Challenge.rw_tidecopy_k29_events_judged).prog [32]) (H := K29.hk) (ob := K29.ob) (M := 30000) (loose := K29.looseL) (d := HandSHeadRun.topDef (OpenLaw.row PySem.Challenge.rw_tidecopy_k29_events_judged).prog 32) (kwd := []) K29.ob_eq
    (by kernel_rfl) (fun s => by kernel_rfl) K29.run (by kernel_rfl) (by kernel_rfl) (by kernel_rfl) (by rfl) (by first | assumption | decide +kernel) (by decide +kernel) ⟨rfl, rfl, rfl, rfl, rfl, by decide +kernel⟩ ?hw ?hc
  case hw => w_witness2
  case hc =>
    refine L2.walk_ofE (l := PySem.Challenge.rw_tidecopy_k29_events_judged) (n := 63) (k := 6) (x := "script") (CX := L2.CX0) rfl (by decide) (by kernel_rfl) ⟨rfl, by decide, by decide⟩ ?F (fun _ _ _ _ z => z)
    intro w mg fa h Y G hmg0
    obtain ⟨K, KX, c⟩ := Y
    have hmg : mg ("law" : PySem.Str) = some (.ref fa) := by
      have e : (HandSHeadRun.topDef (OpenLaw.row PySem.Challenge.rw_tidecopy_k29_events_judged).prog 32).name = ("law" : PySem.Str) := by kernel_rfl
      rw [← e]
      exact hmg0
    obtain ⟨fd, hb, hF⟩ := K29.facts (P := (PySem.Challenge.rw_tidecopy_k29_events_judged).prog) (w := w) KX G hmg c
    exact ⟨K, fd, Tc.spLaw K, KX, hb, fun H a ns hl _ hS => ⟨a, ns, rfl, hS, hl, fun _ => rfl⟩, hF⟩
