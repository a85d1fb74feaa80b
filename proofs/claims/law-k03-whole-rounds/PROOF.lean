import PyProof.Rows.All
import Wide.All
import OpenK.AllK
import Wide.FinOn
import HandS.ExcField
import HandS.Nested
import HandS.ExcInit
import HandS.IsInst
import KE.KExcSuper
import KE.KStateDown
import KE.KNestM
import HandS.Ends
import HandS.More
import HandS.Words
import HandS.WordsExc
import HandS.Head0
import HandS.Head1
import HandS.Head2
import HandS.HeadEnd
import HandS.HeadHook1
import HandS.HeadHook2
import Lean
import HandS.ForMost
import HandS.Lambda
import HandS.ExcIs
import HandS.CallLocal
import HandS.Style
import HandS.TupAny
import HandS.TupMul
import KE.DatumOrd
import HandS.Exc
import HandS.Rev
import HandS.Comp
import HandS.ExcOwn
import HandS.Dict
import HandS.Defaults
import KE.KExcIs
import HandS.ExcValue
import HandS.RaiseMore
import HandS.Deep
import HandS.SetFor
import HandS.WordsDict
import KE.KxIndex
import HandS.EndTab
import KE.BitLaws
import PySem.Challenge.RW_smoothnets_k03_whole_rounds
set_option Elab.async false
set_option linter.all false
set_option maxRecDepth 100000
set_option maxHeartbeats 4000000
namespace FW
open PySem PySem.Spec PyProof.Rows L2 NdefX
/-! ## what is seen of the written part, ahead of all else (the look at the top wants room) -/
def frees : List Str := ["len", "isinstance", "tuple", "list", "abs", "int", "min", "max", "sum", "all", "any", "repr", "range", "reversed", "bool", "str", "dict"]
def oexB (K : PySem.W.Frag) (C : Addr) : Bool := (match K.lookup C with
  | some ⟨.type "type", _, .cls cd, sl⟩ => (match cd.mro, sl.toList with
    | .ref C' :: bm, [_, _, _, _, some (.builtin n), _] => decide (C' = C) && decide (n = "ValueError.__new__") && !cd.hasDel && cd.hasDict && PySem.HandSPX.refsVE bm
    | _, _ => false)
  | _ => false) && decide (PySem.W.findIn K (.ref C) "__setattr__" = some (some (.builtin "object.__setattr__"))) && decide (PySem.W.subIn K (.ref C) (.type "BaseException") = some true) && decide (PySem.W.typeIn K (.ref C) = some (.type "type")) && PySem.W.keepIn K (.ref C)
def adOf : Option (Option Value) → Addr
  | some (some (.ref a)) => a
  | _ => 0
def iniA (K : PySem.W.Frag) (C : Addr) : Addr := adOf (PySem.W.findIn K (.ref C) "__init__")
def iniF (fl : Str) (K : PySem.W.Frag) (C fI : Addr) (at_ : Str) : Bool := match K.lookup fI with
  | some ⟨_, _, .func fd, _⟩ => (match fd.body, fd.closure, fd.code, fd.params with
    | .stmts [.Expr (.Call (.Attribute (.Call (.Name su _) [] [] _) ini p2) [.Constant (.str _) _ _] [] p4) _, .Assign [.Attribute (.Name sn _) at2 _] (.Name an _) _], [(cn, cc)], .ref cda, ⟨[], [a1, a2], none, [], [], none, []⟩ =>
      decide (su = "super") && decide (ini = "__init__") && decide (at2 = at_ ∧ an = at_) && decide (a1.arg = sn) && decide (a2.arg = an) && (decide (sn = "self") && (decide (an = "part") || decide (an = "at") || decide (an = "most") || decide (an = "name"))) && decide (cn = "__class__") && decide (fd.globals = mainGlobals) && decide (fd.builtins = builtinsNs) && decide (fd.name = "__init__") && decide (fd.defaults = .none) &&
      PySem.W.codeIn K (.ref cda) fd.qualname && nscB [sn, an, "__class__"] [sn, an] ["__class__"] fd.scope && decide (fd.scope.names.lookup ("super" : Str) = some .globalImplicit) && (p2.endLine == p4.line) &&
      !(sn == ("__debug__" : Str)) && !(sn == ("__classdict__" : Str)) && !(an == ("__debug__" : Str)) && !(an == ("__classdict__" : Str)) &&
      (match K.lookup cc with | some ⟨_, _, .cell (some (.ref C')), _⟩ => decide (C' = C) | _ => false) &&
      (match K.lookup cda with | some ⟨_, _, .fields vs, _⟩ => (match (vs[2]? : Option Value) with | some (.str file _) => (fl == file) | _ => false) | _ => false)
    | _, _, _, _ => false)
  | _ => false
def iniB (fl : Str) (K : PySem.W.Frag) (C : Addr) (at_ : Str) : Bool :=
  oexB K C && decide (PySem.W.findIn K (.ref C) "__init__" = some (some (.ref (iniA K C)))) && decide (PySem.W.typeIn K (.ref (iniA K C)) = some (.type "function")) && decide (PySem.W.findIn K (.ref C) at_ = some none) &&
  decide (PySem.W.ks_superIn K C C "__init__" = some (some (.builtin "ValueError.__init__"))) && decide (PySem.W.subIn K (.ref C) (.type "ValueError") = some true) && decide (PySem.W.mroIn K C (.ref C) = some true) && decide (PySem.W.nsIn K cStatics "thirdparty.any" = some none) &&
  decide (PySem.W.nsIn K mainGlobals "super" = some none) && iniF fl K C (iniA K C) at_
structure Mf where
  nums : List (Str × Int) := []
  defs : List Str := []
  excs : List Str := []
  net : Str := ""
  nets : List Str := []
  isx0 : List (Str × List (Str × Bool)) := []
  exq : List Str := []
  isxf : List (Str × (Str → Bool)) := []
  inis : List (Str × Str) := []
  fil : Str := ""
/-- what isinstance tells, by class: written out, or by a rule for all errors exq -/
def Mf.isx (m : Mf) : List (Str × List (Str × Bool)) := m.isx0 ++ m.isxf.map fun q => (q.1, m.exq.map fun x => (x, q.2 x))
def eqV (a b : Option (Option Value)) : Bool := decide (a = b)
def excCB (K : PySem.W.Frag) (D : Addr) : Bool :=
  eqV (PySem.W.findIn K (.ref D) "__getattribute__") (some (some (.builtin "BaseException.__getattribute__"))) && eqV (PySem.W.findIn K (.ref D) "__getattr__") (some none) && decide (PySem.W.subIn K (.ref D) (.type "BaseException") = some true) && PySem.W.hasDictIn K D &&
  eqV (PySem.W.findIn K (.ref D) "__class__") (some (some (.builtin "object.__class__"))) && eqV (PySem.W.specialIn K (.builtin "object.__class__") "__get__") (some (some (.builtin "getset_descriptor.__get__"))) && decide (PySem.W.takesIn K (.builtin "object.__class__") = some true) && decide (PySem.W.mroIn K D (.type "object") = some true)
def clsV (K : PySem.W.Frag) (x : Str) : Value := if x = "ValueError" then .type "ValueError" else .ref (He.ga K x)
def isxB (K : PySem.W.Frag) (es : List (Str × Addr)) (q : Str × (Str → Bool)) : Bool :=
  (if q.1 = "ValueError" then (He.Fa.free "ValueError").ok K else (He.Fa.glo q.1).ok K) && decide (PySem.W.kitOne K (.type "NoneType") (clsV K q.1) = some false) && es.all fun p => decide (PySem.W.kitOne K (.ref p.2) (clsV K q.1) = some (q.2 p.1))
def Mf.ok (m : Mf) (K : PySem.W.Frag) : Bool :=
  (frees.all fun x => (He.Fa.free x).ok K) && (m.nums.all fun q => (He.Fa.int q.1 q.2).ok K) && (m.defs.all fun x => (He.Fa.glo x).ok K) && (m.excs.all fun x => (He.Fa.glo x).ok K && (He.Fa.exc x).ok K) &&
  (m.nets.all fun x => (He.Fa.glo x).ok K && (He.Fa.exm x m.net true).ok K) && (m.nets.isEmpty || (He.Fa.glo m.net).ok K) &&
  (m.isx0.all fun q => (if q.1 = "ValueError" then (He.Fa.free "ValueError").ok K else (He.Fa.glo q.1).ok K) && decide (PySem.W.kitOne K (.type "NoneType") (clsV K q.1) = some false) && q.2.all fun p => (He.Fa.glo p.1).ok K && excCB K (He.ga K p.1) && decide (PySem.W.kitOne K (.ref (He.ga K p.1)) (clsV K q.1) = some p.2)) &&
  ((m.exq.all fun x => (He.Fa.glo x).ok K && excCB K (He.ga K x)) && m.isxf.all fun q => isxB K (m.exq.map fun x => (x, He.ga K x)) q) &&
  m.inis.all fun q => (He.Fa.glo q.1).ok K && iniB m.fil K (He.ga K q.1) q.2 && xfB K (He.ga K q.1)
def isTabO : Option Obj → Bool
  | some ⟨.none, none, .fields vs, sl⟩ => vs.isEmpty && sl.isEmpty
  | _ => false
theorem isTabO_ok {o : Option Obj} (h : isTabO o = true) : o = some { cls := .none, data := .fields #[] } := by
  unfold isTabO at h
  split at h
  · rename_i vs sl
    rw [Bool.and_eq_true] at h
    have e1 : vs = #[] := Array.isEmpty_iff.mp h.1
    have e2 : sl = #[] := Array.isEmpty_iff.mp h.2
    subst e1 e2
    rfl
  · cases h
def asM (g : Addr → Option Obj) (n : Nat) : List Addr := (cStatics :: He.asD g n).filter fun a => !isTabO (g a)
def tabB (g : Addr → Option Obj) (K : PySem.W.Frag) (x : Str) : Bool := match PySem.W.tabIn K x with
  | some (c, P) => PySem.W.codeHdIn K c P && (K.lookup P).isNone && isTabO (g P)
  | none => false
def obsM (m : Mf) (ls : List Str) (fn : List He.DefD) (g : Addr → Option Obj) (n : Nat) : He.AlD :=
  let K := He.frG g (asM g n)
  ((m.ok K && (ls.all (tabB g K) && decide (ls.map fun x => ((PySem.W.tabIn K x).getD (0, 0)).2).Nodup)) && fn.all fun d => d.ok K, fn.map fun d => He.fnW K d.at_)
structure SaysM (m : Mf) (ls : List Str) (fn : List He.DefD) (K : PySem.W.Frag) (h : Heap) : Prop where
  inn : K.In h
  ok : m.ok K = true
  tab : ∀ x ∈ ls, ∃ c P, PySem.W.tabIn K x = some (c, P) ∧ PySem.W.codeHdIn K c P = true ∧ K.lookup P = none ∧ h.get? P = some { cls := .none, data := .fields #[] }
  dst : (ls.map fun x => ((PySem.W.tabIn K x).getD (0, 0)).2).Nodup
  dok : ∀ d ∈ fn, d.ok K = true
  dfs : fn.map (fun d => He.fnW K d.at_) = fn.map He.DefD.val
theorem saysM_of {m : Mf} {ls : List Str} {fn : List He.DefD} {n : Nat} {h : Heap} (e : obsM m ls fn h.get? n = He.valD fn) : ∃ K, SaysM m ls fn K h := by
  have e1 : ((m.ok (He.frG h.get? (asM h.get? n)) && (ls.all (tabB h.get? (He.frG h.get? (asM h.get? n))) && decide (ls.map fun x => ((PySem.W.tabIn (He.frG h.get? (asM h.get? n)) x).getD (0, 0)).2).Nodup)) && fn.all fun d => d.ok (He.frG h.get? (asM h.get? n))) = true := congrArg (fun z : He.AlD => z.1) e
  have e2 : fn.map (fun d => He.fnW (He.frG h.get? (asM h.get? n)) d.at_) = fn.map He.DefD.val := congrArg (fun z : He.AlD => z.2) e
  rw [Bool.and_eq_true, Bool.and_eq_true, Bool.and_eq_true, decide_eq_true_eq] at e1
  obtain ⟨⟨a, b, b2⟩, c⟩ := e1
  refine ⟨_, He.frG_in, a, fun x hx => ?_, b2, fun d hd => List.all_eq_true.mp c d hd, e2⟩
  have t := List.all_eq_true.mp b x hx
  unfold tabB at t
  split at t
  · rename_i c P q
    rw [Bool.and_eq_true, Bool.and_eq_true] at t
    exact ⟨c, P, q, t.1.1, by simpa using t.1.2, isTabO_ok t.2⟩
  · cases t
def hookM (n : Nat) (m : Mf) (ls : List Str) (fn : List He.DefD) : PySem.W.Hook where
  α := He.AlD
  obs := fun s => obsM m ls fn s.heap.get? n
  val := fun _ => He.valD fn
  says := fun _ h => ∃ K, SaysM m ls fn K h
  of := fun _ _ e => saysM_of e
  keeps := fun _ _ _ ⟨K, s⟩ k => ⟨K, s.inn.keeps k, s.ok, fun x hx => let ⟨c, P, a, b, d, e⟩ := s.tab x hx; ⟨c, P, a, b, d, k _ _ e⟩, s.dst, s.dok, s.dfs⟩
theorem obsM_eq {n : Nat} {m : Mf} {ls : List Str} {fn : List He.DefD} {g : Addr → Option Obj} {s : Shared} (h : ∀ a, g a = s.heap.get? a) : obsM m ls fn g n = (hookM n m ls fn).obs s := by
  have e : g = s.heap.get? := funext h
  rw [e] <;> rfl
end FW
set_option Elab.async false
set_option linter.all false
set_option maxRecDepth 100000
set_option maxHeartbeats 0
namespace LW
open PySem PySem.Spec PyProof.Rows
abbrev PW : Program := PySem.Challenge.pw_smoothnets_k03_whole_rounds
def top (i : Nat) : Stmt := PW.main.body.getD i (.Pass ⟨0, 0, 0, 0⟩)
abbrev s_is_number : Stmt := top 7
def d_is_number : He.DefD := ⟨("is_number", none), "is_number", "is_number", L2.defArgs s_is_number, L2.defBody s_is_number, L2.defScope s_is_number, [], []⟩
abbrev s_is_between : Stmt := top 8
def d_is_between : He.DefD := ⟨("is_between", none), "is_between", "is_between", L2.defArgs s_is_between, L2.defBody s_is_between, L2.defScope s_is_between, [], []⟩
abbrev s_need_between : Stmt := top 9
def d_need_between : He.DefD := ⟨("need_between", none), "need_between", "need_between", L2.defArgs s_need_between, L2.defBody s_need_between, L2.defScope s_need_between, [], []⟩
abbrev s_need_size : Stmt := top 12
def d_need_size : He.DefD := ⟨("need_size", none), "need_size", "need_size", L2.defArgs s_need_size, L2.defBody s_need_size, L2.defScope s_need_size, [], []⟩
abbrev s_are_letters : Stmt := top 13
def d_are_letters : He.DefD := ⟨("are_letters", none), "are_letters", "are_letters", L2.defArgs s_are_letters, L2.defBody s_are_letters, L2.defScope s_are_letters, [], []⟩
abbrev s_is_word : Stmt := top 14
def d_is_word : He.DefD := ⟨("is_word", none), "is_word", "is_word", L2.defArgs s_is_word, L2.defBody s_is_word, L2.defScope s_is_word, [], []⟩
abbrev s_need_word : Stmt := top 15
def d_need_word : He.DefD := ⟨("need_word", none), "need_word", "need_word", L2.defArgs s_need_word, L2.defBody s_need_word, L2.defScope s_need_word, [], []⟩
abbrev s_freed : Stmt := top 16
def d_freed : He.DefD := ⟨("freed", none), "freed", "freed", L2.defArgs s_freed, L2.defBody s_freed, L2.defScope s_freed, [], []⟩
abbrev s_undone_word : Stmt := top 17
def d_undone_word : He.DefD := ⟨("undone_word", none), "undone_word", "undone_word", L2.defArgs s_undone_word, L2.defBody s_undone_word, L2.defScope s_undone_word, [], []⟩
abbrev s_least_spot : Stmt := top 20
def d_least_spot : He.DefD := ⟨("least_spot", none), "least_spot", "least_spot", L2.defArgs s_least_spot, L2.defBody s_least_spot, L2.defScope s_least_spot, [], []⟩
abbrev s_least_turn : Stmt := top 21
def d_least_turn : He.DefD := ⟨("least_turn", none), "least_turn", "least_turn", L2.defArgs s_least_turn, L2.defBody s_least_turn, L2.defScope s_least_turn, [], []⟩
abbrev s_round_of : Stmt := top 22
def d_round_of : He.DefD := ⟨("round_of", none), "round_of", "round_of", L2.defArgs s_round_of, L2.defBody s_round_of, L2.defScope s_round_of, [], []⟩
abbrev s_is_round : Stmt := top 23
def d_is_round : He.DefD := ⟨("is_round", none), "is_round", "is_round", L2.defArgs s_is_round, L2.defBody s_is_round, L2.defScope s_is_round, [], []⟩
abbrev s_need_loop : Stmt := top 24
def d_need_loop : He.DefD := ⟨("need_loop", none), "need_loop", "need_loop", L2.defArgs s_need_loop, L2.defBody s_need_loop, L2.defScope s_need_loop, [], []⟩
abbrev s_turned_about : Stmt := top 25
def d_turned_about : He.DefD := ⟨("turned_about", none), "turned_about", "turned_about", L2.defArgs s_turned_about, L2.defBody s_turned_about, L2.defScope s_turned_about, [], []⟩
abbrev s_gone : Stmt := top 26
def d_gone : He.DefD := ⟨("gone", none), "gone", "gone", L2.defArgs s_gone, L2.defBody s_gone, L2.defScope s_gone, [], []⟩
abbrev s_root_part : Stmt := top 27
def d_root_part : He.DefD := ⟨("root_part", none), "root_part", "root_part", L2.defArgs s_root_part, L2.defBody s_root_part, L2.defScope s_root_part, [], []⟩
abbrev s_root_of : Stmt := top 28
def d_root_of : He.DefD := ⟨("root_of", none), "root_of", "root_of", L2.defArgs s_root_of, L2.defBody s_root_of, L2.defScope s_root_of, [], []⟩
abbrev s_along : Stmt := top 29
def d_along : He.DefD := ⟨("along", none), "along", "along", L2.defArgs s_along, L2.defBody s_along, L2.defScope s_along, [], []⟩
abbrev s__law_begun : Stmt := top 31
def d__law_begun : He.DefD := ⟨("_law_begun", none), "_law_begun", "_law_begun", L2.defArgs s__law_begun, L2.defBody s__law_begun, L2.defScope s__law_begun, [], []⟩
abbrev s__law_mixed : Stmt := top 32
def d__law_mixed : He.DefD := ⟨("_law_mixed", none), "_law_mixed", "_law_mixed", L2.defArgs s__law_mixed, L2.defBody s__law_mixed, L2.defScope s__law_mixed, [], []⟩
abbrev s__law_take : Stmt := top 33
def d__law_take : He.DefD := ⟨("_law_take", none), "_law_take", "_law_take", L2.defArgs s__law_take, L2.defBody s__law_take, L2.defScope s__law_take, [], []⟩
abbrev s__law_pick : Stmt := top 34
def d__law_pick : He.DefD := ⟨("_law_pick", none), "_law_pick", "_law_pick", L2.defArgs s__law_pick, L2.defBody s__law_pick, L2.defScope s__law_pick, [], []⟩
abbrev s__law_caught : Stmt := top 35
def d__law_caught : He.DefD := ⟨("_law_caught", none), "_law_caught", "_law_caught", L2.defArgs s__law_caught, L2.defBody s__law_caught, L2.defScope s__law_caught, [], []⟩
abbrev s__law_is_truth : Stmt := top 36
def d__law_is_truth : He.DefD := ⟨("_law_is_truth", none), "_law_is_truth", "_law_is_truth", L2.defArgs s__law_is_truth, L2.defBody s__law_is_truth, L2.defScope s__law_is_truth, [], []⟩
abbrev s__law_freed : Stmt := top 37
def d__law_freed : He.DefD := ⟨("_law_freed", none), "_law_freed", "_law_freed", L2.defArgs s__law_freed, L2.defBody s__law_freed, L2.defScope s__law_freed, [], []⟩
abbrev s__law_back : Stmt := top 38
def d__law_back : He.DefD := ⟨("_law_back", none), "_law_back", "_law_back", L2.defArgs s__law_back, L2.defBody s__law_back, L2.defScope s__law_back, [], []⟩
abbrev s__law_least_turn : Stmt := top 39
def d__law_least_turn : He.DefD := ⟨("_law_least_turn", none), "_law_least_turn", "_law_least_turn", L2.defArgs s__law_least_turn, L2.defBody s__law_least_turn, L2.defScope s__law_least_turn, [], []⟩
abbrev s__law_row : Stmt := top 40
def d__law_row : He.DefD := ⟨("_law_row", none), "_law_row", "_law_row", L2.defArgs s__law_row, L2.defBody s__law_row, L2.defScope s__law_row, [], []⟩
abbrev s__law_free_row : Stmt := top 41
def d__law_free_row : He.DefD := ⟨("_law_free_row", none), "_law_free_row", "_law_free_row", L2.defArgs s__law_free_row, L2.defBody s__law_free_row, L2.defScope s__law_free_row, [], []⟩
abbrev s__law_odd_size : Stmt := top 42
def d__law_odd_size : He.DefD := ⟨("_law_odd_size", none), "_law_odd_size", "_law_odd_size", L2.defArgs s__law_odd_size, L2.defBody s__law_odd_size, L2.defScope s__law_odd_size, [], []⟩
abbrev s__law_led_about : Stmt := top 43
def d__law_led_about : He.DefD := ⟨("_law_led_about", none), "_law_led_about", "_law_led_about", L2.defArgs s__law_led_about, L2.defBody s__law_led_about, L2.defScope s__law_led_about, [], []⟩
abbrev s__law_are_one : Stmt := top 44
def d__law_are_one : He.DefD := ⟨("_law_are_one", none), "_law_are_one", "_law_are_one", L2.defArgs s__law_are_one, L2.defBody s__law_are_one, L2.defScope s__law_are_one, [], []⟩
abbrev s__law_near : Stmt := top 45
def d__law_near : He.DefD := ⟨("_law_near", none), "_law_near", "_law_near", L2.defArgs s__law_near, L2.defBody s__law_near, L2.defScope s__law_near, [], []⟩
abbrev s__law_none : Stmt := top 46
def d__law_none : He.DefD := ⟨("_law_none", none), "_law_none", "_law_none", L2.defArgs s__law_none, L2.defBody s__law_none, L2.defScope s__law_none, [], []⟩
abbrev s__law_round_right : Stmt := top 47
def d__law_round_right : He.DefD := ⟨("_law_round_right", none), "_law_round_right", "_law_round_right", L2.defArgs s__law_round_right, L2.defBody s__law_round_right, L2.defScope s__law_round_right, [], []⟩
abbrev s__law_go_along : Stmt := top 48
def d__law_go_along : He.DefD := ⟨("_law_go_along", none), "_law_go_along", "_law_go_along", L2.defArgs s__law_go_along, L2.defBody s__law_go_along, L2.defScope s__law_go_along, [], []⟩
abbrev s__law_refused : Stmt := top 49
def d__law_refused : He.DefD := ⟨("_law_refused", none), "_law_refused", "_law_refused", L2.defArgs s__law_refused, L2.defBody s__law_refused, L2.defScope s__law_refused, [], []⟩
abbrev s_law : Stmt := top 50
def d_law : He.DefD := ⟨("law", none), "law", "law", L2.defArgs s_law, L2.defBody s_law, L2.defScope s_law, [], []⟩
def fnL : List He.DefD := [d_is_number, d_is_between, d_need_between, d_need_size, d_are_letters, d_is_word, d_need_word, d_freed, d_undone_word, d_least_spot, d_least_turn, d_round_of, d_is_round, d_need_loop, d_turned_about, d_gone, d_root_part, d_root_of, d_along, d__law_begun, d__law_mixed, d__law_take, d__law_pick, d__law_caught, d__law_is_truth, d__law_freed, d__law_back, d__law_least_turn, d__law_row, d__law_free_row, d__law_odd_size, d__law_led_about, d__law_are_one, d__law_near, d__law_none, d__law_round_right, d__law_go_along, d__law_refused, d_law]
def mf : FW.Mf := { nums := [("MOST_LETTERS", 200), ("MOST_TIMES", 60)], defs := (["is_number", "is_between", "need_between", "need_size", "are_letters", "is_word", "need_word", "freed", "undone_word", "least_spot", "least_turn", "round_of", "is_round", "need_loop", "turned_about", "gone", "root_part", "root_of", "along", "_law_begun", "_law_mixed", "_law_take", "_law_pick", "_law_caught", "_law_is_truth", "_law_freed", "_law_back", "_law_least_turn", "_law_row", "_law_free_row"] : List Str) ++ (["_law_odd_size", "_law_led_about", "_law_are_one", "_law_near", "_law_none", "_law_round_right", "_law_go_along", "_law_refused", "law"] : List Str), excs := (["BadSize", "BadWord", "BadRound"] : List Str), net := "NetError", nets := (["BadSize", "BadWord", "BadRound", "BadNumber"] : List Str), isx0 := [("BadSize", [("BadSize", true), ("BadWord", false), ("BadRound", false), ("BadNumber", false)]), ("BadWord", [("BadSize", false), ("BadWord", true), ("BadRound", false), ("BadNumber", false)]), ("BadRound", [("BadSize", false), ("BadWord", false), ("BadRound", true), ("BadNumber", false)]), ("BadNumber", [("BadSize", false), ("BadWord", false), ("BadRound", false), ("BadNumber", true)])], inis := [("BadNumber", "part")], fil := PW.main.file }
def lams : List Str := ["_law_refused"]
abbrev Rw : PySem.W.OpenRow := PySem.W.OpenLaw.row PySem.Challenge.rw_smoothnets_k03_whole_rounds
abbrev hk : PySem.W.Hook := FW.hookM 4 mf lams fnL
def ob (s : PySem.W.SharedT) : He.AlD := FW.obsM mf lams fnL (HandSHeadRun.getT s) 4
theorem ob_eq (s : PySem.W.SharedT) : ob s = hk.obs s.abs := FW.obsM_eq (HandSHeadRun.getT_eq s)
def loose : List Str := (["NetError", "BadSize", "BadWord", "BadRound", "BadNumber", "is_number", "is_between", "need_between", "MOST_LETTERS", "need_size", "are_letters", "is_word", "need_word", "freed", "undone_word", "MOST_TIMES", "least_spot", "least_turn", "round_of", "is_round", "need_loop", "turned_about", "gone", "root_part", "root_of", "along", "_law_begun", "_law_mixed", "_law_take", "_law_pick"] : List Str) ++ (["_law_caught", "_law_is_truth", "_law_freed", "_law_back", "_law_least_turn", "_law_row", "_law_free_row", "_law_odd_size", "_law_led_about", "_law_are_one", "_law_near", "_law_none", "_law_round_right", "_law_go_along", "_law_refused"] : List Str)
theorem run (w : World) : HandSHeadRun.RunEq Rw (PySem.W.view Rw.prog [50]) hk ob 4000 loose w := by
  intro os
  kernel_rfl
end LW
set_option Elab.async false
set_option linter.all false
set_option maxRecDepth 100000
namespace FW
open PySem PySem.Spec PyProof.Rows L2
/-! ## data -/
/-- the closures that one frame makes: what stands at the address of the j-th one (its code object at the other), their name -/
structure CF where
  o : Nat → Addr → Addr → HO
  q : Str
inductive D where
  | non | bl (b : Bool) | int (i : Int) | str (x : Str)
  | tup (ds : List D) | lst (ds : List D) | dic (ks : List Key) (ds : List D)
  | scr (ns : List Int) | fn (x : Str) | ty (n : String) | exc (c : Str) (ns : List Str) (ds : List D) | clo (f : CF) (j : Nat)
/-- what a slot holds: frozen data, an own list, the draw -/
inductive T where
  | val (d : D) | lst (ts : List T) | dic (ks : List Key) (ts : List T) | raw (o : HO) | xdc (ns : List Str) (ds : List D)
/-- the exception object of the class cls with the own dict d, at a -/
def ExH (cls : Value) (d : Option Addr) (a : Addr) : HO := .ext fun h => ∃ (oe : Obj), h.get? a = some oe ∧ Zc cls d oe ∧ ∃ vs, oe.data = .fields vs
/-- what is fixed through a law -/
structure GC where
  K : PySem.W.Frag
  mg : Str → Option Value
  tabs : List (Addr × Str)
mutual
/-- v shows the data d, over the frozen part B of the heap -/
inductive Sh (G : GC) (B : Hp) : V → D → Prop
  | non : Sh G B .non .non
  | bl (b : Bool) : Sh G B (.bl b) (.bl b)
  | int (i : Int) : Sh G B (.int i) (.int i)
  | str (x : Str) : Sh G B (.str x) (.str x)
  | tup {p : Addr} {xs : List V} {ds : List D} : SqT G.K B p xs → ShL G B xs ds → Sh G B (.ref p) (.tup ds)
  | lst {p : Addr} {xs : List V} {ds : List D} : B p = some (.lst xs) → ShL G B xs ds → Sh G B (.ref p) (.lst ds)
  | scr {p : Addr} {ns : List Int} : SqL G.K B p (ns.map V.int) → Sh G B (.ref p) (.scr ns)
  | dic {p : Addr} {ks : List Key} {xs : List V} {ds : List D} : B p = some (.dK (ks.zip xs)) → ks.length = xs.length → ShL G B xs ds → Sh G B (.ref p) (.dic ks ds)
  | fn {x : Str} {a : Addr} : G.mg x = some (.ref a) → Sh G B (.ref a) (.fn x)
  | ty (n : String) : Sh G B (.ty n) (.ty n)
  | exc {c : Str} {C a : Addr} {d : Option Addr} {ns : List Str} {xs : List V} {ds : List D} : G.mg c = some (.ref C) → B a = some (ExH (.ref C) d a) →
      (ns = [] ∧ d = none ∨ ∃ dd, (d = some dd ∧ ns ≠ []) ∧ B dd = some (.xd (ns.zip xs))) → ns.length = xs.length → ShL G B xs ds → Sh G B (.ref a) (.exc c ns ds)
  | clo {a c : Addr} {f : CF} {j : Nat} : B a = some (f.o j c a) → B c = some (LamX.CodeO c f.q) → Sh G B (.ref a) (.clo f j)
inductive ShL (G : GC) (B : Hp) : List V → List D → Prop
  | nil : ShL G B [] []
  | cons {v : V} {vs : List V} {d : D} {ds : List D} : Sh G B v d → ShL G B vs ds → ShL G B (v :: vs) (d :: ds)
end
theorem Same.rd {B B' : Hp} (e : Same B B') {a : Addr} {u : HO} (h : Rd B a u) : Rd B' a u := by
  rcases h with h | ⟨o, h⟩
  · exact .inl (e _ _ h)
  · exact .inr ⟨o, e _ _ h⟩
theorem Same.sql {K : PySem.W.Frag} {B B' : Hp} (e : Same B B') {a : Addr} {xs : List V} (h : SqL K B a xs) : SqL K B' a xs := h.imp (Same.rd e) id
theorem Same.sqt {K : PySem.W.Frag} {B B' : Hp} (e : Same B B') {a : Addr} {xs : List V} (h : SqT K B a xs) : SqT K B' a xs := h.imp (Same.rd e) id
mutual
theorem Sh.mono {G : GC} {B B' : Hp} (e : Same B B') : ∀ {v : V} {d : D}, Sh G B v d → Sh G B' v d
  | _, _, .non => .non
  | _, _, .bl b => .bl b
  | _, _, .int i => .int i
  | _, _, .str x => .str x
  | _, _, .tup h l => .tup (Same.sqt e h) (ShL.mono e l)
  | _, _, .lst h l => .lst (e _ _ h) (ShL.mono e l)
  | _, _, .scr h => .scr (Same.sql e h)
  | _, _, .dic h q l => .dic (e _ _ h) q (ShL.mono e l)
  | _, _, .fn h => .fn h
  | _, _, .ty n => .ty n
  | _, _, .exc h1 h2 h3 h4 l => .exc h1 (e _ _ h2) (h3.imp id fun ⟨dd, a, b⟩ => ⟨dd, a, e _ _ b⟩) h4 (ShL.mono e l)
  | _, _, .clo h1 h2 => .clo (e _ _ h1) (e _ _ h2)
theorem ShL.mono {G : GC} {B B' : Hp} (e : Same B B') : ∀ {vs : List V} {ds : List D}, ShL G B vs ds → ShL G B' vs ds
  | _, _, .nil => .nil
  | _, _, .cons h t => .cons (Sh.mono e h) (ShL.mono e t)
end
theorem ShL.length {G : GC} {B : Hp} : ∀ {vs : List V} {ds : List D}, ShL G B vs ds → vs.length = ds.length
  | _, _, .nil => rfl
  | _, _, .cons _ t => congrArg (· + 1) (ShL.length t)
theorem ShL.get {G : GC} {B : Hp} : ∀ {vs : List V} {ds : List D} {i : Nat} {v : V}, ShL G B vs ds → vs[i]? = some v → ∃ d, ds[i]? = some d ∧ Sh G B v d
  | _, _, _, _, .nil, e => by simp at e
  | _, _, 0, _, .cons h _, e => by simp at e; subst e; exact ⟨_, rfl, h⟩
  | _, _, i + 1, v, .cons _ t, e => by
    obtain ⟨d, h1, h2⟩ := ShL.get (i := i) (v := v) t (by simpa using e)
    exact ⟨d, by simpa using h1, h2⟩
theorem ShL.getD {G : GC} {B : Hp} : ∀ {vs : List V} {ds : List D} {i : Nat} {d : D}, ShL G B vs ds → ds[i]? = some d → ∃ v, vs[i]? = some v ∧ Sh G B v d
  | _, _, _, _, .nil, e => by simp at e
  | _, _, 0, _, .cons h _, e => by simp at e; subst e; exact ⟨_, rfl, h⟩
  | _, _, i + 1, d, .cons _ t, e => by
    obtain ⟨v, h1, h2⟩ := ShL.getD (i := i) (d := d) t (by simpa using e)
    exact ⟨v, by simpa using h1, h2⟩
mutual
/-- v owns the tree t in H (its footprint last) -/
inductive Ow (G : GC) (B H : Hp) : V → T → List Addr → Prop
  | val {v : V} {d : D} : Sh G B v d → Ow G B H v (.val d) []
  | lst {p : Addr} {xs : List V} {ts : List T} {f : List Addr} : H p = some (.lst xs) → OwL G B H xs ts f → Ow G B H (.ref p) (.lst ts) (p :: f)
  | dic {p : Addr} {ks : List Key} {xs : List V} {ts : List T} {f : List Addr} : H p = some (.dK (ks.zip xs)) → ks.length = xs.length → OwL G B H xs ts f → Ow G B H (.ref p) (.dic ks ts) (p :: f)
  | raw {p : Addr} {o : HO} : H p = some o → (∀ ps, o ≠ .tbl ps) → (∀ c q, o ≠ LamX.CodeO c q) → Ow G B H (.ref p) (.raw o) [p]
  | xdc {p : Addr} {ns : List Str} {xs : List V} {ds : List D} : H p = some (.xd (ns.zip xs)) → ns.length = xs.length → ShL G B xs ds → Ow G B H (.ref p) (.xdc ns ds) [p]
inductive OwL (G : GC) (B H : Hp) : List V → List T → List Addr → Prop
  | nil : OwL G B H [] [] []
  | cons {v : V} {vs : List V} {t : T} {ts : List T} {f g : List Addr} : Ow G B H v t f → OwL G B H vs ts g → OwL G B H (v :: vs) (t :: ts) (f ++ g)
end
mutual
theorem Ow.mono {G : GC} {B B' H H' : Hp} (e : Same B B') : ∀ {v : V} {t : T} {f : List Addr}, Ow G B H v t f → (∀ a ∈ f, H' a = H a) → Ow G B' H' v t f
  | _, _, _, .val h, _ => .val (h.mono e)
  | _, _, _, .lst h l, k => .lst ((k _ (by simp)).trans h) (OwL.mono e l fun a ha => k a (by simp [ha]))
  | _, _, _, .dic h q l, k => .dic ((k _ (by simp)).trans h) q (OwL.mono e l fun a ha => k a (by simp [ha]))
  | _, _, _, .raw h q l, k => .raw ((k _ (by simp)).trans h) q l
  | _, _, _, .xdc h q l, k => .xdc ((k _ (by simp)).trans h) q (l.mono e)
theorem OwL.mono {G : GC} {B B' H H' : Hp} (e : Same B B') : ∀ {vs : List V} {ts : List T} {f : List Addr}, OwL G B H vs ts f → (∀ a ∈ f, H' a = H a) → OwL G B' H' vs ts f
  | _, _, _, .nil, _ => .nil
  | _, _, _, .cons h t, k => .cons (Ow.mono e h fun a ha => k a (by simp [ha])) (OwL.mono e t fun a ha => k a (by simp [ha]))
end
mutual
theorem Ow.there {G : GC} {B H : Hp} : ∀ {v : V} {t : T} {f : List Addr}, Ow G B H v t f → ∀ a ∈ f, H a ≠ none
  | _, _, _, .val _, _, ha => by simp at ha
  | _, _, _, .lst h l, a, ha => by
    rcases List.mem_cons.mp ha with e | e
    · rw [e, h]; simp
    · exact OwL.there l a e
  | _, _, _, .dic h q l, a, ha => by
    rcases List.mem_cons.mp ha with e | e
    · rw [e, h]; simp
    · exact OwL.there l a e
  | _, _, _, .raw h _ _, a, ha => by
    rw [List.mem_singleton.mp ha, h]; simp
  | _, _, _, .xdc h _ _, a, ha => by
    rw [List.mem_singleton.mp ha, h]; simp
theorem OwL.there {G : GC} {B H : Hp} : ∀ {vs : List V} {ts : List T} {f : List Addr}, OwL G B H vs ts f → ∀ a ∈ f, H a ≠ none
  | _, _, _, .nil, _, ha => by simp at ha
  | _, _, _, .cons h t, a, ha => by
    rcases List.mem_append.mp ha with e | e
    · exact Ow.there h a e
    · exact OwL.there t a e
end
mutual
theorem Ow.obj {G : GC} {B H : Hp} : ∀ {v : V} {t : T} {f : List Addr}, Ow G B H v t f → ∀ a ∈ f, ∃ o, H a = some o ∧ ∀ ps, o ≠ .tbl ps
  | _, _, _, .val _, _, ha => by simp at ha
  | _, _, _, .lst h l, a, ha => by
    rcases List.mem_cons.mp ha with e | e
    · exact ⟨_, by rw [e]; exact h, fun _ z => by cases z⟩
    · exact OwL.obj l a e
  | _, _, _, .dic h q l, a, ha => by
    rcases List.mem_cons.mp ha with e | e
    · exact ⟨_, by rw [e]; exact h, fun _ z => by cases z⟩
    · exact OwL.obj l a e
  | _, _, _, .raw h n _, a, ha => by
    rw [List.mem_singleton.mp ha]
    exact ⟨_, h, n⟩
  | _, _, _, .xdc h _ _, a, ha => by
    rw [List.mem_singleton.mp ha]
    exact ⟨_, h, fun _ z => by cases z⟩
theorem OwL.obj {G : GC} {B H : Hp} : ∀ {vs : List V} {ts : List T} {f : List Addr}, OwL G B H vs ts f → ∀ a ∈ f, ∃ o, H a = some o ∧ ∀ ps, o ≠ .tbl ps
  | _, _, _, .nil, _, ha => by simp at ha
  | _, _, _, .cons h t, a, ha => by
    rcases List.mem_append.mp ha with e | e
    · exact Ow.obj h a e
    · exact OwL.obj t a e
end
theorem OwL.length {G : GC} {B H : Hp} : ∀ {vs : List V} {ts : List T} {f : List Addr}, OwL G B H vs ts f → vs.length = ts.length
  | _, _, _, .nil => rfl
  | _, _, _, .cons _ t => congrArg (· + 1) (OwL.length t)
/-! ## the state: pairs of a value and what it owns; a dead one has no tree -/
abbrev Pr := Option V × Option T
abbrev Env' := List (Option T)
inductive OwP (G : GC) (B H : Hp) : List Pr → List Addr → Prop
  | nil : OwP G B H [] []
  | dead {o : Option V} {L : List Pr} {g : List Addr} : OwP G B H L g → OwP G B H ((o, none) :: L) g
  | cons {v : V} {t : T} {L : List Pr} {f g : List Addr} : Ow G B H v t f → OwP G B H L g → OwP G B H ((some v, some t) :: L) (f ++ g)
/-- the tables of code objects, apart from all that is frozen -/
structure Tab (G : GC) (B H : Hp) : Prop where
  ok : LamX.Tabs G.tabs H
  nt : ∀ b ps, B b ≠ some (.tbl ps)
theorem Tab.up {G : GC} {B H : Hp} {p : Addr} {o : HO} (t : Tab G B H) (h : ∀ ps, H p ≠ some (.tbl ps)) (h2 : ∀ c q, H p ≠ some (LamX.CodeO c q)) : Tab G B (upd H p o) := by
  refine ⟨fun x hx => ?_, t.nt⟩
  obtain ⟨ps, e1, e2, e3⟩ := t.ok x hx
  refine ⟨ps, by rw [upd_ne (fun z => h ps (by rw [← z]; exact e1))]; exact e1, e2, fun pos cv hc => ?_⟩
  obtain ⟨c, f1, f2⟩ := e3 pos cv hc
  exact ⟨c, f1, by rw [upd_ne (fun z => h2 c x.2 (by rw [← z]; exact f2))]; exact f2⟩
theorem Tab.new {G : GC} {B H : Hp} {p : Addr} {o : HO} (t : Tab G B H) (h : H p = none) : Tab G B (upd H p o) := t.up (fun _ z => by rw [h] at z; cases z) fun _ _ z => by rw [h] at z; cases z
theorem Tab.same {G : GC} {B H H' : Hp} (t : Tab G B H) (k : ∀ b o, H b = some o → H' b = some o) : Tab G B H' := ⟨t.ok.ext k, t.nt⟩
structure Rs (G : GC) (B H : Hp) (L : List Pr) (fp : List Addr) : Prop where
  sub : Same B H
  ow : OwP G B H L fp
  nd : fp.Nodup
  out : ∀ a ∈ fp, B a = none
  tb : Tab G B H
def R (G : GC) (H : Hp) (L : List Pr) : Prop := ∃ B fp, Rs G B H L fp
theorem OwP.mono {G : GC} {B B' H H' : Hp} (e : Same B B') {L : List Pr} {f : List Addr} (h : OwP G B H L f) (k : ∀ a ∈ f, H' a = H a) : OwP G B' H' L f := by
  induction h with
  | nil => exact .nil
  | dead _ ih => exact .dead (ih k)
  | cons h _ ih => exact .cons (h.mono e fun a ha => k a (by simp [ha])) (ih fun a ha => k a (by simp [ha]))
theorem OwP.there {G : GC} {B H : Hp} {L : List Pr} {f : List Addr} (h : OwP G B H L f) : ∀ a ∈ f, H a ≠ none := by
  induction h with
  | nil => intro a ha; simp at ha
  | dead _ ih => exact ih
  | cons h _ ih =>
    intro a ha
    rcases List.mem_append.mp ha with e | e
    · exact h.there a e
    · exact ih a e
theorem OwP.perm {G : GC} {B H : Hp} {L L' : List Pr} (p : L.Perm L') : ∀ {f : List Addr}, OwP G B H L f → ∃ f', f.Perm f' ∧ OwP G B H L' f' := by
  induction p with
  | nil => intro f h; exact ⟨f, .refl _, h⟩
  | cons x _ ih =>
    intro f h
    cases h with
    | dead h => obtain ⟨f', p', q⟩ := ih h; exact ⟨f', p', .dead q⟩
    | cons a h => obtain ⟨f', p', q⟩ := ih h; exact ⟨_, p'.append_left _, .cons a q⟩
  | swap x y l =>
    intro f h
    cases h with
    | dead h =>
      cases h with
      | dead h => exact ⟨_, .refl _, .dead (.dead h)⟩
      | cons a h => exact ⟨_, .refl _, .cons a (.dead h)⟩
    | cons a h =>
      cases h with
      | dead h => exact ⟨_, .refl _, .dead (.cons a h)⟩
      | cons b h =>
        refine ⟨_, ?_, .cons b (.cons a h)⟩
        rw [← List.append_assoc, ← List.append_assoc]
        exact List.perm_append_comm.append_right _
  | trans _ _ ih1 ih2 =>
    intro f h
    obtain ⟨f1, p1, q1⟩ := ih1 h
    obtain ⟨f2, p2, q2⟩ := ih2 q1
    exact ⟨f2, p1.trans p2, q2⟩
section
variable {G : GC} {H H' B : Hp} {L L' : List Pr} {v : V} {o o' : Option V} {t : T} {d : D} {ds : List D} {ts : List T} {xs : List V} {p : Addr}
theorem R.perm (h : R G H L) (q : L.Perm L') : R G H L' := by
  obtain ⟨B, fp, r⟩ := h
  obtain ⟨f', p', w⟩ := OwP.perm q r.ow
  exact ⟨B, f', r.sub, w, p'.nodup_iff.mp r.nd, fun a ha => r.out a (p'.mem_iff.mpr ha), r.tb⟩
theorem R.drop (h : R G H ((o, some t) :: L)) : R G H L := by
  obtain ⟨B, fp, r⟩ := h
  obtain ⟨s, w, n, u, tb⟩ := r
  cases w with
  | cons a w => exact ⟨B, _, s, w, (List.nodup_append.mp n).2.1, fun x hx => u x (by simp [hx]), tb⟩
theorem R.dropN (h : R G H ((o, none) :: L)) : R G H L := by
  obtain ⟨B, fp, r⟩ := h
  obtain ⟨s, w, n, u, tb⟩ := r
  cases w with
  | dead w => exact ⟨B, _, s, w, n, u, tb⟩
theorem R.pop {q : Pr} (h : R G H (q :: L)) : R G H L := by
  obtain ⟨o, t⟩ := q
  cases t with
  | none => exact h.dropN
  | some t => exact h.drop
theorem R.dead (h : R G H L) : R G H ((o, none) :: L) := by
  obtain ⟨B, fp, r⟩ := h
  exact ⟨B, fp, r.sub, .dead r.ow, r.nd, r.out, r.tb⟩
/-- some of them -/
theorem R.take (h : R G H (L ++ L')) : R G H L' := by
  induction L with
  | nil => exact h
  | cons q L ih => exact ih h.pop
theorem R.there (h : R G H ((o, some t) :: L)) : ∃ v, o = some v := by
  obtain ⟨B, fp, r⟩ := h
  obtain ⟨s, w, n, u, tb⟩ := r
  cases w with
  | cons a w => exact ⟨_, rfl⟩
/-- a value that shows data over the frozen part -/
theorem R.push (h : R G H L) (s : ∀ B, Same B H → Sh G B v d) : R G H ((some v, some (.val d)) :: L) := by
  obtain ⟨B, fp, r⟩ := h
  exact ⟨B, [] ++ fp, r.sub, .cons (.val (s B r.sub)) r.ow, r.nd, r.out, r.tb⟩
theorem R.dup (h : R G H ((o, some (.val d)) :: L)) : R G H ((o, some (.val d)) :: (o, some (.val d)) :: L) := by
  obtain ⟨B, fp, r⟩ := h
  obtain ⟨s, w, n, u, tb⟩ := r
  cases w with
  | cons a w =>
    cases a with
    | val a => exact ⟨B, [] ++ ([] ++ _), s, .cons (.val a) (.cons (.val a) w), n, u, tb⟩
/-- a tuple's items, a list's -/
theorem R.openT (h : R G H ((o, some (.val (.tup ds))) :: L)) : ∃ p xs, o = some (.ref p) ∧ SqT G.K H p xs ∧ xs.length = ds.length ∧ ∀ (i : Nat) (d : D), ds[i]? = some d → ∃ v, xs[i]? = some v ∧ R G H ((some v, some (.val d)) :: (o, some (.val (.tup ds))) :: L) := by
  obtain ⟨B, fp, r⟩ := h
  obtain ⟨s, w, n, u, tb⟩ := r
  cases w with
  | cons a w =>
    cases a with
    | val a =>
      cases id a with
      | tup q l =>
        refine ⟨_, _, rfl, Same.sqt s q, l.length, fun i d e => ?_⟩
        obtain ⟨v, e1, e2⟩ := l.getD e
        exact ⟨v, e1, B, [] ++ ([] ++ _), s, .cons (.val e2) (.cons (.val a) w), n, u, tb⟩
theorem R.openL (h : R G H ((o, some (.val (.lst ds))) :: L)) : ∃ p xs, o = some (.ref p) ∧ H p = some (.lst xs) ∧ xs.length = ds.length ∧ ∀ (i : Nat) (d : D), ds[i]? = some d → ∃ v, xs[i]? = some v ∧ R G H ((some v, some (.val d)) :: (o, some (.val (.lst ds))) :: L) := by
  obtain ⟨B, fp, r⟩ := h
  obtain ⟨s, w, n, u, tb⟩ := r
  cases w with
  | cons a w =>
    cases a with
    | val a =>
      cases id a with
      | lst q l =>
        refine ⟨_, _, rfl, s _ _ q, l.length, fun i d e => ?_⟩
        obtain ⟨v, e1, e2⟩ := l.getD e
        exact ⟨v, e1, B, [] ++ ([] ++ _), s, .cons (.val e2) (.cons (.val a) w), n, u, tb⟩
/-- a value that shows data, as plain data -/
theorem R.shown (h : R G H ((o, some (.val d)) :: L)) : ∃ v B, o = some v ∧ Same B H ∧ Sh G B v d := by
  obtain ⟨B, fp, r⟩ := h
  obtain ⟨s, w, n, u, tb⟩ := r
  cases w with
  | cons a w =>
    cases a with
    | val a => exact ⟨_, B, rfl, s, a⟩
/-- pairs of values and trees -/
def prs (xs : List V) (ts : List T) : List Pr := List.zipWith (fun v t => (Option.some v, Option.some t)) xs ts
theorem owP_prs {fp f : List Addr} : ∀ {xs : List V} {ts : List T}, xs.length = ts.length → (OwP G B H (prs xs ts ++ L) fp ↔ ∃ f g, fp = f ++ g ∧ OwL G B H xs ts f ∧ OwP G B H L g)
  | [], [], _ => ⟨fun h => ⟨[], fp, rfl, .nil, h⟩, fun ⟨f, g, e, h1, h2⟩ => by cases h1; subst e; exact h2⟩
  | v :: xs, t :: ts, e => by
    have e' : xs.length = ts.length := Nat.succ.inj e
    constructor
    · intro h
      have h : OwP G B H ((some v, some t) :: (prs xs ts ++ L)) fp := h
      cases h with
      | cons a w =>
        obtain ⟨f, g, e1, h1, h2⟩ := (owP_prs (f := f) e').mp w
        subst e1
        exact ⟨_, g, (List.append_assoc ..).symm, .cons a h1, h2⟩
    · rintro ⟨f1, g, e1, h1, h2⟩
      cases h1 with
      | cons a w =>
        subst e1
        rw [List.append_assoc]
        exact .cons a ((owP_prs (f := f) e').mpr ⟨_, g, rfl, w, h2⟩)
  | [], _ :: _, e => by simp at e
  | _ :: _, [], e => by simp at e
/-- a new list is laid -/
theorem R.newL (h : R G H (prs xs ts ++ L)) (e : xs.length = ts.length) (hp : H p = none) : R G (upd H p (.lst xs)) ((some (.ref p), some (.lst ts)) :: L) := by
  obtain ⟨B, fp, s, w, n, u, tb⟩ := h
  obtain ⟨f, g, rfl, h1, h2⟩ := (owP_prs (f := []) e).mp w
  have nf : ∀ a ∈ f ++ g, a ≠ p := fun a ha z => w.there a ha (z ▸ hp)
  have k : ∀ a ∈ f ++ g, upd H p (.lst xs) a = H a := fun a ha => upd_ne (nf a ha)
  have sB : Same B (upd H p (.lst xs)) := fun b ob q => by
    rw [upd_ne (ne_of_none (s b ob q) hp)]; exact s b ob q
  have bp : B p = none := by
    cases q : B p with
    | none => rfl
    | some ob => have := s p ob q; rw [hp] at this; cases this
  refine ⟨B, (p :: f) ++ g, sB, .cons (.lst upd_same (h1.mono (Same.refl B) fun a ha => k a (by simp [ha]))) (h2.mono (Same.refl B) fun a ha => k a (by simp [ha])), ?_, ?_, tb.new hp⟩
  · rw [List.cons_append, List.nodup_cons]
    exact ⟨fun z => nf p z rfl, n⟩
  · intro a ha
    rw [List.cons_append] at ha
    rcases List.mem_cons.mp ha with z | z
    · rw [z]; exact bp
    · exact u a z
/-- all of them data -/
def vals (ds : List D) : List T := ds.map T.val
theorem owL_vals {f : List Addr} : ∀ {xs : List V} {ds : List D}, OwL G B H xs (vals ds) f → f = [] ∧ ShL G B xs ds
  | _, [], h => by cases h; exact ⟨rfl, .nil⟩
  | _, d :: ds, h => by
    have h : OwL G B H _ (.val d :: vals ds) f := h
    cases h with
    | cons a w =>
      cases a with
      | val a =>
        obtain ⟨e, q⟩ := owL_vals w
        subst e
        exact ⟨rfl, .cons a q⟩
theorem owL_of {xs : List V} {ds : List D} (h : ShL G B xs ds) : OwL G B H xs (vals ds) [] := by
  induction ds generalizing xs with
  | nil => cases h; exact .nil
  | cons d ds ih =>
    cases h with
    | cons a w => exact .cons (f := []) (g := []) (.val a) (ih w)
theorem vals_len (ds : List D) : (vals ds).length = ds.length := List.length_map ..
/-- a new tuple is laid -/
theorem R.newT (h : R G H (prs xs (vals ds) ++ L)) (e : xs.length = ds.length) (hp : H p = none) : R G (upd H p (.tup xs)) ((some (.ref p), some (.val (.tup ds))) :: L) := by
  obtain ⟨B, fp, s, w, n, u, tb⟩ := h
  obtain ⟨f, g, rfl, h1, h2⟩ := (owP_prs (f := []) (by rw [vals_len]; exact e)).mp w
  obtain ⟨rfl, sh⟩ := owL_vals h1
  have nf : ∀ a ∈ g, a ≠ p := fun a ha z => w.there a (by simpa using ha) (z ▸ hp)
  have bp : B p = none := by
    cases q : B p with
    | none => rfl
    | some ob => have := s p ob q; rw [hp] at this; cases this
  have sB : Same B (upd B p (.tup xs)) := fun b ob q => by
    rw [upd_ne (ne_of_none q bp)]; exact q
  refine ⟨upd B p (.tup xs), [] ++ g, fun b ob q => ?_, .cons (.val (.tup (.inl (.inl upd_same)) (sh.mono sB))) (h2.mono sB fun a ha => upd_ne (nf a ha)), n, fun a ha => ?_, ⟨(tb.new hp).ok, fun b ps q => ?_⟩⟩
  · by_cases hb : b = p
    · subst hb; rw [upd_same] at q ⊢; exact q
    · rw [upd_ne hb] at q ⊢; exact s b ob q
  · have ha : a ∈ g := ha
    rw [upd_ne (nf a ha)]; exact u a ha
  · by_cases hb : b = p
    · subst hb; rw [upd_same] at q; cases q
    · rw [upd_ne hb] at q; exact tb.nt b ps q
mutual
/-- the data of a tree -/
def T.frz : T → Option D
  | .val d => some d
  | .lst ts => (T.frzL ts).map D.lst
  | .dic ks ts => (T.frzL ts).map (D.dic ks)
  | .raw _ => none
  | .xdc _ _ => none
def T.frzL : List T → Option (List D)
  | [] => some []
  | t :: ts => (T.frz t).bind fun d => (T.frzL ts).map fun ds => d :: ds
end
mutual
theorem frz_ow (f : List Addr) (v : V) : ∀ (t : T) (d : D) (B : Hp), t.frz = some d → Ow G B H v t f → Same B H → f.Nodup → (∀ a ∈ f, B a = none) → ∃ B', Same B B' ∧ Same B' H ∧ Sh G B' v d ∧ (∀ a, B a = none → a ∉ f → B' a = none) ∧ ((∀ b ps, B b ≠ some (.tbl ps)) → ∀ b ps, B' b ≠ some (.tbl ps))
  | .val d, _, B, e, h, s, _, _ => by
    cases h with
    | val h =>
      simp only [T.frz, Option.some.injEq] at e
      subst e
      exact ⟨B, Same.refl B, s, h, fun a q _ => q, id⟩
  | .lst ts, d, B, e, h, s, n, u => by
    cases h with
    | @lst p xs _ g hp l =>
      simp only [T.frz, Option.map_eq_some_iff] at e
      obtain ⟨ds, e1, rfl⟩ := e
      obtain ⟨n1, n2⟩ := List.nodup_cons.mp n
      obtain ⟨B1, s1, s2, sh, k, nt⟩ := frzL_ow g xs ts ds B e1 l s n2 fun a ha => u a (by simp [ha])
      have b1 : B1 p = none := k p (u p (by simp)) n1
      have s3 : Same B1 (upd B1 p (.lst xs)) := fun b ob q => by
        rw [upd_ne (ne_of_none q b1)]; exact q
      refine ⟨upd B1 p (.lst xs), s1.trans s3, fun b ob q => ?_, .lst upd_same (sh.mono s3), fun a q na => ?_, fun h0 b ps q => ?_⟩
      · by_cases hb : b = p
        · subst hb; rw [upd_same] at q; cases q; exact hp
        · rw [upd_ne hb] at q; exact s2 b ob q
      · have ne : a ≠ p := fun z => na (by simp [z])
        rw [upd_ne ne]
        exact k a q fun z => na (by simp [z])
      · by_cases hb : b = p
        · subst hb; rw [upd_same] at q; cases q
        · rw [upd_ne hb] at q; exact nt h0 b ps q
  | .dic ks ts, d, B, e, h, s, n, u => by
    cases h with
    | @dic p _ xs _ g hp hq l =>
      simp only [T.frz, Option.map_eq_some_iff] at e
      obtain ⟨ds, e1, rfl⟩ := e
      obtain ⟨n1, n2⟩ := List.nodup_cons.mp n
      obtain ⟨B1, s1, s2, sh, k, nt⟩ := frzL_ow g xs ts ds B e1 l s n2 fun a ha => u a (by simp [ha])
      have b1 : B1 p = none := k p (u p (by simp)) n1
      have s3 : Same B1 (upd B1 p (.dK (ks.zip xs))) := fun b ob q => by
        rw [upd_ne (ne_of_none q b1)]; exact q
      refine ⟨upd B1 p (.dK (ks.zip xs)), s1.trans s3, fun b ob q => ?_, .dic upd_same hq (sh.mono s3), fun a q na => ?_, fun h0 b ps q => ?_⟩
      · by_cases hb : b = p
        · subst hb; rw [upd_same] at q; cases q; exact hp
        · rw [upd_ne hb] at q; exact s2 b ob q
      · have ne : a ≠ p := fun z => na (by simp [z])
        rw [upd_ne ne]
        exact k a q fun z => na (by simp [z])
      · by_cases hb : b = p
        · subst hb; rw [upd_same] at q; cases q
        · rw [upd_ne hb] at q; exact nt h0 b ps q
  | .raw _, d, B, e, h, s, n, u => by simp [T.frz] at e
  | .xdc _ _, d, B, e, h, s, n, u => by simp [T.frz] at e
theorem frzL_ow (f : List Addr) (xs : List V) : ∀ (ts : List T) (ds : List D) (B : Hp), T.frzL ts = some ds → OwL G B H xs ts f → Same B H → f.Nodup → (∀ a ∈ f, B a = none) → ∃ B', Same B B' ∧ Same B' H ∧ ShL G B' xs ds ∧ (∀ a, B a = none → a ∉ f → B' a = none) ∧ ((∀ b ps, B b ≠ some (.tbl ps)) → ∀ b ps, B' b ≠ some (.tbl ps))
  | [], ds, B, e, h, s, n, u => by
    cases h
    simp only [T.frzL, Option.some.injEq] at e
    subst e
    exact ⟨B, Same.refl B, s, .nil, fun a q _ => q, id⟩
  | t :: ts, ds, B, e, h, s, n, u => by
    cases h with
    | @cons v vs _ _ g1 g2 a l =>
      simp only [T.frzL, Option.bind_eq_some_iff, Option.map_eq_some_iff] at e
      obtain ⟨d, e1, ds', e2, rfl⟩ := e
      obtain ⟨n1, n2, n3⟩ := List.nodup_append.mp n
      obtain ⟨B1, s1, s2, sh, k, nt⟩ := frz_ow g1 v t d B e1 a s n1 fun a ha => u a (by simp [ha])
      have l1 : OwL G B1 H vs ts g2 := l.mono s1 fun _ _ => rfl
      obtain ⟨B2, s3, s4, sh2, k2, nt2⟩ := frzL_ow g2 vs ts ds' B1 e2 l1 s2 n2 fun a ha => k a (u a (by simp [ha])) fun z => n3 a z a ha rfl
      exact ⟨B2, s1.trans s3, s4, .cons (sh.mono s3) sh2, fun a q na => k2 a (k a q fun z => na (by simp [z])) fun z => na (by simp [z]), fun h0 => nt2 (nt h0)⟩
end
/-- frozen: from now on it is data -/
theorem R.frz (h : R G H ((o, some t) :: L)) (e : t.frz = some d) : R G H ((o, some (.val d)) :: L) := by
  obtain ⟨B, fp, s, w, n, u, tb⟩ := h
  cases w with
  | @cons v _ _ f g a w =>
    obtain ⟨n1, n2, n3⟩ := List.nodup_append.mp n
    obtain ⟨B', s1, s2, sh, k, nt⟩ := frz_ow f v t d B e a s n1 fun a ha => u a (by simp [ha])
    exact ⟨B', [] ++ g, s2, .cons (.val sh) (w.mono s1 fun _ _ => rfl), n2, fun a ha => k a (u a (by simp at ha; simp [ha])) fun z => n3 a z a ha rfl, ⟨tb.ok, nt tb.nt⟩⟩
/-- an own list: its object -/
theorem R.list (h : R G H ((o, some (.lst ts)) :: L)) : ∃ p xs, o = some (.ref p) ∧ H p = some (.lst xs) ∧ xs.length = ts.length := by
  obtain ⟨B, fp, s, w, n, u, tb⟩ := h
  cases w with
  | cons a w =>
    cases a with
    | lst hp l => exact ⟨_, _, rfl, hp, l.length⟩
/-- an own list is written anew, out of its items and the rest -/
theorem R.relist {ys : List V} {us : List T} {L2 L3 : List Pr} (h : R G H ((some (.ref p), some (.lst ts)) :: L)) (hp : H p = some (.lst xs)) (q : (prs xs ts ++ L).Perm (L3 ++ (prs ys us ++ L2))) (e : ys.length = us.length) :
    R G (upd H p (.lst ys)) ((some (.ref p), some (.lst us)) :: L2) := by
  obtain ⟨B, fp, s, w, n, u, tb⟩ := h
  cases w with
  | @cons _ _ _ f g a w =>
    cases a with
    | @lst _ xs' _ f' hp' l =>
      rw [hp] at hp'
      cases hp'
      obtain ⟨np, n'⟩ := List.nodup_cons.mp (show (p :: (f' ++ g)).Nodup from n)
      have w0 : OwP G B H (prs xs ts ++ L) (f' ++ g) := (owP_prs (f := []) l.length).mpr ⟨f', g, rfl, l, w⟩
      obtain ⟨k, pk, wk⟩ := OwP.perm q w0
      have strip : ∀ (M : List Pr) {k : List Addr}, OwP G B H (M ++ (prs ys us ++ L2)) k → ∃ k1 k2, k = k1 ++ k2 ∧ OwP G B H (prs ys us ++ L2) k2 := by
        intro M
        induction M with
        | nil => intro k h; exact ⟨[], k, rfl, h⟩
        | cons x M ih =>
          intro k h
          cases h with
          | dead h => exact ih h
          | cons a h =>
            obtain ⟨k1, k2, e, r⟩ := ih h
            subst e
            exact ⟨_ ++ k1, k2, (List.append_assoc ..).symm, r⟩
      obtain ⟨k1, k2, rfl, w2⟩ := strip L3 wk
      obtain ⟨a1, a2, rfl, o1, o2⟩ := (owP_prs (f := []) e).mp w2
      have nk : (k1 ++ (a1 ++ a2)).Nodup := pk.nodup_iff.mp n'
      have sub2 : ∀ a ∈ a1 ++ a2, a ∈ f' ++ g := fun a ha => pk.mem_iff.mpr (by simp at ha ⊢; rcases ha with z | z <;> simp [z])
      have ne : ∀ a ∈ a1 ++ a2, a ≠ p := fun a ha z => np (z ▸ sub2 a ha)
      have k' : ∀ a ∈ a1 ++ a2, upd H p (.lst ys) a = H a := fun a ha => upd_ne (ne a ha)
      have bp : B p = none := u p (by simp)
      refine ⟨B, (p :: a1) ++ a2, fun b ob z => ?_, .cons (.lst upd_same (o1.mono (Same.refl B) fun a ha => k' a (by simp [ha]))) (o2.mono (Same.refl B) fun a ha => k' a (by simp [ha])), ?_, ?_, tb.up (fun _ z => by rw [hp] at z; cases z) fun _ _ z => by rw [hp] at z; unfold LamX.CodeO at z; cases z⟩
      · rw [upd_ne (ne_of_none z bp)]; exact s b ob z
      · exact List.nodup_cons.mpr ⟨fun z => ne p z rfl, (List.nodup_append.mp nk).2.1⟩
      · intro a ha
        rcases List.mem_cons.mp (show a ∈ p :: (a1 ++ a2) from ha) with z | z
        · rw [z]; exact bp
        · exact u a (by simp; right; have := sub2 a z; simpa using this)
end
end FW
set_option Elab.async false
set_option linter.all false
set_option maxRecDepth 100000
namespace FW
open PySem PySem.Spec PyProof.Rows L2
/-! ## plain data -/
mutual
def D.py : D → PyData
  | .non => .none
  | .bl b => .bool b
  | .int i => .int i
  | .str x => .str x
  | .tup ds => .tuple (D.pyL ds)
  | .lst ds => .list (D.pyL ds)
  | .dic _ _ => .none
  | .scr _ => .none
  | .fn _ => .none
  | .ty _ => .none
  | .exc _ _ _ => .none
  | .clo _ _ => .none
def D.pyL : List D → List PyData
  | [] => []
  | d :: ds => D.py d :: D.pyL ds
end
mutual
/-- plain, at most n deep -/
def D.pl : D → Nat → Bool
  | .non, _ => true
  | .bl _, _ => true
  | .int _, _ => true
  | .str x, _ => PyData.strOk x
  | .tup ds, n => (match n with | 0 => false | n + 1 => D.plL ds n)
  | .lst ds, n => (match n with | 0 => false | n + 1 => D.plL ds n)
  | .dic _ _, _ => false
  | .scr _, _ => false
  | .fn _, _ => false
  | .ty _, _ => false
  | .exc _ _ _, _ => false
  | .clo _ _, _ => false
def D.plL : List D → Nat → Bool
  | [], _ => true
  | d :: ds, n => D.pl d n && D.plL ds n
end
def keyPy : Key → PyData
  | .inl i => .int i
  | .inr x => .str x
/-- with a dict on top -/
def D.pyd : D → PyData
  | .dic ks ds => .dict ((ks.map keyPy).zip (D.pyL ds))
  | d => d.py
def D.rok : D → Bool
  | .dic ks ds => decide (ks.length = ds.length) && D.plL ds 0
  | d => d.pl 20
def D.isNon : D → Bool
  | .non => true
  | _ => false
def D.isSeq : D → Bool
  | .tup _ => true
  | .lst _ => true
  | _ => false
def eqD (x y : D) : Bool := PyData.eqv x.py y.py
/-! ## the code: what a def says, names as slots -/
inductive Op2 where
  | add | sub | mul | mod | fdiv | pow | xor | band | bor
  | eq | ne | lt | le | gt | ge | isN | notN | isB | notB | isin | notin | idx
  deriving DecidableEq
inductive Op1 where
  | neg
  deriving DecidableEq
inductive Bf where
  | len | isi | tupl | list | abs | int | min2 | max2 | sum | all | any | repr | repA | minL | maxL
  deriving DecidableEq
/-- a contract: which parameters are handed by their slot; from the others' data and those trees: what is wanted of the result and of what they hold then, what is wanted of an exception -/
structure Con where
  io : List Bool
  gd : Bool := false
  kws : List (List Str × List Nat) := []
  run : List D → List T → (T → List T → Prop) → (D → List T → Prop) → Prop
inductive I where
  -- expressions
  | con (d : D) | var (i : Nat) | glob (x : Str) (i : Int) | fnv (x : Str)
  | op2 (o : Op2) (a b : I) | op1 (o : Op1) (a : I) | chain (o o' : Op2) (a b c : I)
  | tup (as : I) | lst (as : I)
  | slc (a : I) (lo hi : I) | onone | osome (a : I)
  | andv (a b : I) | orv (a b : I) | notv (a : I) | ite (c a b : I)
  | blt (f : Bf) (as : I)
  | call (x : Str) (c : Con) (as : I)
  | comp (g : I) (it : I) (cond : I) (elt : I)
  | mv (i : Nat) | pop (i : Nat) | revs (a : I) | dict (ks : List Str) (as : I) | dgetI (i : Nat) (k : Str) | dpop0 (i : Nat) (k : Str)
  | mkM (c : Str) (e : I) | mkX (c n : Str) (e : I) | mkK (c n : Str) (e : I) | cntT (a : I) | idxT (a : I) | ldict (a : I) | mulS (x : Str) (n : Nat) | keptV (cs : List (Str × Str)) (i : Nat)
  | caught (nets : List Str) (e : I) | isX (cls : Str) (tab : List (Str × Bool)) (e : I) | attrX (cs : List (Str × Str)) (e : I) (at_ : Str)
  | callK (x : Str) (c : Con) (as : I) (ks : List Str) (pm : List Nat) | callL (i : Nat) (tab : List (Str × Con)) (as : I)
  | lamV (f : CF) (j : Nat) (e : I) | caughtV (nets : List Str) (f : CF) (w : Nat) (tab : I) | compW (nets : List Str) (f : CF) (i w : Nat) (cls : Str) (xt : List (Str × Bool)) (tab : I)
  -- arguments
  | anil | acons (a r : I) | aref (i : Nat) (r : I)
  -- tests
  | tt | tand (a b : I) | tor (a b : I) | tnot (a : I) | tval (e : I) | tcmp (o : Op2) (a b : I) | tchain (o o' : Op2) (a b c : I) | tdne (i : Nat) (k : Str)
  -- what a for walks
  | iseq (a : I) | irng1 (a : I) | irng2 (a b : I) | irev (a : I)
  -- targets
  | gname (i : Nat) | gtup (is : List Nat)
  -- statements
  | snil | scons (s r : I)
  | asg (i : Nat) (e : I) | par (is : List Nat) (as : I) | asgT (is : List Nat) (e : I)
  | augI (i : Nat) (o : Op2) (e : I) | augS (i : Nat) (o : Op2) (k e : I) | setS (i : Nat) (k e : I) | dsetS (i : Nat) (k : Str) (e : I) | swapS (i : Nat) (e k l : I)
  | app (i : Nat) (e : I) | expr (e : I)
  | ife (c a b : I) | forS (g it b : I) | whileS (c b : I)
  | ret (e : I) | retN | raiseM (c : Str) | raiseI (c at_ : Str) (e : I) | tryK (c n : Str) (e : I) (i : Nat) (b : I) | brk | cont | pass
/-! ## what it means -/
def Lim : Nat := 1000000
def rng (lo : Int) (n : Nat) : List D := (List.range n).map fun (k : Nat) => D.int (lo + k)
/-- an operator by data -/
def opS2 (o : Op2) (x y : D) (P : T → Prop) : Prop :=
  match o with
  | .add => (match x, y with
    | .int i, .int j => P (.val (.int (i + j)))
    | .tup a, .tup b => a.length + b.length ≤ Lim ∧ P (.val (.tup (a ++ b)))
    | .lst a, .lst b => a.length + b.length ≤ Lim ∧ P (.lst (vals (a ++ b)))
    | _, _ => False)
  | .sub => (match x, y with
    | .int i, .int j => P (.val (.int (i - j)))
    | _, _ => False)
  | .mul => (match x, y with
    | .int i, .int j => ((-(2 ^ 64) < i ∧ i < 2 ^ 64) ∨ (-(2 ^ 64) < j ∧ j < 2 ^ 64)) ∧ P (.val (.int (i * j)))
    | .tup a, .int j => (1 ≤ j ∧ j ≤ 1000 ∧ a.length ≤ 1000) ∧ P (.val (.tup (List.replicate j.toNat a).flatten))
    | .lst a, .int j => j ≤ Lim ∧ -(Lim : Int) ≤ j ∧ a.length * j.toNat ≤ Lim ∧ P (.lst (vals (List.replicate j.toNat a).flatten))
    | _, _ => False)
  | .mod => (match x, y with
    | .int i, .int j => j ≠ 0 ∧ P (.val (.int (i.fmod j)))
    | _, _ => False)
  | .fdiv => (match x, y with
    | .int i, .int j => (j ≠ 0 ∧ j.natAbs < 1073741824) ∧ P (.val (.int (i.fdiv j)))
    | _, _ => False)
  | .pow => (match x, y with
    | .int i, .int j => (0 ≤ j ∧ j ≤ 1000000 ∧ i.natAbs < 2 ^ 64) ∧ P (.val (.int (i ^ j.toNat)))
    | _, _ => False)
  | .xor => (match x, y with
    | .int i, .int j => P (.val (.int (Builtin.bitXor i j)))
    | _, _ => False)
  | .band => (match x, y with
    | .int i, .int j => P (.val (.int (Builtin.bitAnd i j)))
    | _, _ => False)
  | .bor => (match x, y with
    | .int i, .int j => P (.val (.int (Builtin.bitOr i j)))
    | _, _ => False)
  | .eq => (match x, y with
    | .str a, .str b => P (.val (.bl (decide (a = b))))
    | _, _ => (x.pl 20 = true ∧ y.pl 20 = true) ∧ P (.val (.bl (eqD x y))))
  | .ne => (match x, y with
    | .str a, .str b => P (.val (.bl (!decide (a = b))))
    | _, _ => (x.pl 20 = true ∧ y.pl 20 = true) ∧ P (.val (.bl (!eqD x y))))
  | .isN => (match y with
    | .non => P (.val (.bl x.isNon))
    | _ => False)
  | .notN => (match y with
    | .non => P (.val (.bl (!x.isNon)))
    | _ => False)
  | .isB => (match x, y with
    | .bl a, .bl b => P (.val (.bl (decide (a = b))))
    | _, _ => False)
  | .notB => (match x, y with
    | .bl a, .bl b => P (.val (.bl (!decide (a = b))))
    | _, _ => False)
  | .lt => (match x, y with
    | .int i, .int j => P (.val (.bl (decide (i < j))))
    | _, _ => False)
  | .le => (match x, y with
    | .int i, .int j => P (.val (.bl (decide (i ≤ j))))
    | _, _ => False)
  | .gt => (match x, y with
    | .int i, .int j => P (.val (.bl (decide (j < i))))
    | _, _ => False)
  | .ge => (match x, y with
    | .int i, .int j => P (.val (.bl (decide (j ≤ i))))
    | _, _ => False)
  | .idx => (match x, y with
    | .tup a, .int i => ∃ d, atI a i = some d ∧ P (.val d)
    | .lst a, .int i => ∃ d, atI a i = some d ∧ P (.val d)
    | _, _ => False)
  | .isin => (match y with
    | .lst ds => (x.pl 20 = true ∧ (D.lst ds).pl 20 = true) ∧ P (.val (.bl (ds.any fun z => eqD z x)))
    | .tup ds => (x.pl 20 = true ∧ (D.tup ds).pl 20 = true) ∧ P (.val (.bl (ds.any fun z => eqD z x)))
    | _ => False)
  | .notin => (match y with
    | .lst ds => (x.pl 20 = true ∧ (D.lst ds).pl 20 = true) ∧ P (.val (.bl (!ds.any fun z => eqD z x)))
    | .tup ds => (x.pl 20 = true ∧ (D.tup ds).pl 20 = true) ∧ P (.val (.bl (!ds.any fun z => eqD z x)))
    | _ => False)
def opS1 (o : Op1) (x : D) (P : T → Prop) : Prop :=
  match o, x with
  | .neg, .int i => P (.val (.int (-i)))
  | _, _ => False
def D.isInst : D → String → Option Bool
  | .non, n => some (n == "NoneType")
  | .bl _, n => some (n == "bool" || n == "int")
  | .int _, n => some (n == "int")
  | .str _, n => some (n == "str")
  | .tup _, n => some (n == "tuple")
  | .lst _, n => some (n == "list")
  | .dic _ _, n => some (n == "dict")
  | _, _ => none
/-- the least one of ints, or of tuples of ints -/
def minS (ds : List D) (P : D → Prop) : Prop :=
  (∃ ns : List Int, ds = ns.map D.int ∧ ns ≠ [] ∧ ∀ m, m ∈ ns → (∀ y, y ∈ ns → m ≤ y) → P (.int m)) ∨
  (∃ rs : List (List Int), ds = rs.map (fun r => D.tup (r.map D.int)) ∧ rs ≠ [] ∧ ∀ m, m ∈ rs → (∀ y, y ∈ rs → ¬ y < m) → P (.tup (m.map D.int)))
/-- the greatest one of ints -/
def maxS (ds : List D) (P : D → Prop) : Prop := ∃ ns : List Int, ds = ns.map D.int ∧ ns ≠ [] ∧ ∀ m, m ∈ ns → (∀ y, y ∈ ns → y ≤ m) → P (.int m)
def bfS (f : Bf) (as : List D) (P : T → Prop) : Prop :=
  match f, as with
  | .len, [.tup a] => P (.val (.int a.length))
  | .len, [.lst a] => P (.val (.int a.length))
  | .len, [.scr a] => P (.val (.int a.length))
  | .isi, [x, .ty n] => (n = "int" ∨ n = "bool" ∨ n = "str" ∨ n = "tuple" ∨ n = "list") ∧ ∃ b, x.isInst n = some b ∧ P (.val (.bl b))
  | .tupl, [.tup a] => P (.val (.tup a))
  | .tupl, [.lst a] => P (.val (.tup a))
  | .list, [.tup a] => P (.lst (vals a))
  | .list, [.lst a] => P (.lst (vals a))
  | .all, [.lst a] => ∃ bs : List Bool, a = bs.map D.bl ∧ P (.val (.bl (bs.all id)))
  | .abs, [.int i] => P (.val (.int (if i < 0 then -i else i)))
  | .int, [.int i] => P (.val (.int i))
  | .int, [.bl i] => P (.val (.int (if i then 1 else 0)))
  | .min2, [.int i, .int j] => P (.val (.int (if j < i then j else i)))
  | .max2, [.int i, .int j] => P (.val (.int (if j > i then j else i)))
  | .repr, [x] => (x.isSeq = true ∧ x.pl 20 = true ∧ x.py.showable = true ∧ x.py.shown.length ≤ sizeLine) ∧ P (.val (.str x.py.shown))
  | .repA, [x] => (x.rok = true ∧ x.pyd.showable = true ∧ x.pyd.shown.length ≤ sizeLine) ∧ P (.val (.str x.pyd.shown))
  | .minL, [.lst a] => minS a fun d => P (.val d)
  | .maxL, [.lst a] => maxS a fun d => P (.val d)
  | .any, [.lst a] => ∃ bs : List Bool, a = bs.map D.bl ∧ P (.val (.bl (bs.any id)))
  | .sum, [.lst a] => ∃ ns : List Int, a = ns.map D.int ∧ P (.val (.int ns.sum))
  | _, _ => False
/-- truth -/
def D.truth : D → Option Bool
  | .non => some false
  | .bl b => some b
  | .int i => some (i != 0)
  | .str _ => none
  | .tup ds => some (!ds.isEmpty)
  | .lst ds => some (!ds.isEmpty)
  | _ => none
inductive Tok where
  | tmp (t : T) | slot (i : Nat)
/-- an own list all of whose items are data -/
def T.views : List T → Option (List D)
  | [] => some []
  | .val d :: ts => (T.views ts).map (d :: ·)
  | _ :: _ => none
def T.view : T → Option D
  | .val d => some d
  | .lst ts => (T.views ts).map D.lst
  | _ => none
def Tok.view (env : Env') : Tok → Option D
  | .tmp t => t.view
  | .slot i => (match env[i]? with | some (some t) => t.view | _ => none)
def viewAll (env : Env') : List Tok → Option (List D)
  | [] => some []
  | k :: ks => (k.view env).bind fun d => (viewAll env ks).map (d :: ·)
def getE (env : Env') : List Nat → Option (List T)
  | [] => some []
  | i :: is => (match env[i]? with | some (some t) => (getE env is).map (t :: ·) | _ => none)
def setE (env : Env') : List Nat → List T → Env'
  | i :: is, t :: ts => setE (env.set i (some t)) is ts
  | _, _ => env
/-- the value of a name: own lists are frozen by it -/
def useV (env : Env') (i : Nat) (Q : T → Env' → Prop) : Prop :=
  match env[i]? with
  | some (some t) => (match t with
    | .val d => Q (.val d) env
    | .lst ts => ∃ d, (T.lst ts).frz = some d ∧ Q (.val d) (env.set i (some (.val d)))
    | _ => False)
  | _ => False
def cutD {α : Type} (xs : List α) (lo hi : Option Int) : List α := (xs.drop (HT.sIx xs.length 0 lo)).take (HT.sIx xs.length xs.length hi - HT.sIx xs.length 0 lo)
abbrev KE := D → Env' → Prop
structure Po where
  nx : Env' → Prop
  rt : T → Env' → Prop
  bk : Env' → Prop := fun _ => False
  ct : Env' → Prop := fun _ => False
  ex : KE
def tgt : I → D → Env' → (Env' → Prop) → Prop
  | .gname i, d, env, Q => Q (env.set i (some (.val d)))
  | .gtup is, d, env, Q => ∃ ds, d = .tup ds ∧ ds.length = is.length ∧ Q (setE env is (vals ds))
  | _, _, _, _ => False
/-- the slots that are handed; which arguments are slots -/
def refs : I → List Nat
  | .acons _ r => refs r
  | .aref i r => i :: refs r
  | _ => []
def mask : I → List Bool
  | .acons _ r => false :: mask r
  | .aref _ r => true :: mask r
  | _ => []
/-- the slots that a comprehension's target binds are its own -/
def tgs : I → List Nat
  | .gname i => [i]
  | .gtup is => is
  | _ => []
/-- may the slot be stored by it -/
def asgd : I → Nat → Bool
  | .scons s r, j => asgd s j || asgd r j
  | .asg i _, j => i == j
  | .par is _, j => is.contains j
  | .asgT is _, j => is.contains j
  | .augI i _ _, j => i == j
  | .ife _ a b, j => asgd a j || asgd b j
  | .forS g _ b, j => (tgs g).contains j || asgd b j
  | .whileS _ b, j => asgd b j
  | .tryK _ _ _ i b, j => i == j || asgd b j
  | _, _ => false
def clr (env : Env') : List Nat → Env'
  | [] => env
  | i :: is => (clr env is).set i none
def ItOk (env : Env') (src : List Tok) (e : Env') : Prop := ∀ k ∈ src, ∀ i, k = .slot i → e[i]? = env[i]?
/-- an operand: a name stands for its slot -/
def opn (a : I) (f : Env' → (T → Env' → Prop) → KE → Prop) (env : Env') (Q : Tok → Env' → Prop) (E : KE) : Prop :=
  match a with
  | .var i => (∃ t, env[i]? = some (some t)) ∧ Q (.slot i) env
  | _ => f env (fun t e' => Q (.tmp t) e') E
def itS (x : D) (P : List D → Prop) : Prop := match x with
  | .tup ds => P ds
  | .lst ds => P ds
  | .scr ns => P (ns.map D.int)
  | _ => False
def itR (x : D) (P : List D → Prop) : Prop := match x with
  | .tup ds => P ds
  | .lst ds => P ds
  | _ => False
/-- the component of an own dict -/
def dAt (env : Env') (i : Nat) (k : Str) (P : List Key → List T → Nat → T → Prop) : Prop :=
  ∃ ks ts j t, env[i]? = some (some (.dic ks ts)) ∧ ks.Nodup ∧ ks.length = ts.length ∧ ks.length ≤ 1000 ∧ ks[j]? = some (.inr k) ∧ ts[j]? = some t ∧ P ks ts j t
/-- some of them are frozen -/
inductive FrzL : List T → List T → Prop
  | nil : FrzL [] []
  | keep {t : T} {ts us : List T} : FrzL ts us → FrzL (t :: ts) (t :: us)
  | frz {t : T} {d : D} {ts us : List T} : t.frz = some d → FrzL ts us → FrzL (t :: ts) (.val d :: us)
def pmL {α : Type} (pm : List Nat) (xs : List α) : List α := pm.filterMap fun j => xs[j]?
mutual
def wpE : I → Env' → (T → Env' → Prop) → KE → Prop
  | .con d, env, Q, _ => Q (.val d) env
  | .var i, env, Q, _ => useV env i Q
  | .mv i, env, Q, _ => ∃ t, env[i]? = some (some t) ∧ Q t (env.set i none)
  | .glob _ i, env, Q, _ => Q (.val (.int i)) env
  | .fnv x, env, Q, _ => Q (.val (.fn x)) env
  | .op2 o a b, env, Q, E => opn a (wpE a) env (fun ka e1 => opn b (wpE b) e1 (fun kb e2 => ∃ x y, ka.view e2 = some x ∧ kb.view e2 = some y ∧ opS2 o x y fun t => Q t e2) E) E
  | .op1 o a, env, Q, E => opn a (wpE a) env (fun ka e1 => ∃ x, ka.view e1 = some x ∧ opS1 o x fun t => Q t e1) E
  | .chain o o' a b c, env, Q, E => opn a (wpE a) env (fun ka e1 => opn b (wpE b) e1 (fun kb e2 => ∃ x y, ka.view e2 = some x ∧ kb.view e2 = some y ∧ opS2 o x y fun t =>
      ∃ k, t = .val (.bl k) ∧ if k = true then opn c (wpE c) e2 (fun kc e3 => ∃ y z, kb.view e3 = some y ∧ kc.view e3 = some z ∧ opS2 o' y z fun t' => Q t' e3) E else Q (.val (.bl false)) e2) E) E
  | .tup as, env, Q, E => wpA as env (fun ds e => ds.length ≤ Lim ∧ Q (.val (.tup ds)) e) E
  | .lst as, env, Q, E => wpA as env (fun ds e => ds.length ≤ Lim ∧ Q (.lst (vals ds)) e) E
  | .slc a lo hi, env, Q, E => opn a (wpE a) env (fun ka e1 => wpB lo e1 (fun l e2 => wpB hi e2 (fun h e3 => ∃ x, ka.view e3 = some x ∧ match x with
      | .tup ds => Q (.val (.tup (cutD ds l h))) e3
      | .lst ds => Q (.lst (vals (cutD ds l h))) e3
      | _ => False) E) E) E
  | .andv a b, env, Q, E => wpE a env (fun t e1 => ∃ k, t = .val (.bl k) ∧ if k = true then wpE b e1 Q E else Q (.val (.bl false)) e1) E
  | .orv a b, env, Q, E => wpE a env (fun t e1 => ∃ k, t = .val (.bl k) ∧ if k = true then Q (.val (.bl true)) e1 else wpE b e1 Q E) E
  | .notv a, env, Q, E => wpE a env (fun t e1 => ∃ k, t = .val (.bl k) ∧ Q (.val (.bl (!k))) e1) E
  | .ite c a b, env, Q, E => wpT c env (fun k e1 => if k = true then wpE a e1 Q E else wpE b e1 Q E) E
  | .blt f as, env, Q, E => wpOs as env (fun ks e => ∃ ds, viewAll e ks = some ds ∧ bfS f ds fun t => Q t e) E
  | .call _ c as, env, Q, E => wpA as env (fun ds e => (match refs as with
      | [] => c.run ds [] (fun r _ => Q r e) (fun x _ => E x e)
      | [i] => ∃ t, e[i]? = some (some t) ∧ c.run ds [t] (fun r ts' => ∃ t', ts' = [t'] ∧ Q r (e.set i (some t'))) (fun x ts' => ∃ t', ts' = [t'] ∧ E x (e.set i (some t')))
      | _ => False)) E
  | .comp g it cond elt, env, Q, _ => wpI it env (fun src items e0 => ∃ J : Nat → List T → Env' → Prop, J 0 [] (clr e0 (tgs g)) ∧
      (∀ n acc e, J n acc e → ItOk e0 src e ∧ clr e (tgs g) = e ∧ acc.length ≤ Lim) ∧
      (∀ n acc e d, J n acc e → items[n]? = some d → tgt g d e fun e1 => wpT cond e1 (fun k e2 => if k = true then wpE elt e2 (fun t e3 => J (n + 1) (acc ++ [t]) (clr e3 (tgs g))) (fun _ _ => False) else J (n + 1) acc (clr e2 (tgs g))) fun _ _ => False) ∧
      ∀ acc e, J items.length acc e → Q (.lst acc) e) fun _ _ => False
  | .pop i, env, Q, _ => ∃ ts t, env[i]? = some (some (.lst (ts ++ [t]))) ∧ Q t (env.set i (some (.lst ts)))
  | .revs a, env, Q, E => opn a (wpE a) env (fun ka e1 => ∃ x, ka.view e1 = some x ∧ match x with
      | .tup ds => Q (.val (.tup ds.reverse)) e1
      | .lst ds => Q (.lst (vals ds.reverse)) e1
      | _ => False) E
  | .dict ks as, env, Q, E => wpP as env (fun ts e => ts.length = ks.length ∧ ∃ us, FrzL ts us ∧ Q (.dic (ks.map .inr) us) e) E
  | .dgetI i k, env, Q, _ => dAt env i k fun _ _ _ t => ∃ d, t = .val d ∧ Q t env
  | .dpop0 i k, env, Q, _ => dAt env i k fun ks ts j t => ∃ u us, t = .lst (u :: us) ∧ Q u (env.set i (some (.dic ks (ts.set j (.lst us)))))
  | .caught nets e, env, Q, _ => wpE e env (fun _ e' => Q (.val .non) e') fun x e' => ∃ c ns ds, x = .exc c ns ds ∧ c ∈ nets ∧ Q (.val (.exc c ns ds)) e'
  | .mkM c e, env, Q, E => wpE e env (fun _ e' => Q (.val (.exc c [] [])) e') E
  | .mkX c n e, env, Q, E => wpE e env (fun t e' => ∃ d, t.frz = some d ∧ Q (.val (.exc c [n] [d])) e') E
  | .mkK c n e, env, Q, E => wpE e env (fun t e' => ∃ d, t.frz = some d ∧ Q (.val (.exc c [n] [d])) e') E
  | .cntT a, env, Q, E => wpE a env (fun t e' => ∃ ds, t.view = some (.lst ds) ∧ (D.lst ds).pl 20 = true ∧ Q (.val (.int (ds.countP fun z => eqD z (.bl true) : Nat))) e') E
  | .idxT a, env, Q, E => wpE a env (fun t e' => ∃ ds j z, t.view = some (.lst ds) ∧ (D.lst ds).pl 20 = true ∧ ds[j]? = some z ∧ eqD z (.bl true) = true ∧ (∀ (m : Nat) (z' : D), m < j → ds[m]? = some z' → eqD z' (.bl true) = false) ∧ Q (.val (.int (j : Nat))) e') E
  | .ldict a, env, Q, E => wpE a env (fun t e' => ∃ ns : List Int, t.view = some (.lst (ns.map fun i => .tup [.int i, .bl true])) ∧ ns.Nodup ∧ Q (.val (.int (ns.length : Nat))) e') E
  | .mulS x n, env, Q, _ => (x.length ≤ 16 ∧ n ≤ 1000) ∧ Q (.val (.str (Txt.mul x (n : Nat)))) env
  | .keptV cs i, env, Q, _ => ∃ c n d, env[i]? = some (some (.val (.exc c [n] [d]))) ∧ (c, n) ∈ cs ∧ Q (.val d) env
  | .isX _ tab e, env, Q, E => wpE e env (fun t e' => (t = .val .non ∧ Q (.val (.bl false)) e') ∨ ∃ c ns ds b, t = .val (.exc c ns ds) ∧ (c, b) ∈ tab ∧ Q (.val (.bl b)) e') E
  | .attrX cs e n, env, Q, E => wpE e env (fun t e' => ∃ c d, t = .val (.exc c [n] [d]) ∧ (c, n) ∈ cs ∧ Q (.val d) e') E
  | .callK _ c as _ pm, env, Q, E => wpA as env (fun ds e => c.run (pmL pm ds) [] (fun r _ => Q r e) (fun x _ => E x e)) E
  | .callL i tab as, env, Q, E => ∃ x cn, env[i]? = some (some (.val (.fn x))) ∧ (x, cn) ∈ tab ∧ wpA as env (fun ds e => cn.run ds [] (fun r _ => Q r e) (fun x _ => E x e)) E
  | .lamV f j _, env, Q, _ => Q (.val (.clo f j)) env
  | .caughtV nets f w tab, env, Q, _ => ∃ j, env[w]? = some (some (.val (.clo f j))) ∧ wpJ tab j env (fun _ e' => Q (.val .non) e') fun x e' => ∃ c ns ds, x = .exc c ns ds ∧ c ∈ nets ∧ Q (.val (.exc c ns ds)) e'
  | .compW nets f i w _ xt tab, env, Q, _ => ∃ js : List Nat, env[i]? = some (some (.lst (vals (js.map (D.clo f))))) ∧ js.length ≤ Lim ∧ (i ≠ w ∧ w < env.length) ∧ ∃ J : Nat → Nat → Env' → Prop, J 0 0 (env.set w none) ∧
      (∀ n m e, J n m e → e[i]? = env[i]? ∧ e.set w none = e ∧ m ≤ n) ∧
      (∀ n m e j, J n m e → js[n]? = some j → wpJ tab j e (fun _ e' => J (n + 1) (m + 1) (e'.set w none)) fun x e' => ∃ c ns ds b, x = .exc c ns ds ∧ c ∈ nets ∧ (c, b) ∈ xt ∧ J (n + 1) (if b = true then m else m + 1) (e'.set w none)) ∧
      ∀ m e, J js.length m e → Q (.lst (vals (List.replicate m (.int 1)))) e
  | _, _, _, _ => False
/-- the body of the j-th closure -/
def wpJ : I → Nat → Env' → (T → Env' → Prop) → KE → Prop
  | .acons b _, 0, env, Q, E => wpE b env Q E
  | .acons _ r, j + 1, env, Q, E => wpJ r j env Q E
  | _, _, _, _, _ => False
def wpOs : I → Env' → (List Tok → Env' → Prop) → KE → Prop
  | .anil, env, Q, _ => Q [] env
  | .acons a r, env, Q, E => opn a (wpE a) env (fun k e1 => wpOs r e1 (fun ks e2 => Q (k :: ks) e2) E) E
  | _, _, _, _ => False
/-- arguments: data, in the end -/
def wpA : I → Env' → (List D → Env' → Prop) → KE → Prop
  | .anil, env, Q, _ => Q [] env
  | .acons a r, env, Q, E => wpE a env (fun t e1 => ∃ d, t.frz = some d ∧ wpA r e1 (fun ds e2 => Q (d :: ds) e2) E) E
  | .aref i r, env, Q, E => (∃ t, env[i]? = some (some t)) ∧ wpA r env Q E
  | _, _, _, _ => False
def wpB : I → Env' → (Option Int → Env' → Prop) → KE → Prop
  | .onone, env, Q, _ => Q none env
  | .osome a, env, Q, E => wpE a env (fun t e1 => ∃ i, t = .val (.int i) ∧ Q (some i) e1) E
  | _, _, _, _ => False
def wpT : I → Env' → (Bool → Env' → Prop) → KE → Prop
  | .tt, env, Q, _ => Q true env
  | .tand a b, env, Q, E => wpT a env (fun k e1 => if k = true then wpT b e1 Q E else Q false e1) E
  | .tor a b, env, Q, E => wpT a env (fun k e1 => if k = true then Q true e1 else wpT b e1 Q E) E
  | .tnot a, env, Q, E => wpT a env (fun k e1 => Q (!k) e1) E
  | .tcmp o a b, env, Q, E => opn a (wpE a) env (fun ka e1 => opn b (wpE b) e1 (fun kb e2 => ∃ x y, ka.view e2 = some x ∧ kb.view e2 = some y ∧ opS2 o x y fun t => ∃ k, t = .val (.bl k) ∧ Q k e2) E) E
  | .tchain o o' a b c, env, Q, E => opn a (wpE a) env (fun ka e1 => opn b (wpE b) e1 (fun kb e2 => ∃ x y, ka.view e2 = some x ∧ kb.view e2 = some y ∧ opS2 o x y fun t =>
      ∃ k, t = .val (.bl k) ∧ if k = true then opn c (wpE c) e2 (fun kc e3 => ∃ y z, kb.view e3 = some y ∧ kc.view e3 = some z ∧ opS2 o' y z fun t' => ∃ k', t' = .val (.bl k') ∧ Q k' e3) E else Q false e2) E) E
  | .tdne i k, env, Q, _ => dAt env i k fun _ _ _ t => ∃ ds, t = .lst (vals ds) ∧ D.plL ds 19 = true ∧ Q (!ds.isEmpty) env
  | .tval a, env, Q, E => opn a (wpE a) env (fun ka e1 => ∃ x k, ka.view e1 = some x ∧ x.truth = some k ∧ Q k e1) E
  | _, _, _, _ => False
/-- what is walked: the things that must stay, the items -/
def wpI : I → Env' → (List Tok → List D → Env' → Prop) → KE → Prop
  | .iseq a, env, Q, E => opn a (wpE a) env (fun ka e1 => ∃ x, ka.view e1 = some x ∧ itS x fun ds => Q [ka] ds e1) E
  | .irev a, env, Q, E => opn a (wpE a) env (fun ka e1 => ∃ x, ka.view e1 = some x ∧ itR x fun ds => Q [ka] ds.reverse e1) E
  | .irng1 a, env, Q, E => wpE a env (fun t e1 => ∃ i, t = .val (.int i) ∧ (-(Lim : Int) ≤ i ∧ i ≤ Lim) ∧ Q [] (rng 0 i.toNat) e1) E
  | .irng2 a b, env, Q, E => wpE a env (fun t e1 => wpE b e1 (fun t' e2 => ∃ i j, t = .val (.int i) ∧ t' = .val (.int j) ∧ (-(Lim : Int) ≤ i ∧ i ≤ Lim ∧ -(Lim : Int) ≤ j ∧ j ≤ Lim) ∧ Q [] (rng i (j - i).toNat) e2) E) E
  | _, _, _, _ => False
def wpS : I → Env' → Po → Prop
  | .snil, env, P => P.nx env
  | .scons s r, env, P => wpS s env { P with nx := fun e => wpS r e P }
  | .asg i e, env, P => wpE e env (fun t e1 => P.nx (e1.set i (some t))) P.ex
  | .par is as, env, P => wpP as env (fun ts e1 => ts.length = is.length ∧ P.nx (setE e1 is ts)) P.ex
  | .asgT is e, env, P => wpE e env (fun t e1 => ∃ ds, t = .val (.tup ds) ∧ ds.length = is.length ∧ P.nx (setE e1 is (vals ds))) P.ex
  | .augI i o e, env, P => ∃ x, env[i]? = some (some (.val (.int x))) ∧ wpE e env (fun t e1 => ∃ y, t = .val (.int y) ∧ opS2 o (.int x) (.int y) fun t' => P.nx (e1.set i (some t'))) P.ex
  | .augS i o k e, env, P => (∃ ts, env[i]? = some (some (.lst ts))) ∧ wpE k env (fun t e1 => ∃ j ts x, t = .val (.int j) ∧ 0 ≤ j ∧ e1[i]? = some (some (.lst ts)) ∧ ts[j.toNat]? = some (.val (.int x)) ∧
      wpE e e1 (fun t2 e2 => ∃ y, t2 = .val (.int y) ∧ e2[i]? = some (some (.lst ts)) ∧ opS2 o (.int x) (.int y) fun t' => P.nx (e2.set i (some (.lst (ts.set j.toNat t'))))) P.ex) P.ex
  | .setS i k e, env, P => wpE e env (fun t0 e1 => (∃ ts, e1[i]? = some (some (.lst ts))) ∧ wpE k e1 (fun t e2 => ∃ j ts, t = .val (.int j) ∧ 0 ≤ j ∧ j < ts.length ∧ e2[i]? = some (some (.lst ts)) ∧ P.nx (e2.set i (some (.lst (ts.set j.toNat t0))))) P.ex) P.ex
  | .swapS i e k l, env, P => wpE e env (fun t e1 => ∃ y x, t = .val (.tup [y, x]) ∧ (∃ ts, e1[i]? = some (some (.lst ts))) ∧ wpE k e1 (fun t1 e2 => ∃ j ts a, t1 = .val (.int j) ∧ e2[i]? = some (some (.lst ts)) ∧ ixN ts.length j = some a ∧
      wpE l (e2.set i (some (.lst (ts.set a (.val y))))) (fun t2 e3 => ∃ m us b, t2 = .val (.int m) ∧ e3[i]? = some (some (.lst us)) ∧ ixN us.length m = some b ∧ P.nx (e3.set i (some (.lst (us.set b (.val x)))))) P.ex) P.ex) P.ex
  | .dsetS i k e, env, P => wpE e env (fun t e1 => dAt e1 i k fun ks ts j _ => P.nx (e1.set i (some (.dic ks (ts.set j t))))) P.ex
  | .app i e, env, P => (∃ ts, env[i]? = some (some (.lst ts))) ∧ wpE e env (fun t e1 => ∃ ts, e1[i]? = some (some (.lst ts)) ∧ ts.length < Lim ∧ P.nx (e1.set i (some (.lst (ts ++ [t]))))) P.ex
  | .expr e, env, P => wpE e env (fun _ e1 => P.nx e1) P.ex
  | .ife c a b, env, P => wpT c env (fun k e1 => if k = true then wpS a e1 P else wpS b e1 P) P.ex
  | .forS g it b, env, P => wpI it env (fun src items e0 => (∀ i, .slot i ∈ src → (tgs g).contains i = false ∧ asgd b i = false) ∧ ∃ J : Nat → Env' → Prop, J 0 e0 ∧ (∀ n e, J n e → ItOk e0 src e) ∧
      (∀ n e d, J n e → items[n]? = some d → tgt g d e fun e1 => wpS b e1 { P with nx := J (n + 1), ct := J (n + 1), bk := P.nx }) ∧ ∀ e, J items.length e → P.nx e) P.ex
  | .whileS c b, env, P => ∃ J : Nat → Env' → Prop, (∃ m, J m env) ∧ ∀ m e, J m e → wpT c e (fun k e1 => if k = true then wpS b e1 { P with nx := fun e2 => ∃ m', m' < m ∧ J m' e2, ct := fun e2 => ∃ m', m' < m ∧ J m' e2, bk := P.nx } else P.nx e1) P.ex
  | .ret e, env, P => wpE e env P.rt P.ex
  | .retN, env, P => P.rt (.val .non) env
  | .raiseM c, env, P => P.ex (.exc c [] []) env
  | .raiseI c n e, env, P => wpE e env (fun t e1 => ∃ d, t.frz = some d ∧ P.ex (.exc c [n] [d]) e1) P.ex
  | .tryK c n e i b, env, P => wpE e env (fun t e1 => ∃ d, t.frz = some d ∧ wpS b (e1.set i (some (.val (.exc c [n] [d])))) { nx := fun e2 => P.nx (e2.set i none), rt := fun _ _ => False, ex := fun _ _ => False }) P.ex
  | .brk, env, P => P.bk env
  | .cont, env, P => P.ct env
  | .pass, env, P => P.nx env
  | _, _, _ => False
def wpP : I → Env' → (List T → Env' → Prop) → KE → Prop
  | .anil, env, Q, _ => Q [] env
  | .acons a r, env, Q, E => wpE a env (fun t e1 => wpP r e1 (fun ts e2 => Q (t :: ts) e2) E) E
  | _, _, _, _ => False
end
end FW
set_option Elab.async false
set_option linter.all false
set_option maxRecDepth 100000
set_option maxHeartbeats 1000000
namespace FW
open PySem PySem.Spec PyProof.Rows L2
/-! ## the operators, over the heap -/
section
variable {G : GC} {H H' B : Hp} {L L' A C : List Pr} {v x y : V} {o : Option V} {t tx ty' : T} {d dx dy : D} {ds : List D} {ts : List T} {xs : List V} {p : Addr}
theorem R.mid (h : R G H (A ++ (C ++ L))) : R G H (C ++ (A ++ L)) := h.perm (by rw [← List.append_assoc, ← List.append_assoc]; exact List.perm_append_comm.append_right L)
theorem R.cut (h : R G H (A ++ (C ++ L))) : R G H (A ++ L) := R.take (L := C) h.mid
theorem R.mem {q : Pr} (h : R G H L) (m : q ∈ L) : ∃ L', R G H (q :: L') ∧ (q :: L').Perm L := by
  obtain ⟨a, b, e⟩ := List.append_of_mem m
  refine ⟨a ++ b, h.perm ?_, ?_⟩
  · rw [e]; exact List.perm_middle
  · rw [e]; exact List.perm_middle.symm
theorem views_eq : ∀ {ts : List T} {ds : List D}, T.views ts = some ds → ts = vals ds
  | [], ds, e => by simp [T.views] at e; subst e; rfl
  | .val d :: ts, ds, e => by
    simp only [T.views, Option.map_eq_some_iff] at e
    obtain ⟨ds', e1, rfl⟩ := e
    rw [views_eq e1]; rfl
  | .lst _ :: _, _, e => by simp [T.views] at e
  | .dic _ _ :: _, _, e => by simp [T.views] at e
  | .raw _ :: _, _, e => by simp [T.views] at e
  | .xdc _ _ :: _, _, e => by simp [T.views] at e
theorem views_vals : ∀ (ds : List D), T.views (vals ds) = some ds
  | [] => rfl
  | d :: ds => by
    have := views_vals ds
    show (T.views (vals ds)).map (d :: ·) = _
    rw [this]; rfl
theorem view_vals (ds : List D) : (T.lst (vals ds)).view = some (.lst ds) := by
  show (T.views (vals ds)).map D.lst = _
  rw [views_vals]; rfl
/-- data pushed: a copy of what is shown -/
theorem R.pushB (h : ∃ B fp, Rs G B H L fp ∧ Sh G B v d) : R G H ((some v, some (.val d)) :: L) := by
  obtain ⟨B, fp, r, s⟩ := h
  exact ⟨B, [] ++ fp, r.sub, .cons (.val s) r.ow, r.nd, r.out, r.tb⟩
theorem R.pushLB : ∀ {xs : List V} {ds : List D}, (∃ B fp, Rs G B H L fp ∧ ShL G B xs ds) → R G H (prs xs (vals ds) ++ L)
  | xs, ds, ⟨B, fp, r, s⟩ => ⟨B, [] ++ fp, r.sub, (owP_prs (f := []) (by rw [vals_len]; exact s.length)).mpr ⟨[], fp, rfl, owL_of s, r.ow⟩, r.nd, r.out, r.tb⟩
/-- what a member that is data or an own list of data shows -/
inductive Vw (G : GC) (H : Hp) (L : List Pr) (v : V) : T → D → Prop
  | val {d : D} : (∃ B fp, Rs G B H L fp ∧ Sh G B v d) → Vw G H L v (.val d) d
  | own {p : Addr} {xs : List V} {ds : List D} : v = .ref p → H p = some (.lst xs) → (∃ B fp, Rs G B H L fp ∧ ShL G B xs ds) → Vw G H L v (.lst (vals ds)) (.lst ds)
theorem R.vw (h : R G H L) (m : (some v, some t) ∈ L) (e : t.view = some d) : Vw G H L v t d := by
  obtain ⟨L', h', pm⟩ := h.mem m
  obtain ⟨B, fp, s, w, n, u, tb⟩ := h'
  have back : ∃ f', fp.Perm f' ∧ OwP G B H L f' := OwP.perm pm w
  obtain ⟨f', pf, w'⟩ := back
  have rs : Rs G B H L f' := ⟨s, w', pf.nodup_iff.mp n, fun a ha => u a (pf.mem_iff.mpr ha), tb⟩
  cases w with
  | cons a w =>
    cases a with
    | val a =>
      have e : d = _ := (Option.some.inj e).symm
      subst e
      exact .val ⟨B, f', rs, a⟩
    | lst hp l =>
      simp only [T.view, Option.map_eq_some_iff] at e
      obtain ⟨ds, e1, rfl⟩ := e
      have e2 := views_eq e1
      subst e2
      exact .own rfl hp ⟨B, f', rs, (owL_vals l).2⟩
    | dic _ _ _ => simp [T.view] at e
    | raw _ _ _ => simp [T.view] at e
    | xdc _ _ _ => simp [T.view] at e
theorem R.int {i : Int} (h : R G H L) (m : (some v, some t) ∈ L) (e : t.view = some (.int i)) : v = .int i := by
  cases h.vw m e with
  | val z => obtain ⟨_, _, _, s⟩ := z; cases s; rfl
theorem R.bl {i : Bool} (h : R G H L) (m : (some v, some t) ∈ L) (e : t.view = some (.bl i)) : v = .bl i := by
  cases h.vw m e with
  | val z => obtain ⟨_, _, _, s⟩ := z; cases s; rfl
theorem R.str {i : Str} (h : R G H L) (m : (some v, some t) ∈ L) (e : t.view = some (.str i)) : v = .str i := by
  cases h.vw m e with
  | val z => obtain ⟨_, _, _, s⟩ := z; cases s; rfl
theorem R.non (h : R G H L) (m : (some v, some t) ∈ L) (e : t.view = some .non) : v = .non := by
  cases h.vw m e with
  | val z => obtain ⟨_, _, _, s⟩ := z; cases s; rfl
theorem R.tyV {i : String} (h : R G H L) (m : (some v, some t) ∈ L) (e : t.view = some (.ty i)) : v = .ty i := by
  cases h.vw m e with
  | val z => obtain ⟨_, _, _, s⟩ := z; cases s; rfl
/-- a tuple: its object, its items -/
theorem R.tupV (h : R G H L) (m : (some v, some t) ∈ L) (e : t.view = some (.tup ds)) : ∃ p xs, v = .ref p ∧ SqT G.K H p xs ∧ xs.length = ds.length ∧ (∃ B fp, Rs G B H L fp ∧ ShL G B xs ds) := by
  cases h.vw m e with
  | val z =>
    obtain ⟨B, fp, r, s⟩ := z
    cases s with
    | tup q l => exact ⟨_, _, rfl, Same.sqt r.sub q, l.length, B, fp, r, l⟩
theorem R.lstV (h : R G H L) (m : (some v, some t) ∈ L) (e : t.view = some (.lst ds)) : ∃ p xs, v = .ref p ∧ H p = some (.lst xs) ∧ xs.length = ds.length ∧ (∃ B fp, Rs G B H L fp ∧ ShL G B xs ds) := by
  cases h.vw m e with
  | val z =>
    obtain ⟨B, fp, r, s⟩ := z
    cases s with
    | lst q l => exact ⟨_, _, rfl, r.sub _ _ q, l.length, B, fp, r, l⟩
  | own e1 hp z =>
    obtain ⟨B, fp, r, l⟩ := z
    exact ⟨_, _, e1, hp, l.length, B, fp, r, l⟩
theorem R.itemB {i : Nat} (z : ∃ B fp, Rs G B H L fp ∧ ShL G B xs ds) (e : ds[i]? = some d) : ∃ v, xs[i]? = some v ∧ R G H ((some v, some (.val d)) :: L) := by
  obtain ⟨B, fp, r, l⟩ := z
  obtain ⟨v, e1, e2⟩ := l.getD e
  exact ⟨v, e1, R.pushB ⟨B, fp, r, e2⟩⟩
/-- a scalar pushed -/
theorem R.pInt (h : R G H L) (i : Int) : R G H ((some (.int i), some (.val (.int i))) :: L) := h.push fun _ _ => .int i
theorem R.pBl (h : R G H L) (i : Bool) : R G H ((some (.bl i), some (.val (.bl i))) :: L) := h.push fun _ _ => .bl i
theorem lim_line {n : Nat} (h : n ≤ Lim) : n ≤ sizeLine := Nat.le_trans h (by decide)
theorem lim_lt {n : Nat} (h : n < Lim) : n < sizeLine := Nat.lt_of_lt_of_le h (by decide)
theorem sh_flat {B : Hp} {v : V} {d : D} {P : D → Prop} (s : Sh G B v d) : True := trivial
/-- plain data -/
theorem shaped_of_pl {d : D} (h : d.pl 20 = true) : SeqAt.shaped d.py = true := by
  have key : ∀ (n : Nat), (∀ d : D, d.pl n = true → d.py.canLay0 = true ∧ d.py.depth ≤ n) := by
    intro n
    induction n with
    | zero =>
      intro d h
      cases d <;> simp_all [D.pl, D.py, PyData.canLay0, PyData.depth]
    | succ n ih =>
      have all : ∀ ds : List D, D.plL ds n = true → PyData.canLayAll0 (D.pyL ds) = true ∧ PyData.depthAll (D.pyL ds) ≤ n := by
        intro ds
        induction ds with
        | nil => intro _; simp [D.pyL, PyData.canLayAll0, PyData.depthAll]
        | cons d ds ih2 =>
          intro h
          simp only [D.plL, Bool.and_eq_true] at h
          obtain ⟨a1, a2⟩ := ih d h.1
          obtain ⟨b1, b2⟩ := ih2 h.2
          simp only [D.pyL, PyData.canLayAll0, PyData.depthAll, Bool.and_eq_true]
          exact ⟨⟨a1, b1⟩, by omega⟩
      intro d h
      cases d with
      | tup ds =>
        simp only [D.pl] at h
        obtain ⟨a, b⟩ := all ds h
        simp only [D.py, PyData.canLay0, PyData.depth]
        exact ⟨a, by omega⟩
      | lst ds =>
        simp only [D.pl] at h
        obtain ⟨a, b⟩ := all ds h
        simp only [D.py, PyData.canLay0, PyData.depth]
        exact ⟨a, by omega⟩
      | _ => simp_all [D.pl, D.py, PyData.canLay0, PyData.depth]
  obtain ⟨a, b⟩ := key 20 d h
  unfold SeqAt.shaped
  rw [a, decide_eq_true (by omega : d.py.depth ≤ 64)] <;> rfl
mutual
theorem Sh.dp {K : PySem.W.Frag} (e : G.K = K) (s : Same B H) : ∀ {v : V} {d : D} {n : Nat}, Sh G B v d → d.pl n = true → Dp K H v d.py
  | _, _, _, .non, _ => .non
  | _, _, _, .bl b, _ => .bl b
  | _, _, _, .int i, _ => .int i
  | _, _, _, .str x, _ => .str x
  | _, _, 0, .tup h l, p => by simp [D.pl] at p
  | _, _, n + 1, .tup h l, p => .tup (e ▸ Same.sqt s h) (ShL.dp e s l (n := n) (by simpa [D.pl] using p))
  | _, _, 0, .lst h l, p => by simp [D.pl] at p
  | _, _, n + 1, .lst h l, p => .lst (SqL.of (s _ _ h)) (ShL.dp e s l (n := n) (by simpa [D.pl] using p))
  | _, _, _, .dic .., p => by simp [D.pl] at p
  | _, _, _, .scr .., p => by simp [D.pl] at p
  | _, _, _, .fn .., p => by simp [D.pl] at p
  | _, _, _, .ty .., p => by simp [D.pl] at p
  | _, _, _, .exc .., p => by simp [D.pl] at p
theorem ShL.dp {K : PySem.W.Frag} (e : G.K = K) (s : Same B H) : ∀ {vs : List V} {ds : List D} {n : Nat}, ShL G B vs ds → D.plL ds n = true → DpAll K H vs (D.pyL ds)
  | _, _, _, .nil, _ => .nil
  | _, _, n, .cons h t, p => by
    simp only [D.plL, Bool.and_eq_true] at p
    exact .cons (Sh.dp e s h p.1) (ShL.dp e s t p.2)
end
theorem R.dp {K : PySem.W.Frag} (h : R G H L) (e : G.K = K) (m : (some v, some t) ∈ L) (w : t.view = some d) (p : d.pl 20 = true) : Dp K H v d.py := by
  cases h.vw m w with
  | val z =>
    obtain ⟨B, fp, r, s⟩ := z
    exact s.dp e r.sub p
  | own e1 hp z =>
    obtain ⟨B, fp, r, l⟩ := z
    subst e1
    exact .lst (SqL.of hp) (l.dp e r.sub (n := 19) (by simpa [D.pl] using p))
/-- what is wanted of an operator: over every state that holds the operands -/
def r2 (G : GC) (o : Op2) : R2 := fun x y H Q => ∃ (L : List Pr) (tx ty : T) (dx dy : D) (P : T → Prop), R G H L ∧ (some x, some tx) ∈ L ∧ tx.view = some dx ∧ (some y, some ty) ∈ L ∧ ty.view = some dy ∧ opS2 o dx dy P ∧
  ∀ v H' t, R G H' ((some v, some t) :: L) → P t → Q v H'
end
section
variable {G : GC} {X : Cx}
theorem opR_add (e : G.K = X.K) : OpR X (binaryOp .Add) (r2 G .add) := by
  intro pins s σ H x y v u Q I rx ry h
  obtain ⟨L, tx, ty, dx, dy, P, r, mx, vx, my, vy, hs, k⟩ := h
  cases dx with
  | int i =>
    cases dy with
    | int j =>
      have e1 := r.int mx vx
      have e2 := r.int my vy
      subst e1 e2
      exact op_add pins s σ H _ _ v u Q I rx ry ⟨i, j, rfl, rfl, k _ _ _ (r.pInt _) hs⟩
    | _ => exact hs.elim
  | tup a =>
    cases dy with
    | tup b =>
      obtain ⟨p, xs, rfl, q1, l1, z1⟩ := r.tupV mx vx
      obtain ⟨p2, ys, rfl, q2, l2, z2⟩ := r.tupV my vy
      obtain ⟨hl, hp⟩ := hs
      refine op_catA pins s σ H _ _ v u Q I rx ry ⟨p, p2, xs, ys, rfl, rfl, e ▸ q1, e ▸ q2, lim_line (by omega), fun ex => ?_, fun _ ey => ?_, fun _ _ np hn => ?_⟩
      · have : a = [] := List.eq_nil_of_length_eq_zero (by rw [← l1, ex]; rfl)
        subst this
        obtain ⟨L', h', pm⟩ := r.mem my
        cases r.vw my vy with
        | val z => exact k _ _ _ (R.pushB z) hp
      · have : b = [] := List.eq_nil_of_length_eq_zero (by rw [← l2, ey]; rfl)
        subst this
        rw [List.append_nil] at hp
        cases r.vw mx vx with
        | val z => exact k _ _ _ (R.pushB z) hp
      · obtain ⟨B, fp, rs, sl⟩ := z1
        obtain ⟨B2, fp2, rs2, sl2⟩ := z2
        have h1 : R G H (prs xs (vals a) ++ L) := R.pushLB ⟨B, fp, rs, sl⟩
        have m2 : (some (V.ref p2), some ty) ∈ prs xs (vals a) ++ L := List.mem_append_right _ my
        obtain ⟨p3, ys', e3, q3, l3, z3⟩ := h1.tupV m2 vy
        cases e3
        have ey : ys' = ys := by
          have q2' : SqT X.K H p2 ys := e ▸ q2
          have q3' : SqT X.K H p2 ys' := e ▸ q3
          exact I.tuple_inj q3' q2'
        subst ey
        have h2 : R G H (prs ys' (vals b) ++ (prs xs (vals a) ++ L)) := R.pushLB z3
        have h3 : R G H (prs (xs ++ ys') (vals (a ++ b)) ++ L) := by
          have ee : prs (xs ++ ys') (vals (a ++ b)) = prs xs (vals a) ++ prs ys' (vals b) := by
            unfold prs vals
            rw [List.map_append, List.zipWith_append (by rw [List.length_map]; exact l1)]
          rw [ee, List.append_assoc]
          exact h2.mid
        exact k _ _ _ (R.newT h3 (by simp [l1, l3]) hn) hp
    | _ => exact hs.elim
  | lst a =>
    cases dy with
    | lst b =>
      obtain ⟨p, xs, rfl, q1, l1, z1⟩ := r.lstV mx vx
      obtain ⟨p2, ys, rfl, q2, l2, z2⟩ := r.lstV my vy
      obtain ⟨hl, hp⟩ := hs
      refine op_cat pins s σ H _ _ v u Q I rx ry ⟨p, p2, xs, ys, rfl, rfl, q1, q2, lim_line (by omega), fun np hn => ?_⟩
      have h1 : R G H (prs xs (vals a) ++ L) := R.pushLB z1
      have m2 : (some (V.ref p2), some ty) ∈ prs xs (vals a) ++ L := List.mem_append_right _ my
      obtain ⟨p3, ys', e3, q3, l3, z3⟩ := h1.lstV m2 vy
      cases e3
      rw [q2] at q3
      cases q3
      have h2 : R G H (prs ys (vals b) ++ (prs xs (vals a) ++ L)) := R.pushLB z3
      have ee : prs (xs ++ ys) (vals (a ++ b)) = prs xs (vals a) ++ prs ys (vals b) := by
        unfold prs vals
        rw [List.map_append, List.zipWith_append (by rw [List.length_map]; exact l1)]
      have h3 : R G H (prs (xs ++ ys) (vals (a ++ b)) ++ L) := by
        rw [ee, List.append_assoc]
        exact h2.mid
      exact k _ _ _ (R.newL h3 (by rw [vals_len]; simp [l1, l2]) hn) hp
    | _ => exact hs.elim
  | _ => exact hs.elim
/-- operators of two ints alone -/
theorem opR_int {f : Value → Value → Sem Value} {r : R2} {o : Op2} (hr : OpR X f r)
    (hd : ∀ dx dy (P : T → Prop), opS2 o dx dy P → ∃ i j, dx = .int i ∧ dy = .int j ∧ ∀ (L : List Pr) (H : Hp) (Q : VK), R G H L → (∀ v H' t, R G H' ((some v, some t) :: L) → P t → Q v H') → r (.int i) (.int j) H Q) : OpR X f (r2 G o) := by
  intro pins s σ H x y v u Q I rx ry h
  obtain ⟨L, tx, ty, dx, dy, P, rr, mx, vx, my, vy, hs, k⟩ := h
  obtain ⟨i, j, e1, e2, g⟩ := hd dx dy P hs
  subst e1 e2
  have e1 := rr.int mx vx
  have e2 := rr.int my vy
  subst e1 e2
  exact hr pins s σ H _ _ v u Q I rx ry (g L H Q rr k)
theorem opR_sub : OpR X (binaryOp .Sub) (r2 G .sub) := opR_int op_sub fun dx dy P hs => by
  cases dx <;> cases dy <;> first | exact hs.elim | exact ⟨_, _, rfl, rfl, fun L H Q r k => ⟨_, _, rfl, rfl, k _ _ _ (r.pInt _) hs⟩⟩
theorem opR_mod : OpR X (binaryOp .Mod) (r2 G .mod) := opR_int op_modN fun dx dy P hs => by
  cases dx <;> cases dy <;> first | exact hs.elim | exact ⟨_, _, rfl, rfl, fun L H Q r k => ⟨_, _, rfl, rfl, hs.1, k _ _ _ (r.pInt _) hs.2⟩⟩
theorem opR_fdiv : OpR X (binaryOp .FloorDiv) (r2 G .fdiv) := opR_int op_fdivN fun dx dy P hs => by
  cases dx <;> cases dy <;> first | exact hs.elim | exact ⟨_, _, rfl, rfl, fun L H Q r k => ⟨_, _, rfl, rfl, hs.1, k _ _ _ (r.pInt _) hs.2⟩⟩
theorem opR_pow : OpR X (binaryOp .Pow) (r2 G .pow) := opR_int op_pow fun dx dy P hs => by
  cases dx <;> cases dy <;> first | exact hs.elim | exact ⟨_, _, rfl, rfl, fun L H Q r k => ⟨_, _, rfl, rfl, hs.1, k _ _ _ (r.pInt _) hs.2⟩⟩
theorem opR_xor : OpR X (binaryOp .BitXor) (r2 G .xor) := opR_int op_xor fun dx dy P hs => by
  cases dx <;> cases dy <;> first | exact hs.elim | exact ⟨_, _, rfl, rfl, fun L H Q r k => ⟨_, _, rfl, rfl, k _ _ _ (r.pInt _) hs⟩⟩
theorem opR_band : OpR X (binaryOp .BitAnd) (r2 G .band) := opR_int op_and fun dx dy P hs => by
  cases dx <;> cases dy <;> first | exact hs.elim | exact ⟨_, _, rfl, rfl, fun L H Q r k => ⟨_, _, rfl, rfl, k _ _ _ (r.pInt _) hs⟩⟩
theorem opR_bor : OpR X (binaryOp .BitOr) (r2 G .bor) := opR_int op_or fun dx dy P hs => by
  cases dx <;> cases dy <;> first | exact hs.elim | exact ⟨_, _, rfl, rfl, fun L H Q r k => ⟨_, _, rfl, rfl, k _ _ _ (r.pInt _) hs⟩⟩
theorem opR_lt : OpR X (compareOp .Lt) (r2 G .lt) := opR_int op_lt fun dx dy P hs => by
  cases dx <;> cases dy <;> first | exact hs.elim | exact ⟨_, _, rfl, rfl, fun L H Q r k => ⟨_, _, rfl, rfl, k _ _ _ (r.pBl _) hs⟩⟩
theorem opR_le : OpR X (compareOp .LtE) (r2 G .le) := opR_int op_le fun dx dy P hs => by
  cases dx <;> cases dy <;> first | exact hs.elim | exact ⟨_, _, rfl, rfl, fun L H Q r k => ⟨_, _, rfl, rfl, k _ _ _ (r.pBl _) hs⟩⟩
theorem opR_gt : OpR X (compareOp .Gt) (r2 G .gt) := opR_int op_gt fun dx dy P hs => by
  cases dx <;> cases dy <;> first | exact hs.elim | exact ⟨_, _, rfl, rfl, fun L H Q r k => ⟨_, _, rfl, rfl, k _ _ _ (r.pBl _) hs⟩⟩
theorem opR_ge : OpR X (compareOp .GtE) (r2 G .ge) := opR_int op_ge fun dx dy P hs => by
  cases dx <;> cases dy <;> first | exact hs.elim | exact ⟨_, _, rfl, rfl, fun L H Q r k => ⟨_, _, rfl, rfl, k _ _ _ (r.pBl _) hs⟩⟩
theorem op_eqs {o : Op2} {op : CmpOp} {ng : Bool → Bool} (hs : OpR X (compareOp op) (fun x y H Q => scal x y = true ∧ Q (.bl (ng (decide (x = y)))) H)) (hd : OpR X (compareOp op) (fun x y H Q => ∃ dx dy : PyData, Dp X.K H x dx ∧ Dp X.K H y dy ∧ SeqAt.shaped dx = true ∧ SeqAt.shaped dy = true ∧ Q (.bl (ng (PyData.eqv dx dy))) H)) (e : G.K = X.K)
    (ho : ∀ x y P, opS2 o x y P → (∃ a b, x = .str a ∧ y = .str b ∧ P (.val (.bl (ng (decide (a = b)))))) ∨ ((x.pl 20 = true ∧ y.pl 20 = true) ∧ P (.val (.bl (ng (eqD x y)))))) : OpR X (compareOp op) (r2 G o) := by
  intro pins s σ H x y v u Q I rx ry h
  obtain ⟨L, tx, ty, dx, dy, P, r, mx, vx, my, vy, hs', k⟩ := h
  rcases ho _ _ _ hs' with ⟨a, b, rfl, rfl, hp⟩ | ⟨hp, hq⟩
  · have e1 := r.str mx vx
    have e2 := r.str my vy
    subst e1 e2
    refine hs pins s σ H _ _ v u Q I rx ry ⟨rfl, k _ _ _ (r.pBl _) ?_⟩
    rw [show decide (V.str a = V.str b) = decide (a = b) by simp]
    exact hp
  · exact hd pins s σ H x y v u Q I rx ry ⟨dx.py, dy.py, r.dp e mx vx hp.1, r.dp e my vy hp.2, shaped_of_pl hp.1, shaped_of_pl hp.2, k _ _ _ (r.pBl _) hq⟩
theorem opR_eq (e : G.K = X.K) (hu : X.A.units + 64 < cLine) : OpR X (compareOp .Eq) (r2 G .eq) := op_eqs (ng := id) op_eq (op_eqD hu) e fun x y P h => by
  cases x <;> cases y <;> first | exact .inr h | exact .inl ⟨_, _, rfl, rfl, h⟩
theorem opR_ne (e : G.K = X.K) (hu : X.A.units + 64 < cLine) : OpR X (compareOp .NotEq) (r2 G .ne) := op_eqs (ng := fun b => !b) op_ne (op_neD hu) e fun x y P h => by
  cases x <;> cases y <;> first | exact .inr h | exact .inl ⟨_, _, rfl, rfl, h⟩
theorem R.isNon {H : Hp} {L : List Pr} {v : V} {t : T} {d : D} (h : R G H L) (m : (some v, some t) ∈ L) (e : t.view = some d) : decide (v = .non) = d.isNon := by
  cases h.vw m e with
  | val z =>
    obtain ⟨_, _, _, s⟩ := z
    cases s <;> simp [D.isNon]
  | own e1 _ _ => subst e1; simp [D.isNon]
theorem opR_isN : OpR X (compareOp .Is) (r2 G .isN) := by
  intro pins s σ H x y v u Q I rx ry h
  obtain ⟨L, tx, ty, dx, dy, P, r, mx, vx, my, vy, hs, k⟩ := h
  cases dy with
  | non =>
    have e2 := r.non my vy
    subst e2
    exact op_isN pins s σ H _ _ v u Q I rx ry ⟨rfl, by rw [r.isNon mx vx]; exact k _ _ _ (r.pBl _) hs⟩
  | _ => exact hs.elim
theorem opR_notN : OpR X (compareOp .IsNot) (r2 G .notN) := by
  intro pins s σ H x y v u Q I rx ry h
  obtain ⟨L, tx, ty, dx, dy, P, r, mx, vx, my, vy, hs, k⟩ := h
  cases dy with
  | non =>
    have e2 := r.non my vy
    subst e2
    exact op_notN pins s σ H _ _ v u Q I rx ry ⟨rfl, by rw [r.isNon mx vx]; exact k _ _ _ (r.pBl _) hs⟩
  | _ => exact hs.elim
theorem opR_isB : OpR X (compareOp .Is) (r2 G .isB) := by
  intro pins s σ H x y v u Q I rx ry h
  obtain ⟨L, tx, ty, dx, dy, P, r, mx, vx, my, vy, hs, k⟩ := h
  cases dx <;> cases dy <;> first | exact hs.elim | skip
  have e1 := r.bl mx vx
  have e2 := r.bl my vy
  subst e1 e2
  exact op_isBl pins s σ H _ _ v u Q I rx ry ⟨_, _, rfl, rfl, k _ _ _ (r.pBl _) hs⟩
theorem opR_notB : OpR X (compareOp .IsNot) (r2 G .notB) := by
  intro pins s σ H x y v u Q I rx ry h
  obtain ⟨L, tx, ty, dx, dy, P, r, mx, vx, my, vy, hs, k⟩ := h
  cases dx <;> cases dy <;> first | exact hs.elim | skip
  have e1 := r.bl mx vx
  have e2 := r.bl my vy
  subst e1 e2
  exact op_notBl pins s σ H _ _ v u Q I rx ry ⟨_, _, rfl, rfl, k _ _ _ (r.pBl _) hs⟩
theorem atI_get {α : Type} {xs : List α} {i : Int} {a : α} (h : atI xs i = some a) : ∃ j : Nat, ixN xs.length i = some j ∧ xs[j]? = some a := by
  unfold atI at h
  obtain ⟨j, e1, e2⟩ := Option.bind_eq_some_iff.mp h
  exact ⟨j, e1, e2⟩
theorem ixR_idx (e : G.K = X.K) : IxR X (r2 G .idx) := by
  intro va sl pins s σ H x y v u Q I rx ry h hsub
  obtain ⟨L, tx, ty, dx, dy, P, r, mx, vx, my, vy, hs, k⟩ := h
  cases dx with
  | tup a =>
    cases dy with
    | int i =>
      have e2 := r.int my vy
      subst e2
      obtain ⟨d, hd, hp⟩ := hs
      obtain ⟨p, xs, rfl, q1, l1, z1⟩ := r.tupV mx vx
      obtain ⟨j, h1, h2⟩ := atI_get hd
      obtain ⟨z, h3, h4⟩ := R.itemB z1 h2
      refine ix_tup va sl pins s σ H _ _ v u Q I rx ry ⟨p, xs, i, z, rfl, rfl, e ▸ q1, ?_, k _ _ _ h4 hp⟩ hsub
      unfold atI
      rw [l1, h1]
      exact h3
    | _ => exact hs.elim
  | lst a =>
    cases dy with
    | int i =>
      have e2 := r.int my vy
      subst e2
      obtain ⟨d, hd, hp⟩ := hs
      obtain ⟨p, xs, rfl, q1, l1, z1⟩ := r.lstV mx vx
      obtain ⟨j, h1, h2⟩ := atI_get hd
      obtain ⟨z, h3, h4⟩ := R.itemB z1 h2
      refine ix_list va sl pins s σ H _ _ v u Q I rx ry ⟨p, xs, i, z, rfl, rfl, SqL.of q1, ?_, k _ _ _ h4 hp⟩ hsub
      unfold atI
      rw [l1, h1]
      exact h3
    | _ => exact hs.elim
  | _ => exact hs.elim
end
end FW
set_option Elab.async false
set_option linter.all false
set_option maxRecDepth 100000
set_option maxHeartbeats 1000000
namespace FW
open PySem PySem.Spec PyProof.Rows L2
section
variable {G : GC} {X : Cx}
/-! ## slots and trees side by side -/
theorem zip_hole : ∀ {σ : L2.St} {env : Env'} {i : Nat} {o : Option V} {t : Option T}, σ[i]? = some o → env[i]? = some t → ∃ rest : List Pr, (σ.zip env).Perm ((o, t) :: rest) ∧ ∀ o' t', ((σ.set i o').zip (env.set i t')).Perm ((o', t') :: rest)
  | [], _, _, _, _, e, _ => by simp at e
  | _ :: _, [], _, _, _, _, e => by simp at e
  | a :: σ, b :: env, 0, o, t, e1, e2 => by
    simp at e1 e2
    subst e1 e2
    exact ⟨σ.zip env, .refl _, fun _ _ => .refl _⟩
  | a :: σ, b :: env, i + 1, o, t, e1, e2 => by
    obtain ⟨rest, h1, h2⟩ := zip_hole (σ := σ) (env := env) (i := i) (o := o) (t := t) (by simpa using e1) (by simpa using e2)
    refine ⟨(a, b) :: rest, ?_, fun o' t' => ?_⟩
    · exact (h1.cons (a, b)).trans (.swap ..)
    · exact ((h2 o' t').cons (a, b)).trans (.swap ..)
theorem set_same {α : Type} : ∀ {l : List α} {i : Nat} {a : α}, l[i]? = some a → l.set i a = l
  | [], _, _, e => by simp at e
  | b :: l, 0, a, e => by simp at e; subst e; rfl
  | b :: l, i + 1, a, e => by
    have := set_same (l := l) (i := i) (a := a) (by simpa using e)
    show b :: l.set i a = b :: l
    rw [this]
variable {H H' : Hp} {σ : L2.St} {env : Env'} {L L' : List Pr} {i : Nat} {o : Option V} {t : Option T}
theorem R.slot (h : R G H (σ.zip env ++ L)) (e1 : σ[i]? = some o) (e2 : env[i]? = some t) :
    ∃ rest : List Pr, R G H ((o, t) :: (rest ++ L)) ∧ (∀ H' L' o' t', R G H' ((o', t') :: (rest ++ L')) → R G H' ((σ.set i o').zip (env.set i t') ++ L')) ∧ ∀ H' L' t', R G H' ((o, t') :: (rest ++ L')) → R G H' (σ.zip (env.set i t') ++ L') := by
  obtain ⟨rest, h1, h2⟩ := zip_hole e1 e2
  refine ⟨rest, h.perm (h1.append_right L), fun H' L' o' t' q => R.perm (L := ((o', t') :: rest) ++ L') q ((h2 o' t').symm.append_right L'), fun H' L' t' q => ?_⟩
  have z := R.perm (L := ((o, t') :: rest) ++ L') q ((h2 o t').symm.append_right L')
  rwa [set_same e1] at z
theorem R.slotV {t : T} (h : R G H (σ.zip env ++ L)) (hl : σ.length = env.length) (e : env[i]? = some (some t)) : ∃ v, σ[i]? = some (some v) ∧ (some v, some t) ∈ σ.zip env ++ L := by
  have hi : i < σ.length := by rw [hl]; exact (List.getElem?_eq_some_iff.mp e).1
  obtain ⟨rest, h1, _, _⟩ := h.slot (List.getElem?_eq_getElem hi) e
  obtain ⟨v, hv⟩ := h1.there
  refine ⟨v, by rw [List.getElem?_eq_getElem hi, hv], List.mem_append_left _ ?_⟩
  have z : (σ.zip env)[i]? = some (some v, some t) := by
    rw [List.getElem?_zip_eq_some]
    exact ⟨by rw [List.getElem?_eq_getElem hi, hv], e⟩
  exact List.mem_of_getElem? z
/-! ## what a reading is to be -/
def Air (G : GC) (x : D) (cls : Value) (d : Option Addr) (H : Hp) (L : List Pr) : Prop :=
  ∃ c ns ds C, x = .exc c ns ds ∧ cls = .ref C ∧ G.mg c = some (.ref C) ∧ ((ns = [] ∧ ds = [] ∧ d = none ∧ R G H L) ∨ ∃ dd, (d = some dd ∧ ns ≠ []) ∧ R G H ((some (.ref dd), some (.xdc ns ds)) :: L))
def ExcTo (G : GC) (σ : L2.St) (L : List Pr) (Pe : KE) (W : WX) : Prop := ∀ x cls d H' e', σ.length = e'.length → Air G x cls d H' (σ.zip e' ++ L) → Pe x e' → W cls d σ H'
def TofE (G : GC) (a : I) (W : WX) : TE := fun σ H Q => ∃ (env : Env') (L : List Pr) (Pn : T → Env' → Prop) (Pe : KE), σ.length = env.length ∧ R G H (σ.zip env ++ L) ∧ wpE a env Pn Pe ∧
  (∀ v H' t e', σ.length = e'.length → R G H' ((some v, some t) :: (σ.zip e' ++ L)) → Pn t e' → Q v H') ∧ ExcTo G σ L Pe W
def TokR (G : GC) (σ : L2.St) (k : Tok) (v : V) (H : Hp) (e : Env') (L : List Pr) : Prop :=
  match k with
  | .tmp t => R G H ((some v, some t) :: (σ.zip e ++ L))
  | .slot i => σ[i]? = some (some v) ∧ R G H (σ.zip e ++ L)
def TofO (G : GC) (a : I) (W : WX) : TE := fun σ H Q => ∃ (env : Env') (L : List Pr) (Pn : Tok → Env' → Prop) (Pe : KE), σ.length = env.length ∧ R G H (σ.zip env ++ L) ∧ opn a (wpE a) env Pn Pe ∧
  (∀ v H' k e', σ.length = e'.length → TokR G σ k v H' e' L → Pn k e' → Q v H') ∧ ExcTo G σ L Pe W
def TofT (G : GC) (a : I) (W : WX) : TT := fun σ H Q => ∃ (env : Env') (L : List Pr) (Pn : Bool → Env' → Prop) (Pe : KE), σ.length = env.length ∧ R G H (σ.zip env ++ L) ∧ wpT a env Pn Pe ∧
  (∀ k H' e', σ.length = e'.length → R G H' (σ.zip e' ++ L) → Pn k e' → Q k H') ∧ ExcTo G σ L Pe W
/-- arguments, as data -/
def mixA : I → L2.St → List V → List V → Prop
  | .anil, _, [], [] => True
  | .acons _ r, σ, d :: ds, v :: vs => d = v ∧ mixA r σ ds vs
  | .aref i r, σ, ds, v :: vs => σ[i]? = some (some v) ∧ mixA r σ ds vs
  | _, _, _, _ => False
def TofA (G : GC) (a : I) (W : WX) : TA := fun σ H Q => ∃ (env : Env') (L : List Pr) (Pn : List D → Env' → Prop) (Pe : KE), σ.length = env.length ∧ R G H (σ.zip env ++ L) ∧ wpA a env Pn Pe ∧
  (∀ vs dvs H' ds e', σ.length = e'.length → mixA a σ dvs vs → dvs.length = ds.length → R G H' (prs dvs (vals ds) ++ (σ.zip e' ++ L)) → Pn ds e' → Q vs H') ∧ ExcTo G σ L Pe W
theorem PE_to {e : Expr} {t t' : TE} (h : PE X e t) (k : ∀ σ H Q, t' σ H Q → t σ H Q) : PE X e t' := ⟨fun pins s σ H Q I q => h.run pins s σ H Q I (k σ H Q q)⟩
theorem PT_to {e : Expr} {t t' : TT} (h : PT X e t) (k : ∀ σ H Q, t' σ H Q → t σ H Q) : PT X e t' := ⟨fun pins s σ H Q I q => h.run pins s σ H Q I (k σ H Q q)⟩
theorem PA_to {e : List Expr} {t t' : TA} (h : PA X e t) (k : ∀ σ H Q, t' σ H Q → t σ H Q) : PA X e t' := ⟨fun pos pins s σ H Q I q => h.run pos pins s σ H Q I (k σ H Q q)⟩
theorem PS_to {e : Stmt} {t t' : TS} (h : PS X e t) (k : ∀ D σ H, t' D σ H → t D σ H) : PS X e t' := ⟨fun pins s σ H D I q => h.run pins s σ H D I (k D σ H q)⟩
theorem PSs_to {e : List Stmt} {t t' : TS} (h : PSs X e t) (k : ∀ D σ H, t' D σ H → t D σ H) : PSs X e t' := ⟨fun pins s σ H D I q => h.run pins s σ H D I (k D σ H q)⟩
def SE (X : Cx) (G : GC) (e : Expr) (a : I) : Prop := ∀ W, Takes X W → PE X e (TofE G a W)
def SO (X : Cx) (G : GC) (e : Expr) (a : I) : Prop := ∀ W, Takes X W → PE X e (TofO G a W)
def STe (X : Cx) (G : GC) (e : Expr) (a : I) : Prop := ∀ W, Takes X W → PT X e (TofT G a W)
def SA (X : Cx) (G : GC) (es : List Expr) (a : I) : Prop := ∀ W, Takes X W → PA X es (TofA G a W)
/-! ## names, constants -/
theorem snd_const {e : Expr} {v : V} {d : D} (h : PE X e (tC v)) (s : ∀ B, Sh G B v d) : SE X G e (.con d) := fun W tk =>
  PE_to h fun σ H Q ⟨env, L, Pn, Pe, hl, r, w, k, _⟩ => k v H _ env hl (r.push fun B _ => s B) w
theorem snd_glob {e : Expr} {x : Str} {i : Int} (h : PE X e (tC (.int i))) : SE X G e (.glob x i) := fun W tk =>
  PE_to h fun σ H Q ⟨env, L, Pn, Pe, hl, r, w, k, _⟩ => k _ H _ env hl (r.push fun B _ => .int i) w
theorem snd_fnv {e : Expr} {x : Str} {a : Addr} (hm : G.mg x = some (.ref a)) (h : PE X e (tC (.ref a))) : SE X G e (.fnv x) := fun W tk =>
  PE_to h fun σ H Q ⟨env, L, Pn, Pe, hl, r, w, k, _⟩ => k _ H _ env hl (r.push fun B _ => .fn hm) w
theorem snd_var {e : Expr} {i : Nat} (h : PE X e (tVar i)) : SE X G e (.var i) := fun W tk =>
  PE_to h fun σ H Q ⟨env, L, Pn, Pe, hl, r, w, k, _⟩ => by
    have w : useV env i Pn := w
    unfold useV at w
    cases he : env[i]? with
    | none => rw [he] at w; exact w.elim
    | some o =>
      rw [he] at w
      cases o with
      | none => exact w.elim
      | some t =>
        obtain ⟨v, hv, _⟩ := r.slotV hl he
        refine ⟨v, hv, ?_⟩
        obtain ⟨rest, r1, _, r2⟩ := r.slot hv he
        cases t with
        | val d =>
          have r3 := r1.dup
          have r4 : R G H ((some v, some (.val d)) :: (σ.zip env ++ L)) := by
            have := r2 H ((some v, some (.val d)) :: L) (some (.val d)) (r3.perm (by
              refine List.Perm.cons _ ?_
              exact List.perm_middle.symm))
            rw [set_same he] at this
            exact this.perm List.perm_middle
          exact k v H _ env hl r4 w
        | lst ts =>
          obtain ⟨d, hd, hq⟩ := w
          have r3 := (r1.frz hd).dup
          have r4 : R G H ((some v, some (.val d)) :: (σ.zip (env.set i (some (.val d))) ++ L)) := by
            have := r2 H ((some v, some (.val d)) :: L) (some (.val d)) (r3.perm (List.Perm.cons _ List.perm_middle.symm))
            exact this.perm List.perm_middle
          exact k v H _ _ (by rw [List.length_set]; exact hl) r4 hq
        | dic _ _ => exact w.elim
        | raw _ => exact w.elim
        | xdc _ _ => exact w.elim
/-- a name's value, given away: its slot is dead behind it -/
theorem snd_mv {e : Expr} {i : Nat} (h : PE X e (tVar i)) : SE X G e (.mv i) := fun W tk =>
  PE_to h fun σ H Q ⟨env, L, Pn, Pe, hl, r, w, k, _⟩ => by
    obtain ⟨t, he, hq⟩ : ∃ t, env[i]? = some (some t) ∧ Pn t (env.set i none) := w
    obtain ⟨v, hv, _⟩ := r.slotV hl he
    refine ⟨v, hv, ?_⟩
    obtain ⟨rest, r1, _, r2⟩ := r.slot hv he
    have r3 := r1.dead (o := some v)
    have r4 : R G H ((some v, some t) :: (σ.zip (env.set i none) ++ L)) := by
      have := r2 H ((some v, some t) :: L) none (r3.perm (List.Perm.cons _ List.perm_middle.symm))
      exact this.perm List.perm_middle
    exact k v H _ _ (by rw [List.length_set]; exact hl) r4 hq
/-! ## operands -/
theorem so_var {e : Expr} {i : Nat} (h : PE X e (tVar i)) : SO X G e (.var i) := fun W tk =>
  PE_to h fun σ H Q ⟨env, L, Pn, Pe, hl, r, w, k, _⟩ => by
    obtain ⟨⟨t, he⟩, w⟩ : (∃ t, env[i]? = some (some t)) ∧ Pn (.slot i) env := w
    obtain ⟨v, hv, _⟩ := r.slotV hl he
    exact ⟨v, hv, k v H (.slot i) env hl ⟨hv, r⟩ w⟩
theorem so_of {e : Expr} {a : I} (h : SE X G e a) (hn : ∀ i, a ≠ .var i) : SO X G e a := fun W tk =>
  PE_to (h W tk) fun σ H Q ⟨env, L, Pn, Pe, hl, r, w, k, x⟩ => by
    refine ⟨env, L, fun t e' => Pn (.tmp t) e', Pe, hl, r, ?_, fun v H' t e' h1 h2 h3 => k v H' (.tmp t) e' h1 h2 h3, x⟩
    unfold opn at w
    split at w
    · exact absurd rfl (hn _)
    · exact w
/-- the trees that operands stand for -/
def tokL (k : Tok) (v : V) : List Pr := match k with
  | .tmp t => [(some v, some t)]
  | .slot _ => []
theorem TokR.r {k : Tok} {v : V} {e : Env'} (h : TokR G σ k v H e L) : R G H (σ.zip e ++ (tokL k v ++ L)) := by
  cases k with
  | tmp t => exact R.mid (A := [(some v, some t)]) (C := σ.zip e) (L := L) h
  | slot i => exact h.2
/-- an operand is one of the state's trees -/
def TokIn (σ : L2.St) (k : Tok) (v : V) (M : List Pr) : Prop := match k with
  | .tmp t => (some v, some t) ∈ M
  | .slot i => σ[i]? = some (some v)
theorem TokR.isIn {k : Tok} {v : V} {e : Env'} (h : TokR G σ k v H e L) : TokIn σ k v (tokL k v ++ L) := by
  cases k with
  | tmp t => exact List.mem_append_left _ (List.mem_singleton.mpr rfl)
  | slot i => exact h.1
theorem TokIn.more {k : Tok} {v : V} {M N : List Pr} (h : TokIn σ k v M) : TokIn σ k v (N ++ M) := by
  cases k with
  | tmp t => exact List.mem_append_right _ h
  | slot i => exact h
theorem TokIn.mem {k : Tok} {v : V} {M : List Pr} {e : Env'} {d : D} (h : TokIn σ k v M) (hl : σ.length = e.length) (r : R G H (σ.zip e ++ M)) (w : k.view e = some d) : ∃ t, (some v, some t) ∈ σ.zip e ++ M ∧ t.view = some d := by
  cases k with
  | tmp t => exact ⟨t, List.mem_append_right _ h, w⟩
  | slot i =>
    have w : (match e[i]? with | some (some t) => t.view | _ => none) = some d := w
    cases he : e[i]? with
    | none => rw [he] at w; cases w
    | some o =>
      rw [he] at w
      cases o with
      | none => cases w
      | some t =>
        obtain ⟨v', hv, hm⟩ := r.slotV hl he
        have h : σ[i]? = some (some v) := h
        rw [h] at hv
        cases hv
        exact ⟨t, hm, w⟩
/-- behind an operation: the operands' own trees go -/
theorem drop_tok {v : V} {t : T} {e : Env'} {k : Tok} {u : V} (r : R G H ((some v, some t) :: (σ.zip e ++ (tokL k u ++ L)))) : R G H ((some v, some t) :: (σ.zip e ++ L)) := by
  have r : R G H (((some v, some t) :: σ.zip e) ++ (tokL k u ++ L)) := r
  exact R.cut r
theorem air_mono {x : D} {cls : Value} {d : Option Addr} (h : Air G x cls d H L) (k : ∀ M, R G H (M ++ L) → R G H (M ++ L')) : Air G x cls d H L' := by
  obtain ⟨c, ns, ds, C, e1, e2, e3, h⟩ := h
  refine ⟨c, ns, ds, C, e1, e2, e3, ?_⟩
  rcases h with ⟨a, b, c, r⟩ | ⟨dd, e, r⟩
  · exact .inl ⟨a, b, c, k [] r⟩
  · exact .inr ⟨dd, e, k [_] r⟩
theorem ExcTo.more {Pe : KE} {W : WX} {M : List Pr} (h : ExcTo G σ L Pe W) : ExcTo G σ (M ++ L) Pe W := fun x cls d H' e' hl a p =>
  h x cls d H' e' hl (air_mono a fun N r => by
    rw [← List.append_assoc] at r ⊢
    exact R.cut r) p
/-- two operands, then the operator -/
theorem snd_op2 {e a b : Expr} {ia ib : I} {o : Op2} (ha : SO X G a ia) (hb : SO X G b ib) (hp : ∀ ta tb, PE X a ta → PE X b tb → PE X e (tOp (r2 G o) ta tb)) : SE X G e (.op2 o ia ib) := fun W tk =>
  PE_to (hp _ _ (ha W tk) (hb W tk)) fun σ H Q ⟨env, L, Pn, Pe, hl, r, w, k, x⟩ => by
    refine ⟨env, L, _, Pe, hl, r, w, fun v1 H1 k1 e1 hl1 t1 w1 => ?_, x⟩
    refine ⟨e1, tokL k1 v1 ++ L, _, Pe, hl1, t1.r, w1, fun v2 H2 k2 e2 hl2 t2 w2 => ?_, x.more⟩
    obtain ⟨dx, dy, vx, vy, hs⟩ := w2
    have rr := t2.r
    obtain ⟨tx, mx, ex⟩ := (TokIn.more (N := tokL k2 v2) t1.isIn).mem hl2 rr vx
    obtain ⟨ty, my, ey⟩ := t2.isIn.mem hl2 rr vy
    exact ⟨_, tx, ty, dx, dy, _, rr, mx, ex, my, ey, hs, fun v H' t r' hp => k v H' t e2 hl2 (drop_tok (drop_tok r')) hp⟩
/-- two comparisons in a chain -/
theorem snd_chain {e a b c : Expr} {ia ib ic : I} {o o' : Op2} (ha : SO X G a ia) (hb : SO X G b ib) (hc : SO X G c ic) (hp : ∀ ta tb tc, PE X a ta → PE X b tb → PE X c tc → PE X e (tChain (r2 G o) (r2 G o') ta tb tc)) : SE X G e (.chain o o' ia ib ic) := fun W tk =>
  PE_to (hp _ _ _ (ha W tk) (hb W tk) (hc W tk)) fun σ H Q ⟨env, L, Pn, Pe, hl, r, w, k, x⟩ => by
    refine ⟨env, L, _, Pe, hl, r, w, fun v1 H1 k1 e1 hl1 t1 w1 => ?_, x⟩
    refine ⟨e1, tokL k1 v1 ++ L, _, Pe, hl1, t1.r, w1, fun v2 H2 k2 e2 hl2 t2 w2 => ?_, x.more⟩
    obtain ⟨dx, dy, vx, vy, hs⟩ := w2
    have rr := t2.r
    obtain ⟨tx, mx, ex⟩ := (TokIn.more (N := tokL k2 v2) t1.isIn).mem hl2 rr vx
    obtain ⟨ty, my, ey⟩ := t2.isIn.mem hl2 rr vy
    refine ⟨_, tx, ty, dx, dy, _, rr, mx, ex, my, ey, hs, fun v H' t r' hp' => ?_⟩
    obtain ⟨q, et, hq⟩ := hp'
    subst et
    have ev : v = .bl q := r'.bl List.mem_cons_self rfl
    refine ⟨q, ev, ?_⟩
    cases q with
    | true =>
      rw [if_pos rfl] at hq ⊢
      refine ⟨e2, tokL k2 v2 ++ (tokL k1 v1 ++ L), _, Pe, hl2, r'.pop, hq, fun v3 H3 k3 e3 hl3 t3 w3 => ?_, x.more.more⟩
      obtain ⟨dy', dz, vy', vz, hs'⟩ := w3
      have rr3 := t3.r
      obtain ⟨ty', my', ey'⟩ := (TokIn.more (N := tokL k3 v3) t2.isIn).mem hl3 rr3 vy'
      obtain ⟨tz, mz, ez⟩ := t3.isIn.mem hl3 rr3 vz
      exact ⟨_, ty', tz, dy', dz, _, rr3, my', ey', mz, ez, hs', fun v H' t r' hp => k v H' t e3 hl3 (drop_tok (drop_tok (drop_tok r'))) hp⟩
    | false =>
      rw [if_neg Bool.false_ne_true] at hq ⊢
      have r4 : R G H' ((some v, some (.val (.bl false))) :: (σ.zip e2 ++ L)) := drop_tok (drop_tok r')
      rw [ev] at r4
      exact k _ H' _ e2 hl2 r4 hq
/-! ## and, or, not, if -/
theorem snd_and {e a b : Expr} {ia ib : I} (ha : SE X G a ia) (hb : SE X G b ib) (hp : ∀ ta tb, PE X a ta → PE X b tb → PE X e (tAndV ta tb)) : SE X G e (.andv ia ib) := fun W tk =>
  PE_to (hp _ _ (ha W tk) (hb W tk)) fun σ H Q ⟨env, L, Pn, Pe, hl, r, w, k, x⟩ => by
    refine ⟨env, L, _, Pe, hl, r, w, fun v1 H1 t1 e1 hl1 r1 w1 => ?_, x⟩
    obtain ⟨q, et, hq⟩ := w1
    subst et
    have ev : v1 = .bl q := r1.bl List.mem_cons_self rfl
    refine ⟨q, ev, ?_⟩
    cases q with
    | true =>
      rw [if_pos rfl] at hq ⊢
      exact ⟨e1, L, _, Pe, hl1, r1.pop, hq, k, x⟩
    | false =>
      rw [if_neg Bool.false_ne_true] at hq ⊢
      rw [ev] at r1
      exact k _ H1 _ e1 hl1 r1 hq
theorem snd_or {e a b : Expr} {ia ib : I} (ha : SE X G a ia) (hb : SE X G b ib) (hp : ∀ ta tb, PE X a ta → PE X b tb → PE X e (tOrV ta tb)) : SE X G e (.orv ia ib) := fun W tk =>
  PE_to (hp _ _ (ha W tk) (hb W tk)) fun σ H Q ⟨env, L, Pn, Pe, hl, r, w, k, x⟩ => by
    refine ⟨env, L, _, Pe, hl, r, w, fun v1 H1 t1 e1 hl1 r1 w1 => ?_, x⟩
    obtain ⟨q, et, hq⟩ := w1
    subst et
    have ev : v1 = .bl q := r1.bl List.mem_cons_self rfl
    refine ⟨q, ev, ?_⟩
    cases q with
    | true =>
      rw [if_pos rfl] at hq ⊢
      rw [ev] at r1
      exact k _ H1 _ e1 hl1 r1 hq
    | false =>
      rw [if_neg Bool.false_ne_true] at hq ⊢
      exact ⟨e1, L, _, Pe, hl1, r1.pop, hq, k, x⟩
theorem snd_not {e a : Expr} {ia : I} (ha : SE X G a ia) (hp : ∀ ta, PE X a ta → PE X e (tNotV ta)) : SE X G e (.notv ia) := fun W tk =>
  PE_to (hp _ (ha W tk)) fun σ H Q ⟨env, L, Pn, Pe, hl, r, w, k, x⟩ => by
    refine ⟨env, L, _, Pe, hl, r, w, fun v1 H1 t1 e1 hl1 r1 w1 => ?_, x⟩
    obtain ⟨q, et, hq⟩ := w1
    subst et
    have ev : v1 = .bl q := r1.bl List.mem_cons_self rfl
    exact ⟨q, ev, k _ H1 _ e1 hl1 (r1.pop.pBl _) hq⟩
theorem snd_ite {e c a b : Expr} {ic ia ib : I} (hc : STe X G c ic) (ha : SE X G a ia) (hb : SE X G b ib) (hp : ∀ tc ta tb, PT X c tc → PE X a ta → PE X b tb → PE X e (tIf tc ta tb)) : SE X G e (.ite ic ia ib) := fun W tk =>
  PE_to (hp _ _ _ (hc W tk) (ha W tk) (hb W tk)) fun σ H Q ⟨env, L, Pn, Pe, hl, r, w, k, x⟩ => by
    refine ⟨env, L, _, Pe, hl, r, w, fun q H1 e1 hl1 r1 w1 => ?_, x⟩
    cases q with
    | true =>
      rw [if_pos rfl] at w1 ⊢
      exact ⟨e1, L, _, Pe, hl1, r1, w1, k, x⟩
    | false =>
      rw [if_neg Bool.false_ne_true] at w1 ⊢
      exact ⟨e1, L, _, Pe, hl1, r1, w1, k, x⟩
/-! ## tests -/
theorem snd_tand {e a b : Expr} {ia ib : I} (ha : STe X G a ia) (hb : STe X G b ib) (hp : ∀ ta tb, PT X a ta → PT X b tb → PT X e (tAnd ta tb)) : STe X G e (.tand ia ib) := fun W tk =>
  PT_to (hp _ _ (ha W tk) (hb W tk)) fun σ H Q ⟨env, L, Pn, Pe, hl, r, w, k, x⟩ => by
    refine ⟨env, L, _, Pe, hl, r, w, fun q H1 e1 hl1 r1 w1 => ?_, x⟩
    cases q with
    | true =>
      rw [if_pos rfl] at w1 ⊢
      exact ⟨e1, L, _, Pe, hl1, r1, w1, k, x⟩
    | false =>
      rw [if_neg Bool.false_ne_true] at w1 ⊢
      exact k _ H1 e1 hl1 r1 w1
theorem snd_tor {e a b : Expr} {ia ib : I} (ha : STe X G a ia) (hb : STe X G b ib) (hp : ∀ ta tb, PT X a ta → PT X b tb → PT X e (tOr ta tb)) : STe X G e (.tor ia ib) := fun W tk =>
  PT_to (hp _ _ (ha W tk) (hb W tk)) fun σ H Q ⟨env, L, Pn, Pe, hl, r, w, k, x⟩ => by
    refine ⟨env, L, _, Pe, hl, r, w, fun q H1 e1 hl1 r1 w1 => ?_, x⟩
    cases q with
    | true =>
      rw [if_pos rfl] at w1 ⊢
      exact k _ H1 e1 hl1 r1 w1
    | false =>
      rw [if_neg Bool.false_ne_true] at w1 ⊢
      exact ⟨e1, L, _, Pe, hl1, r1, w1, k, x⟩
theorem snd_tnot {e a : Expr} {ia : I} (ha : STe X G a ia) (hp : ∀ ta, PT X a ta → PT X e (tNot ta)) : STe X G e (.tnot ia) := fun W tk =>
  PT_to (hp _ (ha W tk)) fun σ H Q ⟨env, L, Pn, Pe, hl, r, w, k, x⟩ => ⟨env, L, _, Pe, hl, r, w, fun q H1 e1 hl1 r1 w1 => k _ H1 e1 hl1 r1 w1, x⟩
theorem tru_of {v : V} {t : T} {d : D} {q : Bool} (hK : G.K = X.K) (r : R G H L) (m : (some v, some t) ∈ L) (e : t.view = some d) (h : d.truth = some q) : TruV X.K v H q := by
  cases d with
  | non =>
    have := r.non m e; subst this
    simp only [D.truth, Option.some.injEq] at h
    exact h.symm
  | bl b =>
    have := r.bl m e; subst this
    simp only [D.truth, Option.some.injEq] at h
    exact h.symm
  | int i =>
    have := r.int m e; subst this
    simp only [D.truth, Option.some.injEq] at h
    exact h.symm
  | str s => simp [D.truth] at h
  | tup ds =>
    obtain ⟨p, xs, rfl, q1, l1, _⟩ := r.tupV m e
    simp only [D.truth, Option.some.injEq] at h
    refine .inr (.inl ⟨xs, hK ▸ q1, ?_⟩)
    rw [← h]
    cases xs <;> cases ds <;> simp_all
  | lst ds =>
    obtain ⟨p, xs, rfl, q1, l1, _⟩ := r.lstV m e
    simp only [D.truth, Option.some.injEq] at h
    refine .inl ⟨xs, SqL.of q1, ?_⟩
    rw [← h]
    cases xs <;> cases ds <;> simp_all
  | _ => simp [D.truth] at h
theorem snd_tval {e : Expr} {ia : I} (hK : G.K = X.K) (ha : SO X G e ia) (hp : ∀ ta, PE X e ta → PT X e (fun σ H Q => ta σ H fun x H1 => ∃ k, TruV X.K x H1 k ∧ Q k H1)) : STe X G e (.tval ia) := fun W tk =>
  PT_to (hp _ (ha W tk)) fun σ H Q ⟨env, L, Pn, Pe, hl, r, w, k, x⟩ => by
    refine ⟨env, L, _, Pe, hl, r, w, fun v1 H1 k1 e1 hl1 t1 w1 => ?_, x⟩
    obtain ⟨d, q, vd, hd, hq⟩ := w1
    obtain ⟨t, m, et⟩ := t1.isIn.mem hl1 t1.r vd
    exact ⟨q, tru_of hK t1.r m et hd, k q H1 e1 hl1 (R.cut t1.r) hq⟩
/-- a comparison as a test -/
theorem snd_tcmp {e a b : Expr} {ia ib : I} {o : Op2} (ha : SO X G a ia) (hb : SO X G b ib) (hp : ∀ ta tb, PE X a ta → PE X b tb → PT X e (tTest (tOp (r2 G o) ta tb))) : STe X G e (.tcmp o ia ib) := fun W tk =>
  PT_to (hp _ _ (ha W tk) (hb W tk)) fun σ H Q ⟨env, L, Pn, Pe, hl, r, w, k, x⟩ => by
    refine ⟨env, L, _, Pe, hl, r, w, fun v1 H1 k1 e1 hl1 t1 w1 => ?_, x⟩
    refine ⟨e1, tokL k1 v1 ++ L, _, Pe, hl1, t1.r, w1, fun v2 H2 k2 e2 hl2 t2 w2 => ?_, x.more⟩
    obtain ⟨dx, dy, vx, vy, hs⟩ := w2
    have rr := t2.r
    obtain ⟨tx, mx, ex⟩ := (TokIn.more (N := tokL k2 v2) t1.isIn).mem hl2 rr vx
    obtain ⟨ty, my, ey⟩ := t2.isIn.mem hl2 rr vy
    refine ⟨_, tx, ty, dx, dy, _, rr, mx, ex, my, ey, hs, fun v H' t r' hp => ?_⟩
    obtain ⟨q, et, hq⟩ := hp
    subst et
    exact ⟨q, r'.bl List.mem_cons_self rfl, k q H' e2 hl2 (drop_tok (drop_tok r')).pop hq⟩
theorem snd_tchain {e a b c : Expr} {ia ib ic : I} {o o' : Op2} (ha : SO X G a ia) (hb : SO X G b ib) (hc : SO X G c ic) (hp : ∀ ta tb tc, PE X a ta → PE X b tb → PE X c tc → PT X e (tTest (tChain (r2 G o) (r2 G o') ta tb tc))) : STe X G e (.tchain o o' ia ib ic) := fun W tk =>
  PT_to (hp _ _ _ (ha W tk) (hb W tk) (hc W tk)) fun σ H Q ⟨env, L, Pn, Pe, hl, r, w, k, x⟩ => by
    refine ⟨env, L, _, Pe, hl, r, w, fun v1 H1 k1 e1 hl1 t1 w1 => ?_, x⟩
    refine ⟨e1, tokL k1 v1 ++ L, _, Pe, hl1, t1.r, w1, fun v2 H2 k2 e2 hl2 t2 w2 => ?_, x.more⟩
    obtain ⟨dx, dy, vx, vy, hs⟩ := w2
    have rr := t2.r
    obtain ⟨tx, mx, ex⟩ := (TokIn.more (N := tokL k2 v2) t1.isIn).mem hl2 rr vx
    obtain ⟨ty, my, ey⟩ := t2.isIn.mem hl2 rr vy
    refine ⟨_, tx, ty, dx, dy, _, rr, mx, ex, my, ey, hs, fun v H' t r' hp' => ?_⟩
    obtain ⟨q, et, hq⟩ := hp'
    subst et
    refine ⟨q, r'.bl List.mem_cons_self rfl, ?_⟩
    cases q with
    | true =>
      rw [if_pos rfl] at hq ⊢
      refine ⟨e2, tokL k2 v2 ++ (tokL k1 v1 ++ L), _, Pe, hl2, r'.pop, hq, fun v3 H3 k3 e3 hl3 t3 w3 => ?_, x.more.more⟩
      obtain ⟨dy', dz, vy', vz, hs'⟩ := w3
      have rr3 := t3.r
      obtain ⟨ty', my', ey'⟩ := (TokIn.more (N := tokL k3 v3) t2.isIn).mem hl3 rr3 vy'
      obtain ⟨tz, mz, ez⟩ := t3.isIn.mem hl3 rr3 vz
      refine ⟨_, ty', tz, dy', dz, _, rr3, my', ey', mz, ez, hs', fun v H' t r' hp => ?_⟩
      obtain ⟨q, et, hq⟩ := hp
      subst et
      exact ⟨q, r'.bl List.mem_cons_self rfl, k q H' e3 hl3 (drop_tok (drop_tok (drop_tok r'))).pop hq⟩
    | false =>
      rw [if_neg Bool.false_ne_true] at hq ⊢
      exact ⟨false, rfl, k false H' e2 hl2 (drop_tok (drop_tok r')).pop hq⟩
/-! ## arguments, displays -/
theorem sa_nil : SA X G [] .anil := fun W tk => PA_to pa_nil fun σ H Q ⟨env, L, Pn, Pe, hl, r, w, k, x⟩ => k [] [] H [] env hl trivial rfl r w
theorem sa_cons {e : Expr} {es : List Expr} {ia ir : I} (ha : SE X G e ia) (hr : SA X G es ir) (hs : starEach (e :: es) X.env = (false, eval e X.env) :: starEach es X.env) : SA X G (e :: es) (.acons ia ir) := fun W tk =>
  PA_to (pa_cons (ha W tk) (hr W tk) hs) fun σ H Q ⟨env, L, Pn, Pe, hl, r, w, k, x⟩ => by
    refine ⟨env, L, _, Pe, hl, r, w, fun v1 H1 t1 e1 hl1 r1 w1 => ?_, x⟩
    obtain ⟨d, hd, w2⟩ := w1
    have r2 : R G H1 (σ.zip e1 ++ ([(some v1, some (.val d))] ++ L)) := R.mid (A := [_]) (r1.frz hd)
    refine ⟨e1, [(some v1, some (.val d))] ++ L, _, Pe, hl1, r2, w2, fun vs dvs H2 ds e2 hl2 mx hv r3 w3 => ?_, x.more⟩
    refine k (v1 :: vs) (v1 :: dvs) H2 (d :: ds) e2 hl2 ⟨rfl, mx⟩ (by simp [hv]) ?_ w3
    show R G H2 ((some v1, some (.val d)) :: (prs dvs (vals ds) ++ (σ.zip e2 ++ L)))
    rw [← List.append_assoc] at r3
    have := R.mid r3
    rw [List.append_assoc] at this
    exact this
theorem sa_ref {e : Expr} {es : List Expr} {i : Nat} {ir : I} (ha : PE X e (tVar i)) (hr : SA X G es ir) (hs : starEach (e :: es) X.env = (false, eval e X.env) :: starEach es X.env) : SA X G (e :: es) (.aref i ir) := fun W tk =>
  PA_to (pa_cons ha (hr W tk) hs) fun σ H Q ⟨env, L, Pn, Pe, hl, r, w, k, x⟩ => by
    obtain ⟨⟨t, he⟩, w⟩ : (∃ t, env[i]? = some (some t)) ∧ wpA ir env Pn Pe := w
    obtain ⟨v, hv, _⟩ := r.slotV hl he
    exact ⟨v, hv, env, L, Pn, Pe, hl, r, w, fun vs dvs H2 ds e2 hl2 mx hl3 r3 w3 => k (v :: vs) dvs H2 ds e2 hl2 ⟨hv, mx⟩ hl3 r3 w3, x⟩
theorem mix_none : ∀ {a : I} {dvs vs : List V}, refs a = [] → mixA a σ dvs vs → dvs = vs
  | .anil, [], [], _, _ => rfl
  | .acons _ r, d :: ds, v :: vs, e, h => by
    rw [h.1, mix_none (a := r) e h.2]
  | .aref i r, _, _, e, _ => by simp [refs] at e
theorem snd_tup {e : Expr} {es : List Expr} {ia : I} (hn : refs ia = []) (ha : SA X G es ia) (hp : ∀ ta, PA X es ta → PE X e (tTup ta)) : SE X G e (.tup ia) := fun W tk =>
  PE_to (hp _ (ha W tk)) fun σ H Q ⟨env, L, Pn, Pe, hl, r, w, k, x⟩ =>
    ⟨env, L, _, Pe, hl, r, w, fun vs dvs H1 ds e1 hl1 mx hv r1 w1 => by
      have := mix_none hn mx
      subst this
      exact ⟨lim_line (hv ▸ w1.1), fun p np => k _ _ _ e1 hl1 (R.newT r1 hv np) w1.2⟩, x⟩
theorem snd_lst {e : Expr} {es : List Expr} {ia : I} (hn : refs ia = []) (ha : SA X G es ia) (hp : ∀ ta, PA X es ta → PE X e (tLst ta)) : SE X G e (.lst ia) := fun W tk =>
  PE_to (hp _ (ha W tk)) fun σ H Q ⟨env, L, Pn, Pe, hl, r, w, k, x⟩ =>
    ⟨env, L, _, Pe, hl, r, w, fun vs dvs H1 ds e1 hl1 mx hv r1 w1 => by
      have := mix_none hn mx
      subst this
      exact ⟨lim_line (hv ▸ w1.1), fun p np => k _ _ _ e1 hl1 (R.newL r1 (by rw [vals_len]; exact hv) np) w1.2⟩, x⟩
end
end FW
set_option Elab.async false
set_option linter.all false
set_option maxRecDepth 100000
set_option maxHeartbeats 1000000
namespace FW
open PySem PySem.Spec PyProof.Rows L2
section
variable {G : GC} {X : Cx} {H H' : Hp} {σ : L2.St} {env : Env'} {L L' : List Pr}
/-! ## several operands -/
def TokIns (σ : L2.St) : List Tok → List V → List Pr → Prop
  | [], [], _ => True
  | k :: ks, v :: vs, M => TokIn σ k v M ∧ TokIns σ ks vs M
  | _, _, _ => False
def MemV (L : List Pr) : List V → List D → Prop
  | [], [] => True
  | v :: vs, d :: ds => (∃ t, (some v, some t) ∈ L ∧ t.view = some d) ∧ MemV L vs ds
  | _, _ => False
theorem TokIns.more {N M : List Pr} : ∀ {ks : List Tok} {vs : List V}, TokIns σ ks vs M → TokIns σ ks vs (N ++ M)
  | [], [], _ => trivial
  | _ :: _, _ :: _, h => ⟨h.1.more, h.2.more⟩
  | [], _ :: _, h => h.elim
  | _ :: _, [], h => h.elim
theorem TokIns.mem {M : List Pr} {e : Env'} (hl : σ.length = e.length) (r : R G H (σ.zip e ++ M)) : ∀ {ks : List Tok} {vs : List V} {ds : List D}, TokIns σ ks vs M → viewAll e ks = some ds → MemV (σ.zip e ++ M) vs ds
  | [], [], ds, _, w => by simp [viewAll] at w; subst w; trivial
  | k :: ks, v :: vs, ds, h, w => by
    simp only [viewAll, Option.bind_eq_some_iff, Option.map_eq_some_iff] at w
    obtain ⟨d, w1, ds', w2, rfl⟩ := w
    exact ⟨h.1.mem hl r w1, TokIns.mem hl r h.2 w2⟩
  | [], _ :: _, _, h, _ => h.elim
  | _ :: _, [], _, h, _ => h.elim
def TofOs (G : GC) (a : I) (W : WX) : TA := fun σ H Q => ∃ (env : Env') (L : List Pr) (Pn : List Tok → Env' → Prop) (Pe : KE), σ.length = env.length ∧ R G H (σ.zip env ++ L) ∧ wpOs a env Pn Pe ∧
  (∀ vs H' ks e' M, σ.length = e'.length → R G H' (σ.zip e' ++ (M ++ L)) → TokIns σ ks vs (M ++ L) → Pn ks e' → Q vs H') ∧ ExcTo G σ L Pe W
def SOs (X : Cx) (G : GC) (es : List Expr) (a : I) : Prop := ∀ W, Takes X W → PA X es (TofOs G a W)
theorem sos_nil : SOs X G [] .anil := fun W tk => PA_to pa_nil fun σ H Q ⟨env, L, Pn, Pe, hl, r, w, k, x⟩ => k [] H [] env [] hl r trivial w
theorem sos_cons {e : Expr} {es : List Expr} {ia ir : I} (ha : SO X G e ia) (hr : SOs X G es ir) (hs : starEach (e :: es) X.env = (false, eval e X.env) :: starEach es X.env) : SOs X G (e :: es) (.acons ia ir) := fun W tk =>
  PA_to (pa_cons (ha W tk) (hr W tk) hs) fun σ H Q ⟨env, L, Pn, Pe, hl, r, w, k, x⟩ => by
    refine ⟨env, L, _, Pe, hl, r, w, fun v1 H1 k1 e1 hl1 t1 w1 => ?_, x⟩
    refine ⟨e1, tokL k1 v1 ++ L, _, Pe, hl1, t1.r, w1, fun vs H2 ks e2 M hl2 r2 m2 w2 => ?_, x.more⟩
    have i1 : TokIn σ k1 v1 (M ++ (tokL k1 v1 ++ L)) := t1.isIn.more
    rw [← List.append_assoc] at m2 i1
    rw [← List.append_assoc M] at r2
    exact k (v1 :: vs) H2 (k1 :: ks) e2 (M ++ tokL k1 v1) hl2 r2 ⟨i1, m2⟩ w2
/-- what is wanted of a built-in -/
def rB (G : GC) (f : Bf) : List V → Hp → VK → Prop := fun vs H Q => ∃ (L : List Pr) (ds : List D) (P : T → Prop), R G H L ∧ MemV L vs ds ∧ bfS f ds P ∧ ∀ v H' t, R G H' ((some v, some t) :: L) → P t → Q v H'
theorem snd_blt {e : Expr} {es : List Expr} {ia : I} {f : Bf} (ha : SOs X G es ia) (hp : ∀ ta, PA X es ta → PE X e (tCB (rB G f) ta)) : SE X G e (.blt f ia) := fun W tk =>
  PE_to (hp _ (ha W tk)) fun σ H Q ⟨env, L, Pn, Pe, hl, r, w, k, x⟩ => by
    refine ⟨env, L, _, Pe, hl, r, w, fun vs H1 ks e1 M hl1 r1 m1 w1 => ?_, x⟩
    obtain ⟨ds, vw, hs⟩ := w1
    refine ⟨_, ds, _, r1, TokIns.mem hl1 r1 m1 vw, hs, fun v H' t r' hp => k v H' t e1 hl1 ?_ hp⟩
    have r'' : R G H' (((some v, some t) :: σ.zip e1) ++ (M ++ L)) := r'
    exact R.cut r''
theorem memV1 {vs : List V} {d : D} (h : MemV L vs [d]) : ∃ v t, vs = [v] ∧ (some v, some t) ∈ L ∧ t.view = some d := by
  match vs, h with
  | [v], ⟨⟨t, a, b⟩, _⟩ => exact ⟨v, t, rfl, a, b⟩
  | [], h => exact h.elim
  | _ :: _ :: _, h => exact h.2.elim
theorem memV2 {vs : List V} {d e : D} (h : MemV L vs [d, e]) : ∃ v u t t', vs = [v, u] ∧ (some v, some t) ∈ L ∧ t.view = some d ∧ (some u, some t') ∈ L ∧ t'.view = some e := by
  match vs, h with
  | [v, u], ⟨⟨t, a, b⟩, ⟨t', a', b'⟩, _⟩ => exact ⟨v, u, t, t', rfl, a, b, a', b'⟩
  | [], h => exact h.elim
  | [_], h => exact h.2.elim
  | _ :: _ :: _ :: _, h => exact h.2.2.elim
theorem sqt_of (e : G.K = X.K) {p : Addr} {xs : List V} (h : SqT G.K H p xs) : SqT X.K H p xs := e ▸ h
theorem c_len (e : G.K = X.K) : CallR X (.builtin "len") (rB G .len) := by
  intro pins s σ H vs us Q I rv h
  obtain ⟨L, ds, P, r, m, hs, k⟩ := h
  match ds, hs with
  | [.tup a], hs =>
    obtain ⟨v, t, rfl, m1, e1⟩ := memV1 m
    obtain ⟨p, xs, rfl, q, l, _⟩ := r.tupV m1 e1
    refine call_len_seq pins s σ H _ us Q I rv ⟨p, xs, rfl, .inr (sqt_of e q), ?_⟩
    rw [l]
    exact k _ _ _ (r.pInt _) hs
  | [.lst a], hs =>
    obtain ⟨v, t, rfl, m1, e1⟩ := memV1 m
    obtain ⟨p, xs, rfl, q, l, _⟩ := r.lstV m1 e1
    refine call_len_seq pins s σ H _ us Q I rv ⟨p, xs, rfl, .inl (SqL.of q), ?_⟩
    rw [l]
    exact k _ _ _ (r.pInt _) hs
  | [.scr a], hs =>
    obtain ⟨v, t, rfl, m1, e1⟩ := memV1 m
    cases r.vw m1 e1 with
    | val z =>
      obtain ⟨B, fp, rs, sh⟩ := z
      cases sh with
      | scr q =>
        refine call_len_seq pins s σ H _ us Q I rv ⟨_, _, rfl, .inl (e ▸ Same.sql rs.sub q), ?_⟩
        rw [List.length_map]
        exact k _ _ _ (r.pInt _) hs
theorem c_tuple (e : G.K = X.K) : CallR X (.type "tuple") (rB G .tupl) := by
  intro pins s σ H vs us Q I rv h
  obtain ⟨L, ds, P, r, m, hs, k⟩ := h
  match ds, hs with
  | [.tup a], hs =>
    obtain ⟨v, t, rfl, m1, e1⟩ := memV1 m
    obtain ⟨p, xs, rfl, q, l, _⟩ := r.tupV m1 e1
    cases r.vw m1 e1 with
    | val z => exact call_tuple_of pins s σ H _ us Q I rv ⟨p, xs, rfl, .inr ⟨sqt_of e q, k _ _ _ (R.pushB z) hs⟩⟩
  | [.lst a], hs =>
    obtain ⟨v, t, rfl, m1, e1⟩ := memV1 m
    obtain ⟨p, xs, rfl, q, l, z⟩ := r.lstV m1 e1
    exact call_tuple_of pins s σ H _ us Q I rv ⟨p, xs, rfl, .inl ⟨SqL.of q, fun np hn => k _ _ _ (R.newT (R.pushLB z) l hn) hs⟩⟩
theorem c_list (e : G.K = X.K) : CallR X (.type "list") (rB G .list) := by
  intro pins s σ H vs us Q I rv h
  obtain ⟨L, ds, P, r, m, hs, k⟩ := h
  match ds, hs with
  | [.tup a], hs =>
    obtain ⟨v, t, rfl, m1, e1⟩ := memV1 m
    obtain ⟨p, xs, rfl, q, l, z⟩ := r.tupV m1 e1
    exact call_list_of pins s σ H _ us Q I rv ⟨p, xs, rfl, .inr (sqt_of e q), fun np hn => k _ _ _ (R.newL (R.pushLB z) (by rw [vals_len]; exact l) hn) hs⟩
  | [.lst a], hs =>
    obtain ⟨v, t, rfl, m1, e1⟩ := memV1 m
    obtain ⟨p, xs, rfl, q, l, z⟩ := r.lstV m1 e1
    exact call_list_of pins s σ H _ us Q I rv ⟨p, xs, rfl, .inl (SqL.of q), fun np hn => k _ _ _ (R.newL (R.pushLB z) (by rw [vals_len]; exact l) hn) hs⟩
theorem shl_bls {B : Hp} : ∀ {xs : List V} {bs : List Bool}, ShL G B xs (bs.map D.bl) → xs = bs.map V.bl
  | _, [], h => by cases h; rfl
  | _, b :: bs, h => by
    cases h with
    | cons a t => cases a; rw [shl_bls t]; rfl
theorem shl_ints {B : Hp} : ∀ {xs : List V} {bs : List Int}, ShL G B xs (bs.map D.int) → xs = bs.map V.int
  | _, [], h => by cases h; rfl
  | _, b :: bs, h => by
    cases h with
    | cons a t => cases a; rw [shl_ints t]; rfl
theorem c_all (hc : X.calm = true) : CallR X (.builtin "all") (rB G .all) := by
  intro pins s σ H vs us Q I rv h
  obtain ⟨L, ds, P, r, m, hs, k⟩ := h
  match ds, hs with
  | [.lst a], ⟨bs, ea, hs⟩ =>
    subst ea
    obtain ⟨v, t, rfl, m1, e1⟩ := memV1 m
    obtain ⟨p, xs, rfl, q, l, B, fp, rs, sl⟩ := r.lstV m1 e1
    rw [shl_bls sl] at q
    exact cr_all hc pins s σ H _ us Q I rv ⟨p, bs, rfl, SqL.of q, k _ _ _ (r.pBl _) hs⟩
theorem c_any (hc : X.calm = true) : CallR X (.builtin "any") (rB G .any) := by
  intro pins s σ H vs us Q I rv h
  obtain ⟨L, ds, P, r, m, hs, k⟩ := h
  match ds, hs with
  | [.lst a], ⟨bs, ea, hs⟩ =>
    subst ea
    obtain ⟨v, t, rfl, m1, e1⟩ := memV1 m
    obtain ⟨p, xs, rfl, q, l, B, fp, rs, sl⟩ := r.lstV m1 e1
    rw [shl_bls sl] at q
    exact cr_any hc pins s σ H _ us Q I rv ⟨p, bs, rfl, SqL.of q, k _ _ _ (r.pBl _) hs⟩
theorem c_sum (hc : X.calm = true) : CallR X (.builtin "sum") (rB G .sum) := by
  intro pins s σ H vs us Q I rv h
  obtain ⟨L, ds, P, r, m, hs, k⟩ := h
  match ds, hs with
  | [.lst a], ⟨bs, ea, hs⟩ =>
    subst ea
    obtain ⟨v, t, rfl, m1, e1⟩ := memV1 m
    obtain ⟨p, xs, rfl, q, l, B, fp, rs, sl⟩ := r.lstV m1 e1
    rw [shl_ints sl] at q
    exact cr_sum hc pins s σ H _ us Q I rv ⟨p, bs, rfl, SqL.of q, k _ _ _ (r.pInt _) hs⟩
theorem c_maxL (hc : X.calm = true) : CallR X (.builtin "max") (rB G .maxL) := by
  intro pins s σ H vs us Q I rv h
  obtain ⟨L, ds, P, r, m, hs, k⟩ := h
  match ds, hs with
  | [.lst a], ⟨ns, ea, ne, hs⟩ =>
    subst ea
    obtain ⟨v, t, rfl, m1, e1⟩ := memV1 m
    obtain ⟨p, xs, rfl, q, l, B, fp, rs, sl⟩ := r.lstV m1 e1
    rw [shl_ints sl] at q
    exact cr_max hc pins s σ H _ us Q I rv ⟨p, ns, rfl, SqL.of q, List.length_pos_iff.mpr ne, fun z h1 h2 => k _ _ _ (r.pInt _) (hs z h1 h2)⟩
/-! min of a list of tuples of ints -/
theorem listLt_ints : ∀ xs ys : List Int, PySem.W.listLt xs ys = decide (xs < ys)
  | [], [] => by simp [PySem.W.listLt]
  | [], _ :: _ => by simp [PySem.W.listLt]
  | _ :: _, [] => by simp [PySem.W.listLt]
  | x :: xs, y :: ys => by
    unfold PySem.W.listLt
    by_cases h : x = y
    · subst h
      rw [if_pos rfl, listLt_ints xs ys]
      simp [List.cons_lt_cons_iff]
    · rw [if_neg h]
      show decide (x < y) = _
      simp [List.cons_lt_cons_iff, h]
theorem fold_least : ∀ (xs : List (List Int)) (x : List Int), let m := xs.foldl (fun a y => if y < a then y else a) x; m ∈ x :: xs ∧ ∀ y ∈ x :: xs, ¬ y < m
  | [], x => by simp [List.lt_irrefl]
  | y :: ys, x => by
    obtain ⟨h1, h2⟩ := fold_least ys (if y < x then y else x)
    simp only [List.foldl_cons] at h1 h2 ⊢
    generalize ys.foldl (fun a y => if y < a then y else a) (if y < x then y else x) = m at h1 h2
    by_cases c : y < x
    · rw [if_pos c] at h1 h2
      refine ⟨?_, fun z hz => ?_⟩
      · rcases List.mem_cons.mp h1 with e | e <;> simp [e]
      · rcases List.mem_cons.mp hz with e | e
        · subst e
          exact fun q => h2 y List.mem_cons_self (List.lt_trans c q)
        · exact h2 z e
    · rw [if_neg c] at h1 h2
      refine ⟨?_, fun z hz => ?_⟩
      · rcases List.mem_cons.mp h1 with e | e <;> simp [e]
      · rcases List.mem_cons.mp hz with e | e
        · exact h2 z (by simp [e])
        · rcases List.mem_cons.mp e with e | e
          · subst e
            intro q
            exact h2 x List.mem_cons_self (List.lt_of_le_of_lt (List.not_lt.mp c) q)
          · exact h2 z (by simp [e])
theorem pyL_tups (rs : List (List Int)) : D.pyL (rs.map fun r => D.tup (r.map D.int)) = (rs.map PySem.W.Tup.mk).map PySem.W.Datum.toD := by
  have one : ∀ r : List Int, D.pyL (r.map D.int) = r.map PyData.int := by
    intro r
    induction r with
    | nil => rfl
    | cons a r ih => simp [D.pyL, D.py, ih]
  induction rs with
  | nil => rfl
  | cons r rs ih =>
    simp only [List.map_cons, D.pyL, ih, D.py, one]
    rfl
theorem minOf_least (r : List Int) (rs : List (List Int)) : (PySem.W.minOf (PySem.W.Tup.mk r) (rs.map PySem.W.Tup.mk)).items = rs.foldl (fun a y => if y < a then y else a) r := by
  unfold PySem.W.minOf
  induction rs generalizing r with
  | nil => rfl
  | cons y ys ih =>
    rw [List.map_cons, List.foldl_cons, List.foldl_cons, ← ih]
    have e : PySem.W.DatumOrd.lt (PySem.W.Tup.mk y) (PySem.W.Tup.mk r) = decide (y < r) := listLt_ints y r
    rw [e]
    by_cases c : y < r
    · simp [c]
    · simp [c]
theorem c_minL (hc : X.calm = true) (hK : G.K = X.K) (hu : X.A.units + 65 < cLine) : CallR X (.builtin "min") (rB G .minL) := by
  intro pins s σ H vs us Q I rv h
  obtain ⟨L, ds, P, r, m, hs, k⟩ := h
  match ds, hs with
  | [.lst a], .inl ⟨ns, ea, ne, hs⟩ =>
    subst ea
    obtain ⟨v, t, rfl, m1, e1⟩ := memV1 m
    obtain ⟨p, xs, rfl, q, l, B, fp, rs, sl⟩ := r.lstV m1 e1
    rw [shl_ints sl] at q
    exact cr_min hc pins s σ H _ us Q I rv ⟨p, ns, rfl, SqL.of q, List.length_pos_iff.mpr ne, fun z h1 h2 => k _ _ _ (r.pInt _) (hs z h1 h2)⟩
  | [.lst a], .inr ⟨rows, ea, ne, hs⟩ =>
    subst ea
    obtain ⟨v, t, rfl, m1, e1⟩ := memV1 m
    obtain ⟨p, xs, rfl, q, l, B, fp, rs, sl⟩ := r.lstV m1 e1
    obtain ⟨its, rvs, pl, _⟩ := I.list (SqL.of (K := X.K) q)
    rw [Vals.ref1 rv]
    obtain ⟨row, rows', rfl⟩ : ∃ row rows', rows = row :: rows' := by
      cases rows with
      | nil => exact absurd rfl ne
      | cons a b => exact ⟨a, b, rfl⟩
    have pll : ∀ rows : List (List Int), D.plL (rows.map fun r => D.tup (r.map D.int)) 20 = true := by
      have one : ∀ r : List Int, D.plL (r.map D.int) 19 = true := by
        intro r
        induction r with
        | nil => rfl
        | cons a r ih => simp [D.plL, D.pl, ih]
      intro rows
      induction rows with
      | nil => rfl
      | cons a b ih => simp [D.plL, D.pl, ih, one]
    obtain ⟨as, rd⟩ := Dp.readsAll I _ xs its (ShL.dp hK rs.sub sl (pll (row :: rows'))) rvs
    rw [pyL_tups] at rd
    refine PySem.W.min_list_datum (α := PySem.W.Tup Int) (x := ⟨row⟩) (xs := rows'.map PySem.W.Tup.mk) (I.ok.hd hc) pl.isList ⟨as, rd⟩ (Nat.lt_of_le_of_lt (Nat.add_le_add_left (show 1 + PySem.W.Datum.depth (PySem.W.Tup Int) ≤ 65 by decide) _) hu) fun i v h' tk hv hh hk => ?_
    have hv : its[i]? = some v := by simpa using hv
    have lx := rvs.length
    obtain ⟨w, hw⟩ : ∃ w, xs[i]? = some w := by
      have : i < its.length := (List.getElem?_eq_some_iff.mp hv).1
      exact ⟨xs[i], List.getElem?_eq_getElem (by omega)⟩
    obtain ⟨u, hu1, hu2⟩ := rvs.get hw
    rw [hv] at hu1
    cases hu1
    obtain ⟨d, hd, shd⟩ := sl.get hw
    obtain ⟨rw_, hr1, hr2⟩ : ∃ z, (row :: rows')[i]? = some z ∧ d = .tup (z.map D.int) := by
      rw [List.getElem?_map] at hd
      cases hz : (row :: rows')[i]? with
      | none => rw [hz] at hd; cases hd
      | some z => rw [hz] at hd; cases hd; exact ⟨z, rfl, rfl⟩
    subst hr2
    have pd : D.pl (.tup (rw_.map D.int)) 20 = true := by
      have := pll [rw_]
      simpa [D.plL] using this
    obtain ⟨bs, rd1⟩ := Dp.reads I _ w v (Sh.dp hK rs.sub shd pd) hu2
    obtain ⟨cs, rd2⟩ := hh
    have rd1' := Reads.keeps hk rd1
    have pyd : (D.tup (rw_.map D.int)).py = PySem.W.Datum.toD (PySem.W.Tup.mk rw_) := by
      have := pyL_tups [rw_]
      simpa [D.pyL] using this
    rw [pyd] at rd1'
    have same := PySem.W.alike_unique _ _ v _ _ (PySem.W.DatumOrd.alike (PySem.W.Tup.mk rw_) _) rd1' rd2
    have eqm : PySem.W.Tup.mk rw_ = PySem.W.minOf (PySem.W.Tup.mk row) (rows'.map PySem.W.Tup.mk) := by
      have e := PySem.W.Datum.eqv (PySem.W.Tup.mk rw_) (PySem.W.minOf (PySem.W.Tup.mk row) (rows'.map PySem.W.Tup.mk))
      rw [← same, PySem.W.Datum.eqv] at e
      simpa using e.symm
    have er : rw_ = rows'.foldl (fun a y => if y < a then y else a) row := by
      rw [← minOf_least, ← eqm]
    obtain ⟨f1, f2⟩ := fold_least rows' row
    rw [← er] at f1 f2
    exact ⟨w, H, I.kept (t' := tk) hk, hu2, k _ _ _ (R.pushB ⟨B, fp, rs, shd⟩) (hs rw_ f1 f2)⟩
theorem c_abs : CallR X (.builtin "abs") (rB G .abs) := by
  intro pins s σ H vs us Q I rv h
  obtain ⟨L, ds, P, r, m, hs, k⟩ := h
  match ds, hs with
  | [.int i], hs =>
    obtain ⟨v, t, rfl, m1, e1⟩ := memV1 m
    have := r.int m1 e1; subst this
    exact call_abs pins s σ H _ us Q I rv ⟨i, rfl, k _ _ _ (r.pInt _) hs⟩
theorem c_int : CallR X (.type "int") (rB G .int) := by
  intro pins s σ H vs us Q I rv h
  obtain ⟨L, ds, P, r, m, hs, k⟩ := h
  match ds, hs with
  | [.int i], hs =>
    obtain ⟨v, t, rfl, m1, e1⟩ := memV1 m
    have := r.int m1 e1; subst this
    exact call_int1 pins s σ H _ us Q I rv (.inl ⟨i, rfl, k _ _ _ (r.pInt _) hs⟩)
  | [.bl i], hs =>
    obtain ⟨v, t, rfl, m1, e1⟩ := memV1 m
    have := r.bl m1 e1; subst this
    exact call_int1 pins s σ H _ us Q I rv (.inr ⟨i, rfl, k _ _ _ (r.pInt _) hs⟩)
theorem c_min2 (hc : X.calm = true) : CallR X (.builtin "min") (rB G .min2) := by
  intro pins s σ H vs us Q I rv h
  obtain ⟨L, ds, P, r, m, hs, k⟩ := h
  match ds, hs with
  | [.int i, .int j], hs =>
    obtain ⟨v, u, t, t', rfl, m1, e1, m2, e2⟩ := memV2 m
    have := r.int m1 e1; subst this
    have := r.int m2 e2; subst this
    exact call_min2 hc pins s σ H _ us Q I rv ⟨i, j, rfl, k _ _ _ (r.pInt _) hs⟩
theorem c_max2 (hc : X.calm = true) : CallR X (.builtin "max") (rB G .max2) := by
  intro pins s σ H vs us Q I rv h
  obtain ⟨L, ds, P, r, m, hs, k⟩ := h
  match ds, hs with
  | [.int i, .int j], hs =>
    obtain ⟨v, u, t, t', rfl, m1, e1, m2, e2⟩ := memV2 m
    have := r.int m1 e1; subst this
    have := r.int m2 e2; subst this
    exact call_max2 hc pins s σ H _ us Q I rv ⟨i, j, rfl, k _ _ _ (r.pInt _) hs⟩
theorem py_noDict : ∀ (d : D), d.py.hasDict = false := by
  have key : ∀ (n : Nat) (d : D), sizeOf d < n → d.py.hasDict = false := by
    intro n
    induction n with
    | zero => intro d h; omega
    | succ n ih =>
      have all : ∀ ds : List D, sizeOf ds < n + 1 → PyData.hasDictAll (D.pyL ds) = false := by
        intro ds
        induction ds with
        | nil => intro _; simp [D.pyL, PyData.hasDictAll]
        | cons d ds ih2 =>
          intro h
          simp only [List.cons.sizeOf_spec] at h
          simp only [D.pyL, PyData.hasDictAll, Bool.or_eq_false_iff]
          exact ⟨ih d (by omega), ih2 (by omega)⟩
      intro d h
      cases d with
      | tup ds => simp only [D.tup.sizeOf_spec] at h; simp only [D.py, PyData.hasDict]; exact all ds (by omega)
      | lst ds => simp only [D.lst.sizeOf_spec] at h; simp only [D.py, PyData.hasDict]; exact all ds (by omega)
      | _ => simp [D.py, PyData.hasDict]
  exact fun d => key _ d (Nat.lt_succ_self _)
theorem c_repr (e : G.K = X.K) (hg : X.A.guards = some []) (hu : X.A.units + 128 < cLine) : CallR X (.builtin "repr") (rB G .repr) := by
  intro pins s σ H vs us Q I rv h
  obtain ⟨L, ds, P, r, m, hs, k⟩ := h
  match ds, hs with
  | [x], ⟨⟨h0, h1, h2, h3⟩, hp⟩ =>
    obtain ⟨v, t, rfl, m1, e1⟩ := memV1 m
    have dp := r.dp e m1 e1 h1
    have isr : ∃ p, v = .ref p := by
      cases x with
      | tup ds => obtain ⟨p, _, z, _⟩ := r.tupV m1 e1; exact ⟨p, z⟩
      | lst ds => obtain ⟨p, _, z, _⟩ := r.lstV m1 e1; exact ⟨p, z⟩
      | _ => cases h0
    obtain ⟨p, rfl⟩ := isr
    obtain ⟨u, rfl, ru⟩ : ∃ u, us = [u] ∧ RelV (.ref p) u := by
      cases rv with
      | cons a b => cases b; exact ⟨_, rfl, a⟩
    obtain rfl : u = Value.ref p := ru
    obtain ⟨as, rd⟩ := Dp.reads I x.py _ _ dp rfl
    have hd : x.py.depth ≤ 64 := by
      have z := shaped_of_pl h1
      unfold SeqAt.shaped at z
      simp only [Bool.and_eq_true, decide_eq_true_eq] at z
      exact z.2
    refine repr_of_reads' rd h2 (fun z => by rw [py_noDict] at z; cases z) hg (by omega) (fun _ _ z => z) (fun h' u tk hk => ?_) h3
    exact ⟨.str x.py.shown, H, I.kept (t' := tk) hk, ⟨_, rfl⟩, k _ _ _ (r.push fun _ _ => .str _) hp⟩
/-! ## isinstance against a built-in class -/
def tyN : D → String
  | .non => "NoneType"
  | .bl _ => "bool"
  | .int _ => "int"
  | .str _ => "str"
  | .tup _ => "tuple"
  | .lst _ => "list"
  | .dic _ _ => "dict"
  | _ => ""
theorem tyX_of (e : G.K = X.K) {v : V} {t : T} {d : D} {n : String} {b : Bool} (r : R G H L) (m : (some v, some t) ∈ L) (w : t.view = some d) (h : d.isInst n = some b) : TyX X.K H v (.type (tyN d)) := by
  cases d with
  | non => have := r.non m w; subst this; exact .base .non
  | bl i => have := r.bl m w; subst this; exact .base (.bl i)
  | int i => have := r.int m w; subst this; exact .base (.int i)
  | str i => have := r.str m w; subst this; exact .base (.str i)
  | tup ds =>
    obtain ⟨p, xs, rfl, q, l, _⟩ := r.tupV m w
    rcases sqt_of (X := X) e q with (q | ⟨o, q⟩) | ⟨o, its, n, q, c, _⟩
    · exact .base (.tup q)
    · exact .fTuple q
    · exact .kTuple q c
  | lst ds =>
    obtain ⟨p, xs, rfl, q, l, _⟩ := r.lstV m w
    exact .base (.lst q)
  | dic ks ds =>
    cases r.vw m w with
    | val z =>
      obtain ⟨B, fp, rs, sh⟩ := z
      cases sh with
      | dic q _ _ => exact .base (.dK (rs.sub _ _ q))
  | _ => simp [D.isInst] at h
theorem kit_isInst {d : D} {n : String} {b : Bool} (hn : n = "int" ∨ n = "bool" ∨ n = "str" ∨ n = "tuple" ∨ n = "list") (h : d.isInst n = some b) : kitB (tyN d) n = some b := by
  have g : ∀ c, D.isInst d n = some c → kitB (tyN d) n = some c := by
    intro c hc
    rcases hn with rfl | rfl | rfl | rfl | rfl <;> cases d <;> simp only [D.isInst, Option.some.injEq, reduceCtorEq] at hc <;> subst hc <;> simp only [tyN] <;> decide +kernel
  exact g b h
theorem c_isi (e : G.K = X.K) : CallR X (.builtin "isinstance") (rB G .isi) := by
  intro pins s σ H vs us Q I rv h
  obtain ⟨L, ds, P, r, m, hs, k⟩ := h
  match ds, hs with
  | [d, .ty n], ⟨hn, b, hb, hs⟩ =>
    obtain ⟨v, u, t, t', rfl, m1, e1, m2, e2⟩ := memV2 m
    have := r.tyV m2 e2; subst this
    exact call_isi pins s σ H _ us Q I rv ⟨v, .ty n, .type (tyN d), .type n, b, rfl, .ty n, tyX_of e r m1 e1 hb, kit_ty (kit_isInst hn hb), k _ _ _ (r.pBl _) hs⟩
end
end FW
set_option Elab.async false
set_option linter.all false
set_option maxRecDepth 100000
set_option maxHeartbeats 1000000
namespace FW
open PySem PySem.Spec PyProof.Rows L2
/-! ## a def's contract -/
/-- the arguments' trees by the parameters' order -/
def argE : List Bool → List D → List T → Option (List T)
  | [], [], [] => some []
  | true :: m, ds, t :: ts => (argE m ds ts).map (t :: ·)
  | false :: m, d :: ds, ts => (argE m ds ts).map (.val d :: ·)
  | _, _, _ => none
def ioV : List Bool → List V → List V
  | true :: m, v :: vs => v :: ioV m vs
  | false :: m, _ :: vs => ioV m vs
  | _, _ => []
def spC (G : GC) (c : Con) : Sp := fun vs H Q E => ∃ (L : List Pr) (ds : List D) (ts as : List T) (Pn : T → List T → Prop) (Pe : D → List T → Prop), vs.length = c.io.length ∧ argE c.io ds ts = some as ∧
  R G H (prs vs as ++ L) ∧ c.run ds ts Pn Pe ∧
  (∀ v H' r ts', ts'.length = ts.length → R G H' ((some v, some r) :: (prs (ioV c.io vs) ts' ++ L)) → Pn r ts' → Q v H') ∧
  ∀ x cls d H' ts', ts'.length = ts.length → Air G x cls d H' (prs (ioV c.io vs) ts' ++ L) → Pe x ts' → E cls d H'
structure Fok (P : Program) (w : World) (K : PySem.W.Frag) (mg : Str → Option Value) (base : Heap) (G : GC) (k : Nat) (x : Str) (c : Con) : Prop where
  ex : ∃ (f : Addr) (fd : FuncData) (ps : List Str), mg x = some (.ref f) ∧ PySem.W.keepIn K (.ref f) = true ∧ Binds K fd ps [] ∧ ps.length = c.io.length ∧
    (∀ ks pm, (ks, pm) ∈ c.kws → pm.length = ps.length ∧ (∀ j ∈ pm, j < ks.length) ∧ ∀ (s : Shared) (ws : List Value), ws.length = ks.length → BindsTo s fd ⟨[], ks.zip ws⟩ (ps.zip (pmL pm ws))) ∧
    ∀ (A : Around) (outer : List Env) (s : Shared) (H : Hp) (args : Args) (us : List Value) (vs : List V) (Q : VK) (E : XK), Room k A → (c.gd = true → A.guards = some []) → Env0 P w K mg base A outer s H → BindsTo s fd args (ps.zip us) → Vals vs us → spC G c vs H Q E →
      codeAny (model P w) A (.call (.ref f) args) (CR (L2.CX P w) outer P w H s Q E) s
theorem Fok.mono {P : Program} {w : World} {K : PySem.W.Frag} {mg : Str → Option Value} {base : Heap} {G : GC} {j k : Nat} {x : Str} {c : Con} (F : Fok P w K mg base G j x c) (h : j ≤ k) : Fok P w K mg base G k x c := by
  obtain ⟨f, fd, ps, a, b, cc, d, kk, e⟩ := F.ex
  exact ⟨f, fd, ps, a, b, cc, d, kk, fun A outer s H args us vs Q E hr => e A outer s H args us vs Q E (hr.mono h)⟩
section
variable {G : GC} {X : Cx} {H H' : Hp} {σ : L2.St} {env : Env'} {L L' : List Pr}
theorem argE_vals : ∀ {m : List Bool} {ds : List D}, m.length = ds.length → (∀ b ∈ m, b = false) → argE m ds [] = some (vals ds)
  | [], [], _, _ => rfl
  | b :: m, d :: ds, e, h => by
    have hb := h b List.mem_cons_self
    subst hb
    have := argE_vals (m := m) (ds := ds) (Nat.succ.inj e) fun c hc => h c (List.mem_cons_of_mem _ hc)
    show (argE m ds []).map (T.val d :: ·) = _
    rw [this]; rfl
theorem ioV_none : ∀ {m : List Bool} {vs : List V}, (∀ b ∈ m, b = false) → ioV m vs = []
  | [], _, _ => by unfold ioV; rfl
  | b :: m, [], h => by
    have hb := h b List.mem_cons_self
    subst hb; rfl
  | b :: m, v :: vs, h => by
    have hb := h b List.mem_cons_self
    subst hb
    exact ioV_none (m := m) (vs := vs) fun c hc => h c (List.mem_cons_of_mem _ hc)
theorem mask_none {a : I} : refs a = [] → ∀ b ∈ mask a, b = false := by
  induction a <;> simp_all [mask, refs]
theorem mix_len : ∀ {a : I} {dvs vs : List V}, mixA a σ dvs vs → vs.length = (mask a).length
  | .anil, [], [], _ => rfl
  | .acons _ r, d :: ds, v :: vs, h => congrArg (· + 1) (mix_len (a := r) h.2)
  | .aref i r, ds, v :: vs, h => congrArg (· + 1) (mix_len (a := r) h.2)
/-- one slot among the arguments: where it lies -/
theorem mix_one : ∀ {a : I} {dvs vs : List V} {ds : List D} {i : Nat} {t : T}, refs a = [i] → mixA a σ dvs vs → dvs.length = ds.length →
    ∃ v as, σ[i]? = some (some v) ∧ argE (mask a) ds [t] = some as ∧ ioV (mask a) vs = [v] ∧ (prs vs as).Perm ((some v, some t) :: prs dvs (vals ds))
  | .acons _ r, d :: dvs, v :: vs, e :: ds, i, t, hr, h, hl => by
    obtain ⟨u, as, a1, a2, a3, a4⟩ := mix_one (a := r) (t := t) hr h.2 (Nat.succ.inj hl)
    refine ⟨u, .val e :: as, a1, by show (argE (mask r) ds [t]).map _ = _; rw [a2]; rfl, a3, ?_⟩
    rw [← h.1]
    show ((some d, some (T.val e)) :: prs vs as).Perm ((some u, some t) :: (some d, some (T.val e)) :: prs dvs (vals ds))
    exact (a4.cons _).trans (.swap ..)
  | .aref j r, dvs, v :: vs, ds, i, t, hr, h, hl => by
    have hr : j :: refs r = [i] := hr
    injection hr with h1 h2
    subst h1
    have e1 := mix_none h2 h.2
    subst e1
    refine ⟨v, t :: vals ds, h.1, ?_, ?_, .refl _⟩
    · show (argE (mask r) ds []).map (t :: ·) = _
      rw [argE_vals (by rw [← mix_len h.2, hl]) (mask_none h2)]; rfl
    · show v :: ioV (mask r) dvs = [v]
      rw [ioV_none (mask_none h2)]
  | .acons _ _, [], _, _, _, _, _, h, _ => by cases h
  | .acons _ _, _ :: _, [], _, _, _, _, h, _ => by cases h
  | .acons _ _, _ :: _, _ :: _, [], _, _, _, _, hl => by simp at hl
  | .aref _ _, _, [], _, _, _, _, h, _ => by cases h
/-- a def of the text is called -/
theorem snd_call {e : Expr} {es : List Expr} {x : Str} {c : Con} {ia : I} {k : Nat} {nm pos : Pos} (F : Fok X.prog X.w X.K X.mg X.base G k x c) (hr : Room k X.A) (hgd : c.gd = true → X.A.guards = some []) (hio : c.io = mask ia)
    (ha : SA X G es ia) (he : e = .Call (.Name x nm) es [] pos) (hg : Gl X x) (hdb : (x == ("__debug__" : Str)) = false) (hne : ∃ a r, es = a :: r)
    (hst : ∀ a r, es = a :: r → starEach (a :: r) X.env = (false, eval a X.env) :: starEach r X.env) (hpl : ∀ a r, es = a :: r → (backTo pos (starEach r X.env)).any (·.1) = false) : SE X G e (.call x c ia) := fun W tk => by
  obtain ⟨f, fd, ps, hm, hk, hb, hpsl, _, hF⟩ := F.ex
  obtain ⟨a0, r0, rfl⟩ := hne
  subst he
  refine ⟨fun pins s σ H Q I h => ?_⟩
  obtain ⟨env, L, Pn, Pe, hl, r, w, kk, xx⟩ := h
  refine wpAny_Call_Name_kw (ld_glob I hg hm ?_ hdb)
  refine PySem.W.callWith_K (h₀ := X.base) I.ok.mod.kin hk (thn ((ha W tk).run pos pins s σ H (fun vs H1 => spC G c vs H1 Q (fun cls d H' => W cls d σ H')) I ?_) fun us s1 ⟨vs, H1, I1, rv, q⟩ => ⟨I1.kIn, ?_⟩) (hst _ _ rfl) (hpl _ _ rfl)
  · refine ⟨env, L, _, Pe, hl, r, w, fun vs dvs H1 ds e1 hl1 mx hv r1 w1 => ?_, xx⟩
    match hre : refs ia, w1 with
    | [], w1 =>
      have := mix_none hre mx
      subst this
      refine ⟨σ.zip e1 ++ L, ds, [], vals ds, _, _, by rw [hio, mix_len mx], by rw [hio]; exact argE_vals (by rw [← mix_len mx, hv]) (mask_none hre), r1, w1, fun v H' rr ts' ht r2 p => ?_, fun z cls d H' ts' ht a p => ?_⟩
      · rw [hio, ioV_none (mask_none hre)] at r2
        exact kk v H' rr e1 hl1 r2 p
      · rw [hio, ioV_none (mask_none hre)] at a
        exact xx z cls d H' e1 hl1 a p
    | [i], w1 =>
      obtain ⟨t, he1, w1⟩ := w1
      obtain ⟨v, as, a1, a2, a3, a4⟩ := mix_one (t := t) hre mx hv
      have r2 : R G H1 (σ.zip e1 ++ (prs dvs (vals ds) ++ L)) := R.mid r1
      obtain ⟨rest, r3, _, r4⟩ := r2.slot a1 he1
      have r5 : R G H1 (prs vs as ++ (rest ++ L)) := by
        refine r3.perm ?_
        have p1 : ((some v, some t) :: (rest ++ (prs dvs (vals ds) ++ L))).Perm (((some v, some t) :: prs dvs (vals ds)) ++ (rest ++ L)) := by
          refine List.Perm.cons _ ?_
          show (rest ++ (prs dvs (vals ds) ++ L)).Perm (prs dvs (vals ds) ++ (rest ++ L))
          rw [← List.append_assoc, ← List.append_assoc]
          exact List.perm_append_comm.append_right L
        exact p1.trans (a4.symm.append_right _)
      refine ⟨rest ++ L, ds, [t], as, _, _, by rw [hio, mix_len mx], by rw [hio]; exact a2, r5, w1, fun u H' rr ts' ht r6 p => ?_, fun z cls d H' ts' ht a p => ?_⟩
      · obtain ⟨t', rfl, p⟩ := p
        rw [hio, a3] at r6
        have r6 : R G H' ((some u, some rr) :: (some v, some t') :: (rest ++ L)) := r6
        have r7 : R G H' ((some v, some t') :: (rest ++ ((some u, some rr) :: L))) := r6.perm ((List.Perm.swap ..).trans (List.Perm.cons _ List.perm_middle.symm))
        have r8 := r4 H' _ (some t') r7
        exact kk u H' rr _ (by rw [List.length_set]; exact hl1) (r8.perm List.perm_middle) p
      · obtain ⟨t', rfl, p⟩ := p
        rw [hio, a3] at a
        refine xx z cls d H' _ (by rw [List.length_set]; exact hl1) (?_ : Air G z cls d H' (σ.zip (e1.set i (some t')) ++ L)) p
        obtain ⟨cn, ns, ds', C, b1, b2, b3, b4⟩ := a
        refine ⟨cn, ns, ds', C, b1, b2, b3, ?_⟩
        rcases b4 with ⟨c1, c2, c3, rr⟩ | ⟨dd, c1, rr⟩
        · exact .inl ⟨c1, c2, c3, r4 H' L (some t') rr⟩
        · have rr : R G H' ((some (V.ref dd), some (T.xdc ns ds')) :: (some v, some t') :: (rest ++ L)) := rr
          have r7 : R G H' ((some v, some t') :: (rest ++ ((some (V.ref dd), some (T.xdc ns ds')) :: L))) := rr.perm ((List.Perm.swap ..).trans (List.Perm.cons _ List.perm_middle.symm))
          exact .inr ⟨dd, c1, (r4 H' _ (some t') r7).perm List.perm_middle⟩
    | _ :: _ :: _, w1 => exact w1.elim
  · show wpAny _ _ (call (.ref f) us) _ _ s1
    have hvl : vs.length = ps.length := by
      obtain ⟨_, _, _, _, _, _, z, _⟩ := q
      rw [z, hpsl]
    have hul : us.length = ps.length := by rw [← rv.length]; exact hvl
    refine wpAny_call (codeAny_mono (hF X.A X.stack s1 H1 ⟨us, []⟩ us vs Q _ hr hgd I1.env0 ?_ rv q) fun rr s' hq => ?_)
    · have := hb s1 us I1.kIn (by rw [List.append_nil]; exact hul)
      rwa [List.append_nil] at this
    · cases rr with
      | error e => exact tk e s' (XE.of_call I1 (E := fun cls d H' => W cls d σ H') (fun _ _ _ z => z) hq)
      | ok fl =>
        cases fl with
        | ret u => exact I1.after hq
        | next => exact False.elim hq
        | brk => exact False.elim hq
        | cont => exact False.elim hq
/-! ## keywords; a def that a slot holds -/
theorem R.shL {vs : List V} {ds : List D} {M : List Pr} (h : R G H (prs vs (vals ds) ++ M)) (hl : vs.length = ds.length) : ∃ B fp, Rs G B H M fp ∧ ShL G B vs ds := by
  obtain ⟨B, fp, s, w, n, u, tb⟩ := h
  obtain ⟨f, g, rfl, h1, h2⟩ := (owP_prs (f := []) (by rw [vals_len]; exact hl)).mp w
  obtain ⟨rfl, sh⟩ := owL_vals h1
  exact ⟨B, g, ⟨s, h2, n, fun a ha => u a (by simpa using ha), tb⟩, sh⟩
theorem shL_pm {B : Hp} {vs : List V} {ds : List D} (h : ShL G B vs ds) : ∀ pm : List Nat, ShL G B (pmL pm vs) (pmL pm ds)
  | [] => .nil
  | j :: pm => by
    have ih := shL_pm h pm
    unfold pmL at ih ⊢
    rw [List.filterMap_cons, List.filterMap_cons]
    cases e : vs[j]? with
    | none =>
      have : ds[j]? = none := by rw [List.getElem?_eq_none_iff] at e ⊢; rw [← h.length]; exact e
      rw [this]
      exact ih
    | some v =>
      obtain ⟨d, e1, e2⟩ := h.get e
      rw [e1]
      exact .cons e2 ih
theorem vals_pm {vs : List V} {us : List Value} (h : Vals vs us) : ∀ pm : List Nat, Vals (pmL pm vs) (pmL pm us)
  | [] => .nil
  | j :: pm => by
    have ih := vals_pm h pm
    unfold pmL at ih ⊢
    rw [List.filterMap_cons, List.filterMap_cons]
    cases e : vs[j]? with
    | none =>
      have : us[j]? = none := by rw [List.getElem?_eq_none_iff] at e ⊢; rw [← h.length]; exact e
      rw [this]
      exact ih
    | some v =>
      obtain ⟨d, e1, e2⟩ := h.get e
      rw [e1]
      exact .cons e2 ih
theorem pmL_len {α : Type} {xs : List α} : ∀ {pm : List Nat}, (∀ j ∈ pm, j < xs.length) → (pmL pm xs).length = pm.length
  | [], _ => rfl
  | j :: pm, h => by
    have ih := pmL_len (xs := xs) (pm := pm) fun i hi => h i (List.mem_cons_of_mem _ hi)
    unfold pmL at ih ⊢
    rw [List.filterMap_cons, List.getElem?_eq_getElem (h j List.mem_cons_self)]
    exact congrArg (· + 1) ih
theorem PK_to {e : List Keyword} {t t' : TA} (h : PK X e t) (k : ∀ σ H Q, t' σ H Q → t σ H Q) : PK X e t' := ⟨fun pos pins s σ H Q I q => h.run pos pins s σ H Q I (k σ H Q q)⟩
def SK (X : Cx) (G : GC) (es : List Keyword) (a : I) : Prop := ∀ W, Takes X W → PK X es (TofA G a W)
theorem sk_nil : SK X G [] .anil := fun W tk => PK_to pk_nil fun σ H Q ⟨env, L, Pn, Pe, hl, r, w, k, x⟩ => k [] [] H [] env hl trivial rfl r w
theorem sk_cons {e : Expr} {es : List Keyword} {nm : Option Str} {kpos : Pos} {ia ir : I} (ha : SE X G e ia) (hr : SK X G es ir) : SK X G (⟨nm, e, kpos⟩ :: es) (.acons ia ir) := fun W tk =>
  PK_to (pk_cons (ha W tk) (hr W tk)) fun σ H Q ⟨env, L, Pn, Pe, hl, r, w, k, x⟩ => by
    refine ⟨env, L, _, Pe, hl, r, w, fun v1 H1 t1 e1 hl1 r1 w1 => ?_, x⟩
    obtain ⟨d, hd, w2⟩ := w1
    have r2 : R G H1 (σ.zip e1 ++ ([(some v1, some (.val d))] ++ L)) := R.mid (A := [_]) (r1.frz hd)
    refine ⟨e1, [(some v1, some (.val d))] ++ L, _, Pe, hl1, r2, w2, fun vs dvs H2 ds e2 hl2 mx hv r3 w3 => ?_, x.more⟩
    refine k (v1 :: vs) (v1 :: dvs) H2 (d :: ds) e2 hl2 ⟨rfl, mx⟩ (by simp [hv]) ?_ w3
    show R G H2 ((some v1, some (.val d)) :: (prs dvs (vals ds) ++ (σ.zip e2 ++ L)))
    rw [← List.append_assoc] at r3
    have := R.mid r3
    rw [List.append_assoc] at this
    exact this
theorem kw_names {env : Env} {pos : Pos} : ∀ {kws : List Keyword} {ks : List Str}, kws.map (·.arg) = ks.map some → (backToKw pos (keywordEach kws env)).all (·.1.isSome) = true ∧ (backToKw pos (keywordEach kws env)).filterMap (·.1) = ks ∧ (backToKw pos (keywordEach kws env)).any (·.1.isNone) = false
  | [], [], _ => ⟨rfl, rfl, rfl⟩
  | ⟨n, e, p⟩ :: kws, k :: ks, h => by
    injection h with h1 h2
    have h1 : n = some k := h1
    subst h1
    obtain ⟨a, b, c⟩ := kw_names (env := env) (pos := pos) h2
    refine ⟨?_, ?_, ?_⟩
    · show ((some k, _) :: backToKw pos (keywordEach kws env)).all (·.1.isSome) = true
      rw [List.all_cons, a]; rfl
    · show ((some k, _) :: backToKw pos (keywordEach kws env)).filterMap (·.1) = k :: ks
      rw [List.filterMap_cons]
      exact congrArg (k :: ·) b
    · show ((some k, _) :: backToKw pos (keywordEach kws env)).any (·.1.isNone) = false
      rw [List.any_cons, c]; rfl
  | [], _ :: _, h => by cases h
  | _ :: _, [], h => by cases h
/-- f(k = v, ..) -/
theorem snd_callK {e : Expr} {kws : List Keyword} {ks : List Str} {pm : List Nat} {x : Str} {c : Con} {ia : I} {k : Nat} {nm pos : Pos} (F : Fok X.prog X.w X.K X.mg X.base G k x c) (hr : Room k X.A) (hgd : c.gd = true → X.A.guards = some []) (hio : ∀ b ∈ c.io, b = false) (hkp : (ks, pm) ∈ c.kws)
    (hrf : refs ia = []) (hml : (mask ia).length = ks.length) (ha : SK X G kws ia) (he : e = .Call (.Name x nm) [] kws pos) (hn : kws.map (·.arg) = ks.map some) (hg : Gl X x) (hdb : (x == ("__debug__" : Str)) = false) : SE X G e (.callK x c ia ks pm) := fun W tk => by
  obtain ⟨f, fd, ps, hm, hk, hb, hpsl, hkb, hF⟩ := F.ex
  obtain ⟨hpl, hpj, hbt⟩ := hkb ks pm hkp
  subst he
  refine ⟨fun pins s σ H Q I h => ?_⟩
  obtain ⟨env, L, Pn, Pe, hl, r, w, kk, xx⟩ := h
  obtain ⟨n1, n2, n3⟩ := kw_names (env := X.env) (pos := pos) hn
  refine wpAny_Call_Name_kw (ld_glob I hg hm ?_ hdb)
  refine PySem.W.callWith_KW0 (h₀ := X.base) I.ok.mod.kin hk n1 (thn ((ha W tk).run pos pins s σ H (fun vs H1 => vs.length = ks.length ∧ spC G c (pmL pm vs) H1 Q (fun cls d H' => W cls d σ H')) I ?_) fun us s1 ⟨vs, H1, I1, rv, hvl, q⟩ => ⟨I1.kIn, ?_⟩) (by rw [n3]; rfl)
  · refine ⟨env, L, _, Pe, hl, r, w, fun vs dvs H1 ds e1 hl1 mx hv r1 w1 => ?_, xx⟩
    have := mix_none hrf mx
    subst this
    have hvk : dvs.length = ks.length := by rw [mix_len mx, hml]
    refine ⟨hvk, ?_⟩
    obtain ⟨B, fp, rs, sh⟩ := R.shL r1 hv
    have plen : (pmL pm dvs).length = ps.length := by rw [pmL_len (fun j hj => by rw [hvk]; exact hpj j hj), hpl]
    refine ⟨σ.zip e1 ++ L, pmL pm ds, [], vals (pmL pm ds), _, _, by rw [plen, hpsl], argE_vals (by rw [← hpsl, ← plen, (shL_pm sh pm).length]) hio, R.pushLB ⟨B, fp, rs, shL_pm sh pm⟩, w1, fun v H' rr ts' ht r2 p => ?_, fun z cls d H' ts' ht a p => ?_⟩
    · rw [ioV_none hio] at r2
      exact kk v H' rr e1 hl1 r2 p
    · rw [ioV_none hio] at a
      exact xx z cls d H' e1 hl1 a p
  · rw [n2]
    show wpAny _ _ (call (.ref f) [] (ks.zip us)) _ _ s1
    have hul : us.length = ks.length := by rw [← rv.length]; exact hvl
    refine wpAny_call (codeAny_mono (hF X.A X.stack s1 H1 ⟨[], ks.zip us⟩ (pmL pm us) (pmL pm vs) Q _ hr hgd I1.env0 (hbt s1 us hul) (vals_pm rv pm) q) fun rr s' hq => ?_)
    cases rr with
    | error e => exact tk e s' (XE.of_call I1 (E := fun cls d H' => W cls d σ H') (fun _ _ _ z => z) hq)
    | ok fl =>
      cases fl with
      | ret u => exact I1.after hq
      | next => exact False.elim hq
      | brk => exact False.elim hq
      | cont => exact False.elim hq
/-- a def that a slot holds is called -/
theorem snd_callL {e : Expr} {es : List Expr} {i : Nat} {x : Str} {tab : List (Str × Con)} {ia : I} {k : Nat} {nm pos : Pos} (hmg : G.mg = X.mg) (F : ∀ p ∈ tab, Fok X.prog X.w X.K X.mg X.base G k p.1 p.2) (hr : Room k X.A) (hgd : ∀ p ∈ tab, p.2.gd = true → X.A.guards = some []) (hio : ∀ p ∈ tab, p.2.io = mask ia) (hrf : refs ia = [])
    (ha : SA X G es ia) (he : e = .Call (.Name x nm) es [] pos) (hv : PE X (.Name x nm) (tVar i)) (hne : ∃ a r, es = a :: r)
    (hst : ∀ a r, es = a :: r → starEach (a :: r) X.env = (false, eval a X.env) :: starEach r X.env) (hpl : ∀ a r, es = a :: r → (backTo pos (starEach r X.env)).any (·.1) = false) : SE X G e (.callL i tab ia) := fun W tk => by
  obtain ⟨a0, r0, rfl⟩ := hne
  subst he
  refine ⟨fun pins s σ H Q I h => ?_⟩
  obtain ⟨env, L, Pn, Pe, hl, r, w, kk, xx⟩ := h
  obtain ⟨y, cn, hy, hmem, w⟩ := w
  obtain ⟨f, fd, ps, hm, hk, hb, hpsl, _, hF⟩ := (F _ hmem).ex
  obtain ⟨v, hσ, hvm⟩ := r.slotV hl hy
  have ev : v = .ref f := by
    cases r.vw hvm rfl with
    | val z =>
      obtain ⟨_, _, _, s⟩ := z
      cases s with
      | fn e => rw [hmg, hm] at e; cases e; rfl
  subst ev
  refine wpAny_Call_Name_kw (thn (hv.run pins s σ H (fun u H1 => u = .ref f ∧ H1 = H) I ⟨.ref f, hσ, rfl, rfl⟩) fun u s0 ⟨v0, H0, I0, r0', q0⟩ => ?_)
  obtain ⟨rfl, rfl⟩ := q0
  obtain rfl : u = Value.ref f := r0'
  have hmk := hio _ hmem
  refine PySem.W.callWith_K (h₀ := X.base) I0.ok.mod.kin hk (thn ((ha W tk).run pos pins s0 σ _ (fun vs H1 => spC G cn vs H1 Q (fun cls d H' => W cls d σ H')) I0 ?_) fun us s1 ⟨vs, H1, I1, rv, q⟩ => ⟨I1.kIn, ?_⟩) (hst _ _ rfl) (hpl _ _ rfl)
  · refine ⟨env, L, _, Pe, hl, r, w, fun vs dvs H1 ds e1 hl1 mx hv r1 w1 => ?_, xx⟩
    have := mix_none hrf mx
    subst this
    refine ⟨σ.zip e1 ++ L, ds, [], vals ds, _, _, by rw [hmk, mix_len mx], by rw [hmk]; exact argE_vals (by rw [← mix_len mx, hv]) (mask_none hrf), r1, w1, fun v H' rr ts' ht r2 p => ?_, fun z cls d H' ts' ht a p => ?_⟩
    · rw [hmk, ioV_none (mask_none hrf)] at r2
      exact kk v H' rr e1 hl1 r2 p
    · rw [hmk, ioV_none (mask_none hrf)] at a
      exact xx z cls d H' e1 hl1 a p
  · show wpAny _ _ (call (.ref f) us) _ _ s1
    have hvl : vs.length = ps.length := by
      obtain ⟨_, _, _, _, _, _, z, _⟩ := q
      rw [z, hpsl]
    have hul : us.length = ps.length := by rw [← rv.length]; exact hvl
    refine wpAny_call (codeAny_mono (hF X.A X.stack s1 H1 ⟨us, []⟩ us vs Q _ hr (hgd _ hmem) I1.env0 ?_ rv q) fun rr s' hq => ?_)
    · have := hb s1 us I1.kIn (by rw [List.append_nil]; exact hul)
      rwa [List.append_nil] at this
    · cases rr with
      | error e => exact tk e s' (XE.of_call I1 (E := fun cls d H' => W cls d σ H') (fun _ _ _ z => z) hq)
      | ok fl =>
        cases fl with
        | ret u => exact I1.after hq
        | next => exact False.elim hq
        | brk => exact False.elim hq
        | cont => exact False.elim hq
end
end FW
set_option Elab.async false
set_option linter.all false
set_option maxRecDepth 100000
set_option maxHeartbeats 1000000
namespace FW
open PySem PySem.Spec PyProof.Rows L2
section
variable {G : GC} {X : Cx} {H H' : Hp} {σ : L2.St} {env : Env'} {L L' : List Pr}
/-! ## slices, pop -/
def TofB (G : GC) (a : I) (W : WX) : TO := fun σ H Q => ∃ (env : Env') (L : List Pr) (Pn : Option Int → Env' → Prop) (Pe : KE), σ.length = env.length ∧ R G H (σ.zip env ++ L) ∧ wpB a env Pn Pe ∧
  (∀ o H' e', σ.length = e'.length → R G H' (σ.zip e' ++ L) → Pn o e' → Q o H') ∧ ExcTo G σ L Pe W
theorem PO_to {o : Option Expr} {t t' : TO} (h : PO X o t) (k : ∀ σ H Q, t' σ H Q → t σ H Q) : PO X o t' := ⟨fun pins s σ H Q I q => h.run pins s σ H Q I (k σ H Q q)⟩
def SB (X : Cx) (G : GC) (o : Option Expr) (a : I) : Prop := ∀ W, Takes X W → PO X o (TofB G a W)
theorem sb_none : SB X G none .onone := fun W tk => PO_to po_none fun σ H Q ⟨env, L, Pn, Pe, hl, r, w, k, x⟩ => k none H env hl r w
theorem sb_some {e : Expr} {ia : I} (ha : SE X G e ia) : SB X G (some e) (.osome ia) := fun W tk =>
  PO_to (po_some (ha W tk)) fun σ H Q ⟨env, L, Pn, Pe, hl, r, w, k, x⟩ => by
    refine ⟨env, L, _, Pe, hl, r, w, fun v1 H1 t1 e1 hl1 r1 w1 => ?_, x⟩
    obtain ⟨i, et, hq⟩ := w1
    subst et
    exact ⟨i, r1.int List.mem_cons_self rfl, k _ H1 e1 hl1 r1.pop hq⟩
def slS (x : D) (lo hi : Option Int) (P : T → Prop) : Prop := match x with
  | .tup ds => P (.val (.tup (cutD ds lo hi)))
  | .lst ds => P (.lst (vals (cutD ds lo hi)))
  | _ => False
def rS (G : GC) : V → Option Int → Option Int → Hp → VK → Prop := fun x lo hi H Q => ∃ (L : List Pr) (tx : T) (dx : D) (P : T → Prop), R G H L ∧ (some x, some tx) ∈ L ∧ tx.view = some dx ∧ slS dx lo hi P ∧ ∀ v H' t, R G H' ((some v, some t) :: L) → P t → Q v H'
theorem R.cutB {xs : List V} {ds : List D} {lo hi : Option Int} (z : ∃ B fp, Rs G B H L fp ∧ ShL G B xs ds) (hl : xs.length = ds.length) : ∃ B fp, Rs G B H L fp ∧ ShL G B (cutV xs lo hi) (cutD ds lo hi) := by
  obtain ⟨B, fp, r, s⟩ := z
  refine ⟨B, fp, r, ?_⟩
  have td : ∀ (n : Nat) {xs : List V} {ds : List D}, ShL G B xs ds → ShL G B (xs.take n) (ds.take n) := by
    intro n
    induction n with
    | zero => intro xs ds _; exact .nil
    | succ n ih =>
      intro xs ds h
      cases h with
      | nil => exact .nil
      | cons a t => exact .cons a (ih t)
  have dd : ∀ (n : Nat) {xs : List V} {ds : List D}, ShL G B xs ds → ShL G B (xs.drop n) (ds.drop n) := by
    intro n
    induction n with
    | zero => intro xs ds h; exact h
    | succ n ih =>
      intro xs ds h
      cases h with
      | nil => exact .nil
      | cons a t => exact ih t
  unfold cutV cutD
  rw [hl]
  exact td _ (dd _ s)
theorem slR_all (e : G.K = X.K) : SlR X (rS G) := by
  have h0 : SlR X (fun x lo hi H Q => rSlL X.K x lo hi H Q ∨ rSlA X.K x lo hi H Q) := SlR.or sl_list sl_tupA
  intro pins s σ H x v vl vu lo hi sl Q I rx hs pl pu q
  refine h0 pins s σ H x v vl vu lo hi sl Q I rx hs pl pu ?_
  obtain ⟨L, tx, dx, P, r, m, w, hs', k⟩ := q
  cases dx with
  | tup ds =>
    obtain ⟨p, xs, rfl, q1, l1, z1⟩ := r.tupV m w
    refine .inr ⟨p, xs, rfl, sqt_of e q1, fun ⟨c1, c2⟩ => ?_, fun _ np hn => ?_⟩
    · have e1 : cutD ds lo hi = ds := by
        unfold cutD
        rw [← l1, c1, c2, l1]
        simp
      have hs' : P (.val (.tup (cutD ds lo hi))) := hs'
      rw [e1] at hs'
      cases r.vw m w with
      | val z => exact k _ _ _ (R.pushB z) hs'
    · obtain ⟨B, fp, rs, sh⟩ := R.cutB (lo := lo) (hi := hi) z1 l1
      exact k _ _ _ (R.newT (R.pushLB ⟨B, fp, rs, sh⟩) sh.length hn) hs'
  | lst ds =>
    obtain ⟨p, xs, rfl, q1, l1, z1⟩ := r.lstV m w
    obtain ⟨B, fp, rs, sh⟩ := R.cutB (lo := lo) (hi := hi) z1 l1
    exact .inl ⟨p, xs, rfl, SqL.of q1, fun np hn => k _ _ _ (R.newL (R.pushLB ⟨B, fp, rs, sh⟩) (by rw [vals_len]; exact sh.length) hn) hs'⟩
  | _ => exact hs'.elim
theorem snd_slc {e a : Expr} {lo hi : Option Expr} {ia il ih : I} (ha : SO X G a ia) (hlo : SB X G lo il) (hhi : SB X G hi ih) (hp : ∀ ta tl th, PE X a ta → PO X lo tl → PO X hi th → PE X e (tSl (rS G) ta tl th)) : SE X G e (.slc ia il ih) := fun W tk =>
  PE_to (hp _ _ _ (ha W tk) (hlo W tk) (hhi W tk)) fun σ H Q ⟨env, L, Pn, Pe, hl, r, w, k, x⟩ => by
    refine ⟨env, L, _, Pe, hl, r, w, fun v1 H1 k1 e1 hl1 t1 w1 => ?_, x⟩
    refine ⟨e1, tokL k1 v1 ++ L, _, Pe, hl1, t1.r, w1, fun l H2 e2 hl2 r2 w2 => ?_, x.more⟩
    refine ⟨e2, tokL k1 v1 ++ L, _, Pe, hl2, r2, w2, fun h H3 e3 hl3 r3 w3 => ?_, x.more⟩
    obtain ⟨dx, vx, hs⟩ := w3
    obtain ⟨tx, mx, ex⟩ := t1.isIn.mem hl3 r3 vx
    refine ⟨_, tx, dx, fun t => Pn t e3, r3, mx, ex, ?_, fun v H' t r' hp => k v H' t e3 hl3 (drop_tok r') hp⟩
    cases dx <;> exact hs
theorem snd_pop {e a : Expr} {i : Nat} (ha : PE X a (tVar i)) (hp : ∀ ta, PE X a ta → PE X e (tBM0 X.K "list" rPop ta)) : SE X G e (.pop i) := fun W tk =>
  PE_to (hp _ ha) fun σ H Q ⟨env, L, Pn, Pe, hl, r, w, k, x⟩ => by
    obtain ⟨ts, t, he, hq⟩ := w
    obtain ⟨v, hv, _⟩ := r.slotV hl he
    obtain ⟨rest, r1, _, r2⟩ := r.slot hv he
    obtain ⟨p, xs, e1, hp, hx⟩ := r1.list
    cases e1
    refine ⟨_, hv, .inl ⟨rfl, _, SqL.of hp⟩, ?_⟩
    have hx' : xs ≠ [] := fun z => by rw [z] at hx; simp at hx
    have ex : xs.dropLast ++ [xs.getLast hx'] = xs := List.dropLast_concat_getLast hx'
    refine ⟨p, xs, xs.getLast hx', rfl, rfl, hp, ?_, ?_⟩
    · rw [List.getLast_eq_getElem, List.getElem?_eq_getElem]
    · have hl2 : xs.dropLast.length = ts.length := by rw [List.length_dropLast, hx]; simp
      have pp : prs xs (ts ++ [t]) = prs xs.dropLast ts ++ [(some (xs.getLast hx'), some t)] := by
        have z : prs (xs.dropLast ++ [xs.getLast hx']) (ts ++ [t]) = prs xs.dropLast ts ++ [(some (xs.getLast hx'), some t)] := by
          unfold prs
          rw [List.zipWith_append hl2]
          rfl
        rw [ex] at z
        exact z
      have r3 : R G (upd H p (.lst xs.dropLast)) ((some (.ref p), some (.lst ts)) :: ((some (xs.getLast hx'), some t) :: (rest ++ L))) := by
        refine R.relist (L3 := []) r1 hp ?_ hl2
        rw [pp, List.append_assoc]
        exact .refl _
      have r4 : R G (upd H p (.lst xs.dropLast)) ((some (.ref p), some (.lst ts)) :: (rest ++ ((some (xs.getLast hx'), some t) :: L))) := r3.perm (List.Perm.cons _ List.perm_middle.symm)
      exact k _ _ _ _ (by rw [List.length_set]; exact hl) ((r2 _ _ (some (.lst ts)) r4).perm List.perm_middle) hq
/-! ## what a for walks -/
theorem pi_seq {tg l : Expr} {tl : TE} (hl : PE X l tl) : PI X tg l (fun σ H R => tl σ H fun x H1 => ∃ a, x = .ref a ∧ (((∃ xs, SqL X.K H1 a xs) ∧ R (Itl X.K a) H1) ∨ ((∃ xs, SqT X.K H1 a xs) ∧ R (Itt X.K a) H1))) := by
  constructor
  intro pins s σ H Rr I h
  refine thn (hl.run pins s σ H _ I h) fun v s1 hq => ?_
  obtain ⟨x, H1, I1, r1, a, rfl, q⟩ := hq
  obtain rfl : v = Value.ref a := r1
  rcases q with ⟨⟨xs, hx⟩, q⟩ | ⟨⟨xs, hx⟩, q⟩
  · obtain ⟨its, _, pl, _⟩ := I1.list hx
    exact wpAny_pyIter_list pl.isList (pi_one (tk := s1.toks) I1 _ (turn_list a _) ⟨_, Heap.get?_push_size _ rfl, rfl, rfl⟩ q)
  · obtain ⟨its, _, pl, _⟩ := I1.tuple hx
    exact wpAny_pyIter_tuple (show s1.heap.IsTuple a its.toArray from pl) (pi_one (tk := s1.toks) I1 _ (turn_tuple a _) ⟨_, Heap.get?_push_size _ rfl, rfl, rfl⟩ q)
/-- an iterator yields the items, as long as what it walks stays -/
def ItG (G : GC) (J : It) (σ : L2.St) (src : List Tok) (items : List D) (e0 : Env') (M : List Pr) : Prop :=
  ∀ (H : Hp) (σ' : L2.St) (e : Env') (N : List Pr), σ'.length = e.length → (∀ i, .slot i ∈ src → σ'[i]? = σ[i]?) → ItOk e0 src e → R G H (σ'.zip e ++ (N ++ M)) →
    (∀ (i : Nat) (d : D), items[i]? = some d → J.go i H ∧ ∀ x H', J.yld i H x H' → R G H' ((some x, some (.val d)) :: (σ'.zip e ++ (N ++ M)))) ∧ J.stop items.length H
def TofI (G : GC) (a : I) (W : WX) : TI := fun σ H Rr => ∃ (env : Env') (L : List Pr) (Pn : List Tok → List D → Env' → Prop) (Pe : KE), σ.length = env.length ∧ R G H (σ.zip env ++ L) ∧ wpI a env Pn Pe ∧
  (∀ J H' src items e' M, σ.length = e'.length → R G H' (σ.zip e' ++ (M ++ L)) → ItG G J σ src items e' (M ++ L) → (∀ i, .slot i ∈ src → ∃ t, e'[i]? = some (some t)) → Pn src items e' → Rr J H') ∧ ExcTo G σ L Pe W
def SI (X : Cx) (G : GC) (tg it : Expr) (a : I) : Prop := ∀ W, Takes X W → PI X tg it (TofI G a W)
theorem PI_to {tg it : Expr} {t t' : TI} (h : PI X tg it t) (k : ∀ σ H Q, t' σ H Q → t σ H Q) : PI X tg it t' := ⟨fun pins s σ H Q I q => h.run pins s σ H Q I (k σ H Q q)⟩
theorem tok_stay {k : Tok} {σ' : L2.St} {e0 e : Env'} {v : V} {d : D} {M : List Pr} (h : TokIn σ k v M) (hs : ∀ i, .slot i ∈ [k] → σ'[i]? = σ[i]?) (ho : ItOk e0 [k] e) (w : k.view e0 = some d) : TokIn σ' k v M ∧ k.view e = some d := by
  cases k with
  | tmp t => exact ⟨h, w⟩
  | slot i =>
    refine ⟨(hs i (by simp)).trans h, ?_⟩
    have z := ho (.slot i) (by simp) i rfl
    have w : (match e0[i]? with | some (some t) => t.view | _ => none) = some d := w
    show (match e[i]? with | some (some t) => t.view | _ => none) = some d
    rw [z]; exact w
theorem tok_there {k : Tok} {e0 : Env'} {d : D} (w : k.view e0 = some d) : ∀ i, .slot i ∈ [k] → ∃ t, e0[i]? = some (some t) := by
  intro i hi
  have e := List.mem_singleton.mp hi
  subst e
  have w : (match e0[i]? with | some (some t) => t.view | _ => none) = some d := w
  cases he : e0[i]? with
  | none => rw [he] at w; cases w
  | some o =>
    cases o with
    | none => rw [he] at w; cases w
    | some t => exact ⟨t, rfl⟩
theorem R.scrV {K : PySem.W.Frag} {H : Hp} {L : List Pr} {v : V} {t : T} {ns : List Int} (e : G.K = K) (h : R G H L) (m : (some v, some t) ∈ L) (w : t.view = some (.scr ns)) : ∃ p, v = .ref p ∧ SqL K H p (ns.map V.int) := by
  cases h.vw m w with
  | val z =>
    obtain ⟨B, fp, r, s⟩ := z
    cases s with
    | scr q => exact ⟨_, rfl, e ▸ Same.sql r.sub q⟩
theorem si_seq {tg l : Expr} {ia : I} (hK : G.K = X.K) (ha : SO X G l ia) : SI X G tg l (.iseq ia) := fun W tk =>
  PI_to (pi_seq (ha W tk)) fun σ H Rr ⟨env, L, Pn, Pe, hl, r, w, k, x⟩ => by
    have w : opn ia (wpE ia) env (fun ka e1 => ∃ x, ka.view e1 = some x ∧ itS x fun ds => Pn [ka] ds e1) Pe := w
    refine ⟨env, L, _, Pe, hl, r, w, fun v1 H1 k1 e1 hl1 t1 w1 => ?_, x⟩
    obtain ⟨d, vd, hs⟩ := w1
    obtain ⟨t, m, et⟩ := t1.isIn.mem hl1 t1.r vd
    cases d with
    | tup ds =>
      obtain ⟨p, xs, rfl, q1, l1, _⟩ := t1.r.tupV m et
      refine ⟨p, rfl, .inr ⟨⟨xs, sqt_of hK q1⟩, k _ H1 [k1] ds e1 (tokL k1 (.ref p)) hl1 t1.r (fun H2 σ' e N h1 h2 h3 h4 => ?_) (tok_there vd) hs⟩⟩
      obtain ⟨ti, vi⟩ := tok_stay t1.isIn h2 h3 vd
      obtain ⟨t', m', et'⟩ := (TokIn.more (N := N) ti).mem h1 h4 vi
      obtain ⟨p', ys, ep, q2, l2, z2⟩ := h4.tupV m' et'
      cases ep
      refine ⟨fun i d hd => ?_, ⟨ys, sqt_of hK q2, by rw [l2]; exact Nat.le_refl _⟩⟩
      obtain ⟨u, hu, ru⟩ := R.itemB z2 hd
      refine ⟨⟨ys, u, sqt_of hK q2, hu⟩, fun x H' hy => ?_⟩
      obtain ⟨rfl, hy⟩ := hy
      have := hy ys (sqt_of hK q2)
      rw [hu] at this
      cases this
      exact ru
    | lst ds =>
      obtain ⟨p, xs, rfl, q1, l1, _⟩ := t1.r.lstV m et
      refine ⟨p, rfl, .inl ⟨⟨xs, SqL.of q1⟩, k _ H1 [k1] ds e1 (tokL k1 (.ref p)) hl1 t1.r (fun H2 σ' e N h1 h2 h3 h4 => ?_) (tok_there vd) hs⟩⟩
      obtain ⟨ti, vi⟩ := tok_stay t1.isIn h2 h3 vd
      obtain ⟨t', m', et'⟩ := (TokIn.more (N := N) ti).mem h1 h4 vi
      obtain ⟨p', ys, ep, q2, l2, z2⟩ := h4.lstV m' et'
      cases ep
      refine ⟨fun i d hd => ?_, ⟨ys, SqL.of q2, by rw [l2]; exact Nat.le_refl _⟩⟩
      obtain ⟨u, hu, ru⟩ := R.itemB z2 hd
      refine ⟨⟨ys, u, SqL.of q2, hu⟩, fun x H' hy => ?_⟩
      obtain ⟨rfl, hy⟩ := hy
      have := hy ys (SqL.of q2)
      rw [hu] at this
      cases this
      exact ru
    | scr ns =>
      obtain ⟨p, rfl, q1⟩ := t1.r.scrV hK m et
      refine ⟨p, rfl, .inl ⟨⟨_, q1⟩, k _ H1 [k1] (ns.map D.int) e1 (tokL k1 (.ref p)) hl1 t1.r (fun H2 σ' e N h1 h2 h3 h4 => ?_) (tok_there vd) hs⟩⟩
      obtain ⟨ti, vi⟩ := tok_stay t1.isIn h2 h3 vd
      obtain ⟨t', m', et'⟩ := (TokIn.more (N := N) ti).mem h1 h4 vi
      obtain ⟨p', ep, q2⟩ := h4.scrV hK m' et'
      cases ep
      refine ⟨fun i d hd => ?_, ⟨_, q2, by rw [List.length_map, List.length_map]; exact Nat.le_refl _⟩⟩
      rw [List.getElem?_map, Option.map_eq_some_iff] at hd
      obtain ⟨z, hz, rfl⟩ := hd
      have hu : (ns.map V.int)[i]? = some (.int z) := by rw [List.getElem?_map, hz]; rfl
      refine ⟨⟨_, _, q2, hu⟩, fun x H' hy => ?_⟩
      obtain ⟨rfl, hy⟩ := hy
      have := hy _ q2
      rw [hu] at this
      cases this
      exact h4.pInt _
    | _ => exact hs.elim
theorem rev_get {α : Type} {ds : List α} {i : Nat} {d : α} (h : ds.reverse[i]? = some d) : i < ds.length ∧ ds[ds.length - 1 - i]? = some d := by
  have hi : i < ds.length := by
    have := (List.getElem?_eq_some_iff.mp h).1
    simpa using this
  exact ⟨hi, by rw [List.getElem?_reverse hi] at h; exact h⟩
theorem si_rev {tg e l : Expr} {ia : I} (hK : G.K = X.K) (ha : SO X G l ia) (hp : ∀ ta, PE X l ta → PI X tg e (RT.iRevA X.K ta)) : SI X G tg e (.irev ia) := fun W tk =>
  PI_to (hp _ (ha W tk)) fun σ H Rr ⟨env, L, Pn, Pe, hl, r, w, k, x⟩ => by
    have w : opn ia (wpE ia) env (fun ka e1 => ∃ x, ka.view e1 = some x ∧ itR x fun ds => Pn [ka] ds.reverse e1) Pe := w
    refine ⟨env, L, _, Pe, hl, r, w, fun v1 H1 k1 e1 hl1 t1 w1 => ?_, x⟩
    obtain ⟨d, vd, hs⟩ := w1
    obtain ⟨t, m, et⟩ := t1.isIn.mem hl1 t1.r vd
    cases d with
    | tup ds =>
      obtain ⟨p, xs, rfl, q1, l1, _⟩ := t1.r.tupV m et
      refine ⟨p, xs, rfl, .inr ⟨sqt_of hK q1, k _ H1 [k1] ds.reverse e1 (tokL k1 (.ref p)) hl1 t1.r (fun H2 σ' e N h1 h2 h3 h4 => ?_) (tok_there vd) hs⟩⟩
      obtain ⟨ti, vi⟩ := tok_stay t1.isIn h2 h3 vd
      obtain ⟨t', m', et'⟩ := (TokIn.more (N := N) ti).mem h1 h4 vi
      obtain ⟨p', ys, ep, q2, l2, z2⟩ := h4.tupV m' et'
      cases ep
      refine ⟨fun i d hd => ?_, by show xs.length ≤ _; rw [List.length_reverse, l1]; exact Nat.le_refl _⟩
      obtain ⟨hi, hd⟩ := rev_get hd
      obtain ⟨u, hu, ru⟩ := R.itemB z2 hd
      rw [← l1] at hu
      refine ⟨⟨by rw [l1]; exact hi, ys, u, sqt_of hK q2, hu⟩, fun x H' hy => ?_⟩
      obtain ⟨rfl, hy⟩ := hy
      have := hy ys (sqt_of hK q2)
      rw [hu] at this
      cases this
      exact ru
    | lst ds =>
      obtain ⟨p, xs, rfl, q1, l1, _⟩ := t1.r.lstV m et
      refine ⟨p, xs, rfl, .inl ⟨SqL.of q1, k _ H1 [k1] ds.reverse e1 (tokL k1 (.ref p)) hl1 t1.r (fun H2 σ' e N h1 h2 h3 h4 => ?_) (tok_there vd) hs⟩⟩
      obtain ⟨ti, vi⟩ := tok_stay t1.isIn h2 h3 vd
      obtain ⟨t', m', et'⟩ := (TokIn.more (N := N) ti).mem h1 h4 vi
      obtain ⟨p', ys, ep, q2, l2, z2⟩ := h4.lstV m' et'
      cases ep
      refine ⟨fun i d hd => ?_, by show xs.length ≤ _; rw [List.length_reverse, l1]; exact Nat.le_refl _⟩
      obtain ⟨hi, hd⟩ := rev_get hd
      obtain ⟨u, hu, ru⟩ := R.itemB z2 hd
      rw [← l1] at hu
      refine ⟨⟨by rw [l1]; exact hi, ys, u, SqL.of q2, hu⟩, fun x H' hy => ?_⟩
      obtain ⟨rfl, hy⟩ := hy
      have := hy ys (SqL.of q2)
      rw [hu] at this
      cases this
      exact ru
    | _ => exact hs.elim
theorem rng_get {lo : Int} {n i : Nat} {d : D} (h : (rng lo n)[i]? = some d) : i < n ∧ d = .int (lo + (i : Int)) := by
  unfold rng at h
  rw [List.getElem?_map] at h
  by_cases hi : i < n
  · rw [List.getElem?_range hi] at h
    exact ⟨hi, by simpa using h.symm⟩
  · rw [List.getElem?_eq_none (by simpa using Nat.not_lt.mp hi)] at h
    cases h
theorem itg_rng {lo : Int} {n : Nat} {e0 : Env'} {M : List Pr} : ItG G (Itr lo n) σ [] (rng lo n) e0 M := fun H σ' e N h1 h2 h3 h4 => by
  refine ⟨fun i d hd => ?_, by show n ≤ _; simp [rng]⟩
  obtain ⟨hi, rfl⟩ := rng_get hd
  refine ⟨hi, fun x H' hy => ?_⟩
  obtain ⟨rfl, rfl⟩ := hy
  exact h4.pInt _
theorem lim62 {i : Int} (h : -(Lim : Int) ≤ i ∧ i ≤ Lim) : -(2 ^ 62) ≤ i ∧ i < 2 ^ 62 := by
  have : (Lim : Int) = 1000000 := rfl
  rw [this] at h
  omega
theorem si_rng1 {tg e a : Expr} {ia : I} (ha : SE X G a ia) (hs : starEach [a] X.env = (false, eval a X.env) :: starEach [] X.env) (hp : ∀ ta, PA X [a] ta → PI X tg e (iRng1 ta)) : SI X G tg e (.irng1 ia) := fun W tk =>
  PI_to (hp _ (pa_cons (ha W tk) pa_nil hs)) fun σ H Rr ⟨env, L, Pn, Pe, hl, r, w, k, x⟩ => by
    refine ⟨env, L, _, Pe, hl, r, w, fun v1 H1 t1 e1 hl1 r1 w1 => ?_, x⟩
    obtain ⟨i, et, hb, hq⟩ := w1
    subst et
    have ev := r1.int List.mem_cons_self rfl
    subst ev
    obtain ⟨b1, b2⟩ := lim62 hb
    exact ⟨i, rfl, b1, b2, k _ H1 [] (rng 0 i.toNat) e1 [] hl1 r1.pop itg_rng (fun _ z => nomatch z) hq⟩
theorem si_rng2 {tg e a b : Expr} {ia ib : I} (ha : SE X G a ia) (hb : SE X G b ib) (hs : starEach [a, b] X.env = (false, eval a X.env) :: starEach [b] X.env) (hs2 : starEach [b] X.env = (false, eval b X.env) :: starEach [] X.env)
    (hp : ∀ ta, PA X [a, b] ta → PI X tg e (iRng2 ta)) : SI X G tg e (.irng2 ia ib) := fun W tk =>
  PI_to (hp _ (pa_cons (ha W tk) (pa_cons (hb W tk) pa_nil hs2) hs)) fun σ H Rr ⟨env, L, Pn, Pe, hl, r, w, k, x⟩ => by
    refine ⟨env, L, _, Pe, hl, r, w, fun v1 H1 t1 e1 hl1 r1 w1 => ?_, x⟩
    refine ⟨e1, (some v1, some t1) :: L, _, Pe, hl1, R.mid (A := [_]) r1, w1, fun v2 H2 t2 e2 hl2 r2 w2 => ?_, x.more (M := [_])⟩
    obtain ⟨i, j, et1, et2, hbd, hq⟩ := w2
    subst et1 et2
    have ev2 := r2.int List.mem_cons_self rfl
    have ev1 : v1 = .int i := r2.int (t := .val (.int i)) (List.mem_cons_of_mem _ (List.mem_append_right _ List.mem_cons_self)) rfl
    subst ev1 ev2
    obtain ⟨b1, b2⟩ := lim62 ⟨hbd.1, hbd.2.1⟩
    obtain ⟨b3, b4⟩ := lim62 ⟨hbd.2.2.1, hbd.2.2.2⟩
    have r3 : R G H2 (σ.zip e2 ++ ([] ++ L)) := R.cut (A := σ.zip e2) (C := [(some (V.int i), some (T.val (.int i)))]) r2.pop
    exact ⟨i, j, rfl, ⟨b1, b2, b3, b4⟩, k _ H2 [] (rng i (j - i).toNat) e2 [] hl2 r3 itg_rng (fun _ z => nomatch z) hq⟩
/-! ## targets -/
/-- names in a tuple target -/
def gNames : List Nat → TGs
  | [] => gNil
  | i :: is => gCons (gName i) (gNames is)
def tgR (K : PySem.W.Frag) : I → TG
  | .gname i => gName i
  | .gtup is => gTup K is.length (gNames is)
  | _ => fun _ _ _ _ => False
theorem R.store {i : Nat} {o : Option V} {t : Option T} (h : R G H ((o, t) :: (σ.zip env ++ L))) (hl : σ.length = env.length) : R G H ((σ.set i o).zip (env.set i t) ++ L) := by
  by_cases hi : i < σ.length
  · obtain ⟨rest, r1, r2, _⟩ := (R.mid (A := [(o, t)]) (C := σ.zip env) h).slot (List.getElem?_eq_getElem hi) (List.getElem?_eq_getElem (by omega))
    have r3 : R G H ((o, t) :: (rest ++ L)) := by
      have z : R G H (rest ++ ((o, t) :: L)) := r1.pop
      exact z.perm List.perm_middle
    exact r2 H L o t r3
  · rw [List.set_eq_of_length_le (by omega), List.set_eq_of_length_le (by omega)]
    exact h.pop
theorem gNames_run {H : Hp} {L : List Pr} {Q : L2.St → Hp → Prop} : ∀ {is : List Nat} {ts : List T} {xs : List V} {σ : L2.St} {env : Env'}, σ.length = env.length → xs.length = ts.length → ts.length = is.length → R G H (prs xs ts ++ (σ.zip env ++ L)) →
    (∀ σ', σ'.length = σ.length → (∀ i, i ∉ is → σ'[i]? = σ[i]?) → R G H (σ'.zip (setE env is ts) ++ L) → Q σ' H) → gNames is xs σ H Q
  | [], [], [], σ, env, _, _, _, r, k => ⟨rfl, k σ rfl (fun _ _ => rfl) r⟩
  | i :: is, t :: ts, x :: xs, σ, env, hl, h1, h2, r, k => by
    refine ⟨x, xs, rfl, ?_⟩
    have r1 : R G H (prs xs ts ++ ((some x, some t) :: (σ.zip env ++ L))) := by
      have z : R G H ((some x, some t) :: (prs xs ts ++ (σ.zip env ++ L))) := r
      exact z.perm List.perm_middle.symm
    have r2 : R G H ((some x, some t) :: (σ.zip env ++ (prs xs ts ++ L))) := by
      have z : R G H ((some x, some t) :: (prs xs ts ++ (σ.zip env ++ L))) := r
      refine z.perm (List.Perm.cons _ ?_)
      rw [← List.append_assoc, ← List.append_assoc]
      exact List.perm_append_comm.append_right L
    have r3 := r2.store (i := i) hl
    refine gNames_run (σ := σ.set i (some x)) (env := env.set i (some t)) (by simp [hl]) (Nat.succ.inj h1) (Nat.succ.inj h2) (R.mid r3) fun σ' e1 e2 r4 => k σ' (by simpa using e1) (fun j hj => ?_) r4
    have hj1 : i ≠ j := fun e => hj (by simp [e])
    have hj2 : j ∉ is := fun e => hj (by simp [e])
    rw [e2 j hj2, List.getElem?_set_ne hj1]
  | [], _ :: _, _, _, _, _, _, h2, _, _ => by simp at h2
  | _ :: _, [], _, _, _, _, _, h2, _, _ => by simp at h2
  | [], [], _ :: _, _, _, _, h1, _, _, _ => by simp at h1
  | _ :: _, _ :: _, [], _, _, _, h1, _, _, _ => by simp at h1
theorem setE_len : ∀ {is : List Nat} {ts : List T} {env : Env'}, (setE env is ts).length = env.length
  | [], _, env => by unfold setE; rfl
  | _ :: _, [], env => by unfold setE; rfl
  | i :: is, t :: ts, env => by
    show (setE (env.set i (some t)) is ts).length = _
    rw [setE_len]; simp
theorem tgR_run (hK : G.K = X.K) {g : I} {v : V} {d : D} {H : Hp} {σ : L2.St} {env : Env'} {L : List Pr} {Q : L2.St → Hp → Prop} {Qd : Env' → Prop} (hl : σ.length = env.length) (r : R G H ((some v, some (.val d)) :: (σ.zip env ++ L))) (w : tgt g d env Qd)
    (k : ∀ σ' e', σ'.length = σ.length → σ'.length = e'.length → (∀ i, i ∉ tgs g → σ'[i]? = σ[i]?) → R G H (σ'.zip e' ++ L) → Qd e' → Q σ' H) : tgR X.K g v σ H Q := by
  match g, w with
  | .gname i, w =>
    refine k (σ.set i (some v)) (env.set i (some (.val d))) (by simp) (by simp [hl]) (fun j hj => ?_) (r.store hl) w
    have : i ≠ j := fun e => hj (by simp [tgs, e])
    rw [List.getElem?_set_ne this]
  | .gtup is, w =>
    obtain ⟨ds, rfl, hd, hq⟩ := w
    obtain ⟨p, xs, rfl, q1, l1, z1⟩ := r.tupV List.mem_cons_self rfl
    refine ⟨p, xs, rfl, sqt_of hK q1, by rw [l1, hd], ?_⟩
    have r1 : R G H (prs xs (vals ds) ++ ((some (V.ref p), some (T.val (.tup ds))) :: (σ.zip env ++ L))) := R.pushLB z1
    have r2 : R G H (prs xs (vals ds) ++ (σ.zip env ++ L)) := R.cut (A := prs xs (vals ds)) (C := [(some (V.ref p), some (T.val (.tup ds)))]) r1
    exact gNames_run hl (by rw [vals_len]; exact l1) (by rw [vals_len]; exact hd) r2 fun σ' e1 e2 r3 => k σ' _ e1 (by rw [setE_len, e1]; exact hl) e2 r3 hq
end
end FW
set_option Elab.async false
set_option linter.all false
set_option maxRecDepth 100000
set_option maxHeartbeats 1000000
namespace FW
open PySem PySem.Spec PyProof.Rows L2
section
variable {G : GC} {X : Cx} {H H' : Hp} {σ : L2.St} {env : Env'} {L L' : List Pr}
/-! ## comprehensions -/
theorem clr_len : ∀ {vs : List Nat} {e : Env'}, (clr e vs).length = e.length
  | [], _ => rfl
  | v :: vs, e => by
    show ((clr e vs).set v none).length = _
    rw [List.length_set, clr_len]
theorem clr_in : ∀ {vs : List Nat} {e : Env'} {i : Nat} {t : T}, i ∈ vs → (clr e vs)[i]? = some (some t) → False
  | v :: vs, e, i, t, hi, h => by
    have h : ((clr e vs).set v none)[i]? = some (some t) := h
    by_cases hv : v = i
    · subst hv
      rw [List.getElem?_set] at h
      split at h
      · split at h <;> cases h
      · rename_i z; exact absurd rfl z
    · rw [List.getElem?_set_ne hv] at h
      exact clr_in (List.mem_of_ne_of_mem (Ne.symm hv) hi) h
theorem R.clr : ∀ {vs : List Nat} {env : Env'}, R G H (σ.zip env ++ L) → σ.length = env.length → R G H ((wipe σ vs).zip (clr env vs) ++ L)
  | [], _, h, _ => h
  | v :: vs, env, h, hl => by
    have z := R.clr (vs := vs) h hl
    exact R.store (o := none) (t := none) z.dead (by rw [wipe_length, clr_len]; exact hl)
theorem R.unwipe {fp : List Addr} {B : Hp} : ∀ {σ σ' : L2.St} {e : Env'}, σ.length = σ'.length → (∀ i : Nat, e[i]? = some none ∨ e[i]? = none ∨ σ'[i]? = σ[i]?) → OwP G B H (σ'.zip e ++ L) fp → OwP G B H (σ.zip e ++ L) fp
  | [], [], _, _, _, h => h
  | a :: σ, b :: σ', [], _, _, h => h
  | a :: σ, b :: σ', t :: e, hl, k, h => by
    have h : OwP G B H ((b, t) :: (σ'.zip e ++ L)) fp := h
    have k' : ∀ i : Nat, e[i]? = some none ∨ e[i]? = none ∨ σ'[i]? = σ[i]? := fun i => by
      have := k (i + 1)
      simpa using this
    show OwP G B H ((a, t) :: (σ.zip e ++ L)) fp
    have k0 := k 0
    simp at k0
    cases t with
    | none =>
      cases h with
      | dead h2 => exact .dead (R.unwipe (Nat.succ.inj hl) k' h2)
    | some t =>
      have e1 : b = a := by simpa using k0
      subst e1
      cases h with
      | cons x h2 => exact .cons x (R.unwipe (Nat.succ.inj hl) k' h2)
theorem R.unwipe' {σ' : L2.St} (h : R G H (σ'.zip env ++ L)) (hl : σ.length = σ'.length) (k : ∀ i : Nat, env[i]? = some none ∨ env[i]? = none ∨ σ'[i]? = σ[i]?) : R G H (σ.zip env ++ L) := by
  obtain ⟨B, fp, s, w, n, u, tb⟩ := h
  exact ⟨B, fp, s, R.unwipe hl k w, n, u, tb⟩
theorem wipe_eq {vs : List Nat} {σ2 : L2.St} (hl : σ2.length = σ.length) (h : ∀ i, i ∉ vs → σ2[i]? = (wipe σ vs)[i]?) : wipe σ2 vs = wipe σ vs := by
  have key : ∀ (vs : List Nat) (τ : L2.St) (i : Nat), i ∈ vs → i < τ.length → (wipe τ vs)[i]? = some none := by
    intro vs
    induction vs with
    | nil => intro τ i hi; simp at hi
    | cons v vs ih =>
      intro τ i hi hlt
      show ((wipe τ vs).set v none)[i]? = some none
      by_cases hv : v = i
      · subst hv
        rw [List.getElem?_set_self (by rw [wipe_length]; exact hlt)]
      · rw [List.getElem?_set_ne hv]
        exact ih τ i (List.mem_of_ne_of_mem (Ne.symm hv) hi) hlt
  apply List.ext_getElem?
  intro i
  by_cases hi : i ∈ vs
  · by_cases hlt : i < σ.length
    · rw [key vs σ2 i hi (by omega), key vs σ i hi hlt]
    · rw [List.getElem?_eq_none (by rw [wipe_length]; omega), List.getElem?_eq_none (by rw [wipe_length]; omega)]
  · rw [wipe_out hi, h i hi]
theorem takesF {Y : Cx} : Takes Y (fun _ _ _ _ => False) := fun _ _ ⟨_, _, _, _, _, _, _, _, _, _, _, _, _, _, _, _, z⟩ => z.elim
theorem excF {M : List Pr} : ExcTo G σ M (fun _ _ => False) (fun _ _ _ _ => False) := fun _ _ _ _ _ _ _ z => z
def SC (Y : Cx) (G : GC) (ifs : List Expr) (a : I) : Prop := ∀ W, Takes Y W → PTs Y ifs (TofT G a W)
theorem sc_none : SC X G [] .tt := fun W tk => ⟨fun pins s σ H Q I ⟨env, L, Pn, Pe, hl, r, w, k, x⟩ => pts_nil.run pins s σ H Q I (k true H env hl r w)⟩
theorem sc_one {c : Expr} {ic : I} (h : STe X G c ic) : SC X G [c] ic := fun W tk => pts_one (h W tk)
/-- the reading of a comprehension -/
theorem lc_read {g it cond elt : I} {W : WX} {Q : VK} {J0 : It} (hK : G.K = X.K) (h : TofE G (.comp g it cond elt) W σ H Q) :
    tLc (TofI G it (fun _ _ _ _ => False)) (tgR X.K g) (TofT G cond (fun _ _ _ _ => False)) (TofE G elt (fun _ _ _ _ => False)) (tgs g) σ H Q := by
  obtain ⟨env, L, Pn, Pe, hl, r, w, k, _⟩ := h
  refine ⟨env, L, _, _, hl, r, w, fun J H1 src items e0 M hl1 r1 ig th w1 => ?_, excF⟩
  obtain ⟨Jd, j0, jst, jturn, jend⟩ := w1
  intro D hD
  have hlw : (wipe σ (tgs g)).length = (clr e0 (tgs g)).length := by rw [wipe_length, clr_len]; exact hl1
  have r2 : R G (upd H1 D (.lst [])) ((some (.ref D), some (.lst [])) :: ((wipe σ (tgs g)).zip (clr e0 (tgs g)) ++ (M ++ L))) := R.newL (xs := []) (ts := []) (R.clr r1 hl1) rfl hD
  refine ⟨fun i m H => ∃ acc e, i ≤ items.length ∧ m = items.length - i ∧ (wipe σ (tgs g)).length = e.length ∧ Jd i acc e ∧ R G H ((some (.ref D), some (.lst acc)) :: ((wipe σ (tgs g)).zip e ++ (M ++ L))),
    ⟨items.length, [], _, Nat.zero_le _, by simp, hlw, j0, r2⟩, ?_⟩
  rintro i m H2 ⟨acc, e, hi, rfl, hle, jd, r3⟩
  obtain ⟨io, ce, al⟩ := jst i acc e jd
  have srcs : ∀ i, .slot i ∈ src → (wipe σ (tgs g))[i]? = σ[i]? := fun i hs => by
    obtain ⟨t, ht⟩ := th i hs
    have e1 := io (.slot i) hs i rfl
    refine wipe_out fun hm => ?_
    rw [ht] at e1
    rw [← ce] at e1
    exact clr_in hm e1
  have r4 : R G H2 ((wipe σ (tgs g)).zip e ++ ([(some (V.ref D), some (T.lst acc))] ++ (M ++ L))) := R.mid (A := [_]) r3
  obtain ⟨g1, g2⟩ := ig H2 (wipe σ (tgs g)) e [(some (V.ref D), some (T.lst acc))] hle srcs io r4
  by_cases hlt : i < items.length
  · obtain ⟨go, gy⟩ := g1 i items[i] (List.getElem?_eq_getElem hlt)
    refine .inr ⟨go, fun H' => ∃ acc e, Jd (i + 1) acc e ∧ (wipe σ (tgs g)).length = e.length ∧ R G H' ((some (.ref D), some (.lst acc)) :: ((wipe σ (tgs g)).zip e ++ (M ++ L))), fun H' ⟨acc', e', a, b, c⟩ => ⟨items.length - (i + 1), by omega, acc', e', hlt, rfl, b, a, c⟩, fun x H3 hy => ?_⟩
    have r5 := gy x H3 hy
    refine tgR_run hK hle r5 (jturn i acc e _ jd (List.getElem?_eq_getElem hlt)) fun σ2 e2 l1 l2 same r6 w2 => ?_
    have l1' : σ2.length = σ.length := by rw [l1, wipe_length]
    have we : wipe σ2 (tgs g) = wipe σ (tgs g) := wipe_eq l1' same
    refine ⟨we, e2, _, _, _, l2, r6, w2, fun b H4 e3 l3 r7 w3 => ?_, excF⟩
    cases b with
    | true =>
      rw [if_pos rfl] at w3 ⊢
      refine ⟨e3, _, _, _, l3, r7, w3, fun y H5 t e4 l4 r8 w4 => ?_, excF⟩
      have r9 : R G H5 ((some (V.ref D), some (T.lst acc)) :: ((some y, some t) :: (σ2.zip e4 ++ (M ++ L)))) := by
        have z : R G H5 (((some y, some t) :: σ2.zip e4) ++ ([(some (V.ref D), some (T.lst acc))] ++ (M ++ L))) := r8
        exact R.mid (A := ((some y, some t) :: σ2.zip e4)) (C := [(some (V.ref D), some (T.lst acc))]) z
      obtain ⟨p, xs, ep, hp, hx⟩ := r9.list
      cases ep
      have r10 : R G (upd H5 D (.lst (xs ++ [y]))) ((some (.ref D), some (.lst (acc ++ [t]))) :: (σ2.zip e4 ++ (M ++ L))) := by
        refine R.relist (L3 := []) r9 hp ?_ (by simp [hx])
        have pp : prs (xs ++ [y]) (acc ++ [t]) = prs xs acc ++ [(some y, some t)] := by
          unfold prs
          rw [List.zipWith_append hx]
          rfl
        rw [pp, List.append_assoc]
        exact .refl _
      have r11 := R.clr (vs := tgs g) (R.mid (A := [_]) (C := σ2.zip e4) r10) l4
      rw [we] at r11
      exact ⟨xs, hp, by rw [hx]; exact Nat.lt_of_le_of_lt al (by decide), acc ++ [t], _, w4, by rw [wipe_length, clr_len, ← l1']; exact l4, R.mid (A := (wipe σ (tgs g)).zip (clr e4 (tgs g))) (C := [_]) r11⟩
    | false =>
      rw [if_neg Bool.false_ne_true] at w3 ⊢
      have r11 := R.clr (vs := tgs g) r7 l3
      rw [we] at r11
      exact ⟨acc, _, w3, by rw [wipe_length, clr_len, ← l1']; exact l3, R.mid (A := (wipe σ (tgs g)).zip (clr e3 (tgs g))) (C := [_]) r11⟩
  · have ei : i = items.length := by omega
    subst ei
    refine .inl ⟨g2, k _ H2 _ e (by rw [← wipe_length σ (tgs g)]; exact hle) ?_ (jend acc e jd)⟩
    have r5 : R G H2 ((some (V.ref D), some (T.lst acc)) :: (σ.zip e ++ (M ++ L))) := by
      refine R.mid (A := σ.zip e) (C := [_]) (R.unwipe' (σ' := wipe σ (tgs g)) r4 (wipe_length _ _).symm fun j => ?_)
      by_cases hj : j ∈ tgs g
      · cases he : e[j]? with
        | none => exact .inr (.inl rfl)
        | some o =>
          cases o with
          | none => exact .inl rfl
          | some t =>
            rw [← ce] at he
            exact (clr_in hj he).elim
      · exact .inr (.inr (wipe_out hj))
    exact R.cut (A := (some (V.ref D), some (T.lst acc)) :: σ.zip e) (C := M) r5
end
end FW
set_option Elab.async false
set_option linter.all false
set_option maxRecDepth 100000
set_option maxHeartbeats 1000000
namespace FW
open PySem PySem.Spec PyProof.Rows L2
section
variable {G : GC} {X : Cx} {H H' : Hp} {σ : L2.St} {env : Env'} {L L' : List Pr}
theorem snd_comp {elt tg iter : Expr} {ifs : List Expr} {scope : Scope} {own : List (Str × Nat)} {pos : Pos} {g it cond ie : I} (hK : G.K = X.K) (hc : X.calm = true) (hN : X.N.Nodup) (hi : SI X G tg iter it) (ok : BlkOk X.N X.env.scope scope own) (ho : own.map (·.2) = tgs g)
    (hg : ∀ (s : Shared) (H : Hp) (C : Addr) (cl : List (Str × Addr)) (fp : List Addr), PG (X.blk s H scope (compEnvC scope cl C X.env) fp) tg (tgR X.K g)) (ht : ∀ (s : Shared) (H : Hp) (C : Addr) (cl : List (Str × Addr)) (fp : List Addr), SC (X.blk s H scope (compEnvC scope cl C X.env) fp) G ifs cond)
    (he : ∀ (s : Shared) (H : Hp) (C : Addr) (cl : List (Str × Addr)) (fp : List Addr), SE (X.blk s H scope (compEnvC scope cl C X.env) fp) G elt ie) (hs : ∀ x, foldedSetIterable iter X.env x = pure x) :
    SE X G (.ListComp elt [⟨tg, iter, ifs, 0⟩] scope pos) (.comp g it cond ie) := fun W tk =>
  PE_to (pe_lc (own := own) hc hN (hi _ takesF) ok hg (fun s H C cl fp => ht s H C cl fp _ takesF) (fun s H C cl fp => he s H C cl fp _ takesF) hs) fun σ H Q q => by
    rw [ho]
    exact lc_read (J0 := Itr 0 0) hK q
/-! ## statements -/
def Keep (s : I) (σ σ' : L2.St) : Prop := σ'.length = σ.length ∧ ∀ i, asgd s i = false → σ'[i]? = σ[i]?
theorem Keep.refl {s : I} {σ : L2.St} : Keep s σ σ := ⟨rfl, fun _ _ => rfl⟩
structure Fin (G : GC) (s : I) (σ : L2.St) (L : List Pr) (P : Po) (D : Ends) (W : WX) : Prop where
  nx : ∀ σ' H' e', Keep s σ σ' → σ'.length = e'.length → R G H' (σ'.zip e' ++ L) → P.nx e' → D.nx σ' H'
  rt : ∀ v t σ' H' e', Keep s σ σ' → σ'.length = e'.length → R G H' ((some v, some t) :: (σ'.zip e' ++ L)) → P.rt t e' → D.rt v H'
  bk : ∀ σ' H' e', Keep s σ σ' → σ'.length = e'.length → R G H' (σ'.zip e' ++ L) → P.bk e' → D.bk σ' H'
  ct : ∀ σ' H' e', Keep s σ σ' → σ'.length = e'.length → R G H' (σ'.zip e' ++ L) → P.ct e' → D.ct σ' H'
  ex : ∀ x cls d σ' H' e', Keep s σ σ' → σ'.length = e'.length → Air G x cls d H' (σ'.zip e' ++ L) → P.ex x e' → W cls d σ' H'
theorem Fin.exc {s : I} {P : Po} {D : Ends} {W : WX} (h : Fin G s σ L P D W) : ExcTo G σ L P.ex W := fun x cls d H' e' hl a p => h.ex x cls d σ H' e' Keep.refl hl a p
theorem Fin.sub {s s' : I} {σ' : L2.St} {P : Po} {D : Ends} {W : WX} (h : Fin G s σ L P D W) (k : ∀ σ'', Keep s' σ' σ'' → Keep s σ σ'') : Fin G s' σ' L P D W :=
  ⟨fun σ'' H' e' a => h.nx σ'' H' e' (k _ a), fun v t σ'' H' e' a => h.rt v t σ'' H' e' (k _ a), fun σ'' H' e' a => h.bk σ'' H' e' (k _ a), fun σ'' H' e' a => h.ct σ'' H' e' (k _ a), fun x cls d σ'' H' e' a => h.ex x cls d σ'' H' e' (k _ a)⟩
def TofS (G : GC) (s : I) (W : WX) : TS := fun D σ H => ∃ (env : Env') (L : List Pr) (P : Po), σ.length = env.length ∧ R G H (σ.zip env ++ L) ∧ wpS s env P ∧ Fin G s σ L P D W
def SS (X : Cx) (G : GC) (st : Stmt) (s : I) : Prop := ∀ W, Takes X W → PS X st (TofS G s W)
def SSs (X : Cx) (G : GC) (st : List Stmt) (s : I) : Prop := ∀ W, Takes X W → PSs X st (TofS G s W)
theorem ss_nil : SSs X G [] .snil := fun W tk => PSs_to pss_nil fun D σ H ⟨env, L, P, hl, r, w, f⟩ => f.nx σ H env Keep.refl hl r w
theorem ss_cons {st : Stmt} {rest : List Stmt} {s r : I} (h1 : SS X G st s) (h2 : SSs X G rest r) : SSs X G (st :: rest) (.scons s r) := fun W tk =>
  PSs_to (pss_cons (h1 W tk) (h2 W tk)) fun D σ H ⟨env, L, P, hl, rr, w, f⟩ => by
    have k1 : ∀ σ'', Keep s σ σ'' → Keep (.scons s r) σ σ'' := fun σ'' ⟨a, b⟩ => ⟨a, fun i hi => b i (Bool.or_eq_false_iff.mp hi).1⟩
    refine ⟨env, L, { P with nx := fun e => wpS r e P }, hl, rr, w, ⟨fun σ' H' e' a b c d => ?_, fun v t σ' H' e' a => f.rt v t σ' H' e' (k1 _ a), fun σ' H' e' a => f.bk σ' H' e' (k1 _ a), fun σ' H' e' a => f.ct σ' H' e' (k1 _ a), fun x cls d σ' H' e' a => f.ex x cls d σ' H' e' (k1 _ a)⟩⟩
    exact ⟨e', L, P, b, c, d, f.sub fun σ'' ⟨p, q⟩ => ⟨p.trans a.1, fun i hi => (q i (Bool.or_eq_false_iff.mp hi).2).trans (a.2 i (Bool.or_eq_false_iff.mp hi).1)⟩⟩
theorem ss_pass {st : Stmt} (h : PS X st tNext) : SS X G st .pass := fun W tk => PS_to h fun D σ H ⟨env, L, P, hl, r, w, f⟩ => f.nx σ H env Keep.refl hl r w
theorem ss_brk {st : Stmt} (h : PS X st tBreak) : SS X G st .brk := fun W tk => PS_to h fun D σ H ⟨env, L, P, hl, r, w, f⟩ => f.bk σ H env Keep.refl hl r w
theorem ss_cont {st : Stmt} (h : PS X st tCont) : SS X G st .cont := fun W tk => PS_to h fun D σ H ⟨env, L, P, hl, r, w, f⟩ => f.ct σ H env Keep.refl hl r w
theorem ss_ret {st : Stmt} {e : Expr} {ie : I} (he : SE X G e ie) (h : ∀ te, PE X e te → PS X st (tRet te)) : SS X G st (.ret ie) := fun W tk =>
  PS_to (h _ (he W tk)) fun D σ H ⟨env, L, P, hl, r, w, f⟩ => ⟨env, L, P.rt, P.ex, hl, r, w, fun v H' t e' l r' p => f.rt v t σ H' e' Keep.refl l r' p, f.exc⟩
theorem ss_retN {st : Stmt} (h : PS X st tRetN) : SS X G st .retN := fun W tk => PS_to h fun D σ H ⟨env, L, P, hl, r, w, f⟩ => f.rt .non (.val .non) σ H env Keep.refl hl (r.push fun _ _ => .non) w
theorem ss_expr {st : Stmt} {e : Expr} {ie : I} (he : SE X G e ie) (h : ∀ te, PE X e te → PS X st (tDrop te)) : SS X G st (.expr ie) := fun W tk =>
  PS_to (h _ (he W tk)) fun D σ H ⟨env, L, P, hl, r, w, f⟩ => ⟨env, L, _, P.ex, hl, r, w, fun v H' t e' l r' p => f.nx σ H' e' Keep.refl l r'.pop p, f.exc⟩
theorem keep_set {i : Nat} {o : Option V} {s : I} (h : asgd s i = true) : Keep s σ (σ.set i o) := ⟨by simp, fun j hj => by
  have : i ≠ j := fun e => by rw [e, hj] at h; cases h
  rw [List.getElem?_set_ne this]⟩
theorem ss_asg {st : Stmt} {e : Expr} {i : Nat} {ie : I} (he : SE X G e ie) (h : ∀ te, PE X e te → PS X st (tAsg te (gName i))) : SS X G st (.asg i ie) := fun W tk =>
  PS_to (h _ (he W tk)) fun D σ H ⟨env, L, P, hl, r, w, f⟩ => ⟨env, L, _, P.ex, hl, r, w, fun v H' t e' l r' p => f.nx _ H' _ (keep_set (by simp [asgd])) (by simp [l]) (r'.store l) p, f.exc⟩
theorem keep_names {is : List Nat} {s : I} {σ' : L2.St} (h : ∀ i, i ∈ is → asgd s i = true) (e1 : σ'.length = σ.length) (e2 : ∀ i, i ∉ is → σ'[i]? = σ[i]?) : Keep s σ σ' := ⟨e1, fun i hi => e2 i fun z => by rw [h i z] at hi; cases hi⟩
theorem ss_asgT {st : Stmt} {e : Expr} {is : List Nat} {ie : I} (hK : G.K = X.K) (he : SE X G e ie) (h : ∀ te, PE X e te → PS X st (tAsg te (gTup X.K is.length (gNames is)))) : SS X G st (.asgT is ie) := fun W tk =>
  PS_to (h _ (he W tk)) fun D σ H ⟨env, L, P, hl, r, w, f⟩ => ⟨env, L, _, P.ex, hl, r, w, fun v H' t e' l r' ⟨ds, et, hd, p⟩ => by
    subst et
    exact tgR_run (X := X) (g := .gtup is) (Qd := P.nx) hK l r' ⟨ds, rfl, hd, p⟩ fun σ' e2 e1 e3 same r3 p' => f.nx σ' H' e2 (keep_names (is := is) (fun i hi => by simp [asgd, hi]) e1 same) e3 r3 p', f.exc⟩
/-- several values side by side -/
def TofP (G : GC) (a : I) (W : WX) : TA := fun σ H Q => ∃ (env : Env') (L : List Pr) (Pn : List T → Env' → Prop) (Pe : KE), σ.length = env.length ∧ R G H (σ.zip env ++ L) ∧ wpP a env Pn Pe ∧
  (∀ vs H' ts e', σ.length = e'.length → vs.length = ts.length → R G H' (prs vs ts ++ (σ.zip e' ++ L)) → Pn ts e' → Q vs H') ∧ ExcTo G σ L Pe W
def SP' (X : Cx) (G : GC) (es : List Expr) (a : I) : Prop := ∀ W, Takes X W → PA X es (TofP G a W)
theorem sp_nil : SP' X G [] .anil := fun W tk => PA_to pa_nil fun σ H Q ⟨env, L, Pn, Pe, hl, r, w, k, x⟩ => k [] H [] env hl rfl r w
theorem sp_cons {e : Expr} {es : List Expr} {ia ir : I} (ha : SE X G e ia) (hr : SP' X G es ir) (hs : starEach (e :: es) X.env = (false, eval e X.env) :: starEach es X.env) : SP' X G (e :: es) (.acons ia ir) := fun W tk =>
  PA_to (pa_cons (ha W tk) (hr W tk) hs) fun σ H Q ⟨env, L, Pn, Pe, hl, r, w, k, x⟩ => by
    refine ⟨env, L, _, Pe, hl, r, w, fun v1 H1 t1 e1 hl1 r1 w1 => ?_, x⟩
    refine ⟨e1, [(some v1, some t1)] ++ L, _, Pe, hl1, R.mid (A := [_]) r1, w1, fun vs H2 ts e2 hl2 hv r3 w3 => ?_, x.more⟩
    refine k (v1 :: vs) H2 (t1 :: ts) e2 hl2 (by simp [hv]) ?_ w3
    show R G H2 ((some v1, some t1) :: (prs vs ts ++ (σ.zip e2 ++ L)))
    rw [← List.append_assoc] at r3
    have := R.mid r3
    rw [List.append_assoc] at this
    exact this
theorem par_core {is : List Nat} {ia : I} {W : WX} {D : Ends} {H : Hp} (hn : is.length ≤ Lim) (h : TofS G (.par is ia) W D σ H) {Post : List V → Hp → Prop} (k : ∀ vs H1, vs.length ≤ sizeLine → vs.length = is.length → (∀ H2, (∀ b o, H1 b = some o → H2 b = some o) → gNames is vs σ H2 D.nx) → Post vs H1) : TofP G ia W σ H Post := by
  obtain ⟨env, L, P, hl, r, w, f⟩ := h
  refine ⟨env, L, _, P.ex, hl, r, w, fun vs H' ts e' l lv r' p => ?_, f.exc⟩
  refine k vs H' (lim_line (by rw [lv, p.1]; exact hn)) (by rw [lv, p.1]) fun H2 k => ?_
  have r2 : R G H2 (prs vs ts ++ (σ.zip e' ++ L)) := by
    obtain ⟨B, fp, s, ow, n, u, tb⟩ := r'
    refine ⟨B, fp, fun b o z => k b o (s b o z), ow.mono (Same.refl B) fun a ha => ?_, n, u, tb.same k⟩
    cases q : H' a with
    | none => exact absurd q (ow.there a ha)
    | some o => exact k a o q
  exact gNames_run l lv p.1 r2 fun σ' e1 e2 r3 => f.nx σ' H2 _ (keep_names (is := is) (fun i hi => by simp [asgd, hi]) e1 e2) (by rw [setE_len, e1]; exact l) r3 p.2
theorem ss_par2 {st : Stmt} {es : List Expr} {i j : Nat} {ia : I} (he : SP' X G es ia) (h : ∀ ta, PA X es ta → PS X st (tPar i j ta)) : SS X G st (.par [i, j] ia) := fun W tk =>
  PS_to (h _ (he W tk)) fun D σ H q => par_core (by show 2 ≤ Lim; decide) q fun vs H1 _ _ g => by
    obtain ⟨v, r1, rfl, w, r2, rfl, e, z⟩ := g H1 fun _ _ z => z
    subst e
    exact ⟨v, w, rfl, z⟩
theorem ss_par3 {st : Stmt} {es : List Expr} {i j l : Nat} {ia : I} (he : SP' X G es ia) (h : ∀ ta, PA X es ta → PS X st (tPar3 i j l ta)) : SS X G st (.par [i, j, l] ia) := fun W tk =>
  PS_to (h _ (he W tk)) fun D σ H q => par_core (by show 3 ≤ Lim; decide) q fun vs H1 _ _ g => by
    obtain ⟨v, r1, rfl, w, r2, rfl, u, r3, rfl, e, z⟩ := g H1 fun _ _ z => z
    subst e
    exact ⟨v, w, u, rfl, z⟩
theorem ss_parT {st : Stmt} {es : List Expr} {is : List Nat} {ia : I} (hn : is.length ≤ Lim) (he : SP' X G es ia) (h : ∀ ta, PA X es ta → PS X st (tAsg (tTup ta) (gTup X.K is.length (gNames is)))) : SS X G st (.par is ia) := fun W tk =>
  PS_to (h _ (he W tk)) fun D σ H q => par_core hn q fun vs H1 hs hl g =>
    ⟨hs, fun p hp => ⟨p, vs, rfl, SqT.of upd_same, hl, g _ fun b o e => by rw [upd_ne (ne_of_none e hp)]; exact e⟩⟩
/-! ## op=, stores, append -/
theorem ss_augI {st : Stmt} {e : Expr} {i : Nat} {ie : I} {o : Op2} {f : Int → Int → Int} (he : SE X G e ie) (h : ∀ te, PE X e te → PS X st (tAug i te (ipI f))) (ho : ∀ x y P, opS2 o (.int x) (.int y) P → P (.val (.int (f x y)))) : SS X G st (.augI i o ie) := fun W tk =>
  PS_to (h _ (he W tk)) fun D σ H ⟨env, L, P, hl, r, w, fi⟩ => by
    obtain ⟨x, hx, w⟩ := w
    obtain ⟨v, hv, hm⟩ := r.slotV hl hx
    have ev : v = .int x := r.int hm rfl
    subst ev
    refine ⟨_, hv, env, L, _, P.ex, hl, r, w, fun u H' t e' l r' p => ?_, fi.exc⟩
    obtain ⟨y, et, p⟩ := p
    subst et
    have eu := r'.int List.mem_cons_self rfl
    subst eu
    exact ⟨x, y, rfl, rfl, fi.nx _ H' _ (keep_set (by simp [asgd])) (by simp [l]) ((r'.pop.pInt _).store l) (ho x y _ p)⟩
theorem ss_app {st : Stmt} {e n : Expr} {i : Nat} {ie : I} (hn : PE X n (tVar i)) (he : SE X G e ie) (hs : starEach [e] X.env = (false, eval e X.env) :: starEach [] X.env) (h : ∀ te ta, PE X n te → PA X [e] ta → PS X st (tDrop (tBM X.K "list" rAppend te ta))) : SS X G st (.app i ie) := fun W tk =>
  PS_to (h _ _ hn (pa_cons (he W tk) pa_nil hs)) fun D σ H ⟨env, L, P, hl, r, w, f⟩ => by
    obtain ⟨⟨ts0, he0⟩, w⟩ := w
    obtain ⟨v, hv, _⟩ := r.slotV hl he0
    obtain ⟨rest0, r0, _, _⟩ := r.slot hv he0
    obtain ⟨p, xs0, e1, hp0, _⟩ := r0.list
    cases e1
    refine ⟨_, hv, .inl ⟨rfl, _, SqL.of hp0⟩, env, L, _, P.ex, hl, r, w, fun u H1 t e1 hl1 r1 w1 => ?_, f.exc⟩
    obtain ⟨ts, he1, hlen, hq⟩ := w1
    have r2 : R G H1 (σ.zip e1 ++ ([(some u, some t)] ++ L)) := R.mid (A := [_]) r1
    obtain ⟨rest, r3, _, r4⟩ := r2.slot hv he1
    obtain ⟨p', xs, e2, hp, hx⟩ := r3.list
    cases e2
    refine ⟨p, xs, u, rfl, rfl, hp, lim_lt (by rw [hx]; exact hlen), ?_⟩
    have r5 : R G (upd H1 p (.lst (xs ++ [u]))) ((some (.ref p), some (.lst (ts ++ [t]))) :: (rest ++ L)) := by
      refine R.relist (L3 := []) r3 hp ?_ (by simp [hx])
      have pp : prs (xs ++ [u]) (ts ++ [t]) = prs xs ts ++ [(some u, some t)] := by
        unfold prs
        rw [List.zipWith_append hx]
        rfl
      rw [pp, List.append_assoc]
      refine List.Perm.append_left _ ?_
      show (rest ++ ((some u, some t) :: L)).Perm ((some u, some t) :: (rest ++ L))
      exact List.perm_middle
    exact f.nx σ _ _ Keep.refl (by simp [hl1]) (r4 _ _ _ r5) hq
/-- xs[k] = e -/
theorem ss_setS {st : Stmt} {e n k : Expr} {i : Nat} {ie ik : I} (hn : PE X n (tVar i)) (he : SE X G e ie) (hk : SE X G k ik) (h : ∀ te to tk, PE X e te → PE X n to → PE X k tk → PS X st (tAsg te (gSub to tk rSetL))) : SS X G st (.setS i ik ie) := fun W tk =>
  PS_to (h _ _ _ (he W tk) hn (hk W tk)) fun D σ H ⟨env, L, P, hl, r, w, f⟩ => by
    refine ⟨env, L, _, P.ex, hl, r, w, fun u H1 t e1 hl1 r1 w1 => ?_, f.exc⟩
    obtain ⟨⟨ts0, he0⟩, w1⟩ := w1
    have r1' : R G H1 (σ.zip e1 ++ ([(some u, some t)] ++ L)) := R.mid (A := [_]) r1
    obtain ⟨v, hv, _⟩ := r1'.slotV hl1 he0
    refine ⟨v, hv, e1, [(some u, some t)] ++ L, _, P.ex, hl1, r1', w1, fun u2 H2 t2 e2 hl2 r2 w2 => ?_, f.exc.more⟩
    obtain ⟨j, ts, et, h0, hj, he2, hq⟩ := w2
    subst et
    have eu := r2.int List.mem_cons_self rfl
    subst eu
    obtain ⟨rest, r3, _, r4⟩ := r2.pop.slot hv he2
    obtain ⟨p, xs, ev, hp, hx⟩ := r3.list
    cases ev
    have hj' : j < xs.length := by rw [hx]; exact hj
    refine ⟨p, xs, j, j.toNat, rfl, rfl, hp, ?_, ?_⟩
    · unfold ixN
      rw [if_pos h0, if_pos hj']
    · have hjn : j.toNat < xs.length := by omega
      have r5 : R G (upd H2 p (.lst (xs.set j.toNat u))) ((some (.ref p), some (.lst (ts.set j.toNat t))) :: (rest ++ L)) := by
        refine R.relist (L3 := [(xs[j.toNat]?, ts[j.toNat]?)]) r3 hp ?_ (by simp [hx])
        have key : ∀ (n : Nat) (xs : List V) (ts : List T), xs.length = ts.length → n < xs.length → (prs xs ts ++ [(some u, some t)]).Perm ((xs[n]?, ts[n]?) :: prs (xs.set n u) (ts.set n t)) := by
          intro n
          induction n with
          | zero =>
            intro xs ts e hn
            match xs, ts, e with
            | x :: xs, y :: ts, _ =>
              show (((some x, some y) :: prs xs ts) ++ [(some u, some t)]).Perm ((some x, some y) :: (some u, some t) :: prs xs ts)
              exact List.Perm.cons _ (List.perm_append_comm (l₁ := prs xs ts) (l₂ := [(some u, some t)]))
            | [], [], _ => simp at hn
          | succ n ih =>
            intro xs ts e hn
            match xs, ts, e with
            | x :: xs, y :: ts, e =>
              have := ih xs ts (Nat.succ.inj e) (by simpa using hn)
              show (((some x, some y) :: (prs xs ts ++ [(some u, some t)]))).Perm ((xs[n]?, ts[n]?) :: (some x, some y) :: prs (xs.set n u) (ts.set n t))
              exact (this.cons _).trans (.swap ..)
            | [], [], _ => simp at hn
        have p1 : (prs xs ts ++ (rest ++ ([(some u, some t)] ++ L))).Perm ((prs xs ts ++ [(some u, some t)]) ++ (rest ++ L)) := by
          rw [List.append_assoc]
          refine List.Perm.append_left _ ?_
          rw [← List.append_assoc, ← List.append_assoc]
          exact List.perm_append_comm.append_right L
        exact p1.trans ((key j.toNat xs ts hx hjn).append_right _)
      exact f.nx σ _ _ Keep.refl (by simp [hl2]) (r4 _ _ _ r5) hq
def rGetL : V → V → Hp → VK → Prop := fun o i H Q => ∃ p xs j v, o = .ref p ∧ i = .int j ∧ H p = some (.lst xs) ∧ 0 ≤ j ∧ xs[j.toNat]? = some v ∧ Q v H
theorem get_list : PGet X rGetL := by
  intro pins s σ H o i ov iv Q I ro ri h
  obtain ⟨p, xs, j, v, rfl, rfl, hp, h0, hx, q⟩ := h
  obtain rfl : ov = Value.ref p := ro
  obtain ⟨t, rfl⟩ := ri
  obtain ⟨its, rv, pl, hz⟩ := I.list (SqL.of hp)
  obtain ⟨u, hu, ru⟩ := rv.get hx
  have hlt := (List.getElem?_eq_some_iff.mp hx).1
  have hs : sizeLine = 16777216 := sizeLine_eq
  exact wpAny_getItem_list pl.isList h0 (by omega) (by simpa using hu) ⟨v, H, I, ru, q⟩
/-- xs[k] op= e -/
theorem ss_augS {st : Stmt} {e n k : Expr} {i : Nat} {ie ik : I} {o : Op2} {g : Int → Int → Int} (hn : PE X n (tVar i)) (he : SE X G e ie) (hk : SE X G k ik) (h : ∀ te to tk, PE X e te → PE X n to → PE X k tk → PS X st (tAugS to tk te rGetL (ipI g) rSetL))
    (ho : ∀ x y P, opS2 o (.int x) (.int y) P → P (.val (.int (g x y)))) : SS X G st (.augS i o ik ie) := fun W tk =>
  PS_to (h _ _ _ (he W tk) hn (hk W tk)) fun D σ H ⟨env, L, P, hl, r, w, f⟩ => by
    obtain ⟨⟨ts0, he0⟩, w⟩ := w
    obtain ⟨v, hv, _⟩ := r.slotV hl he0
    refine ⟨v, hv, env, L, _, P.ex, hl, r, w, fun u2 H2 t2 e2 hl2 r2 w2 => ?_, f.exc⟩
    obtain ⟨j, ts, x, et, h0, he2, hx2, w2⟩ := w2
    subst et
    have eu := r2.int List.mem_cons_self rfl
    subst eu
    obtain ⟨rest, r3, _, r4⟩ := r2.pop.slot hv he2
    obtain ⟨p, xs, ev, hp, hx⟩ := r3.list
    cases ev
    have hjt : j.toNat < ts.length := (List.getElem?_eq_some_iff.mp hx2).1
    have hj' : j.toNat < xs.length := by rw [hx]; exact hjt
    have item : ∀ {H3 : Hp} {xs : List V} {M : List Pr}, R G H3 ((some (V.ref p), some (T.lst ts)) :: M) → H3 p = some (.lst xs) → xs[j.toNat]? = some (.int x) := by
      intro H3 xs M r hp
      obtain ⟨B, fp, s, ow, _, _, _⟩ := r
      cases ow with
      | cons a _ =>
        cases a with
        | lst hp' l =>
          rw [hp] at hp'
          cases hp'
          have key : ∀ (n : Nat) {xs : List V} {ts : List T} {f : List Addr}, OwL G B H3 xs ts f → ts[n]? = some (.val (.int x)) → xs[n]? = some (.int x) := by
            intro n
            induction n with
            | zero =>
              intro xs ts f l e
              cases l with
              | nil => simp at e
              | cons a _ =>
                simp at e
                subst e
                cases a with
                | val a => cases a; rfl
            | succ n ih =>
              intro xs ts f l e
              cases l with
              | nil => simp at e
              | cons _ t => simpa using ih t (by simpa using e)
          exact key _ l hx2
    refine ⟨p, xs, j, .int x, rfl, rfl, hp, h0, item r3 hp, ?_⟩
    refine ⟨e2, L, _, P.ex, hl2, r2.pop, w2, fun u3 H3 t3 e3 hl3 r5 w3 => ?_, f.exc⟩
    obtain ⟨y, et, he3, w3⟩ := w3
    subst et
    have eu := r5.int List.mem_cons_self rfl
    subst eu
    obtain ⟨rest3, r6, _, r7⟩ := r5.pop.slot hv he3
    obtain ⟨p', ys, ev, hp3, hy⟩ := r6.list
    cases ev
    have hjy : j.toNat < ys.length := by rw [hy]; exact hjt
    refine ⟨x, y, rfl, rfl, p, ys, j, j.toNat, rfl, rfl, hp3, ?_, ?_⟩
    · unfold ixN
      rw [if_pos h0, if_pos (by omega)]
    · have r8 : R G (upd H3 p (.lst (ys.set j.toNat (.int (g x y))))) ((some (.ref p), some (.lst (ts.set j.toNat (.val (.int (g x y)))))) :: (rest3 ++ L)) := by
        have r9 : R G H3 ((some (V.ref p), some (T.lst ts)) :: (rest3 ++ ([(some (V.int (g x y)), some (T.val (.int (g x y))))] ++ L))) := by
          have z := r6.pInt (g x y)
          refine z.perm ?_
          exact (List.Perm.swap ..).trans (List.Perm.cons _ List.perm_middle.symm)
        refine R.relist (L3 := [(ys[j.toNat]?, ts[j.toNat]?)]) r9 hp3 ?_ (by simp [hy])
        have key : ∀ (n : Nat) (u : V) (t : T) (xs : List V) (ts : List T), xs.length = ts.length → n < xs.length → (prs xs ts ++ [(some u, some t)]).Perm ((xs[n]?, ts[n]?) :: prs (xs.set n u) (ts.set n t)) := by
          intro n u t
          induction n with
          | zero =>
            intro xs ts e hn
            match xs, ts, e with
            | x :: xs, y :: ts, _ =>
              show (((some x, some y) :: prs xs ts) ++ [(some u, some t)]).Perm ((some x, some y) :: (some u, some t) :: prs xs ts)
              exact List.Perm.cons _ (List.perm_append_comm (l₁ := prs xs ts) (l₂ := [(some u, some t)]))
            | [], [], _ => simp at hn
          | succ n ih =>
            intro xs ts e hn
            match xs, ts, e with
            | x :: xs, y :: ts, e =>
              have := ih xs ts (Nat.succ.inj e) (by simpa using hn)
              show (((some x, some y) :: (prs xs ts ++ [(some u, some t)]))).Perm ((xs[n]?, ts[n]?) :: (some x, some y) :: prs (xs.set n u) (ts.set n t))
              exact (this.cons _).trans (.swap ..)
            | [], [], _ => simp at hn
        have p1 : (prs ys ts ++ (rest3 ++ ([(some (V.int (g x y)), some (T.val (.int (g x y))))] ++ L))).Perm ((prs ys ts ++ [(some (V.int (g x y)), some (T.val (.int (g x y))))]) ++ (rest3 ++ L)) := by
          rw [List.append_assoc]
          refine List.Perm.append_left _ ?_
          rw [← List.append_assoc, ← List.append_assoc]
          exact List.perm_append_comm.append_right L
        exact p1.trans ((key j.toNat _ _ ys ts hy hjy).append_right _)
      exact f.nx σ _ _ Keep.refl (by simp [hl3]) (r7 _ _ _ r8) (ho x y _ w3)
theorem ss_ife {st : Stmt} {c : Expr} {a b : List Stmt} {ic ia ib : I} (hc : STe X G c ic) (ha : SSs X G a ia) (hb : SSs X G b ib) (h : ∀ tc ta tb, PT X c tc → PSs X a ta → PSs X b tb → PS X st (tIfS tc ta tb)) : SS X G st (.ife ic ia ib) := fun W tk =>
  PS_to (h _ _ _ (hc W tk) (ha W tk) (hb W tk)) fun D σ H ⟨env, L, P, hl, r, w, f⟩ => by
    refine ⟨env, L, _, P.ex, hl, r, w, fun q H1 e1 hl1 r1 w1 => ?_, f.exc⟩
    cases q with
    | true =>
      rw [if_pos rfl] at w1 ⊢
      exact ⟨e1, L, P, hl1, r1, w1, f.sub fun σ'' ⟨p, q⟩ => ⟨p, fun i hi => q i (Bool.or_eq_false_iff.mp hi).1⟩⟩
    | false =>
      rw [if_neg Bool.false_ne_true] at w1 ⊢
      exact ⟨e1, L, P, hl1, r1, w1, f.sub fun σ'' ⟨p, q⟩ => ⟨p, fun i hi => q i (Bool.or_eq_false_iff.mp hi).2⟩⟩
theorem ss_for {st : Stmt} {tg iter : Expr} {body : List Stmt} {g it b : I} (hK : G.K = X.K) (hi : SI X G tg iter it) (hg : PG X tg (tgR X.K g)) (hb : SSs X G body b) (h : ∀ wi t tb, PI X tg iter wi → PG X tg t → PSs X body tb → PS X st (tFor wi t tb)) : SS X G st (.forS g it b) := fun W tk =>
  PS_to (h _ _ _ (hi W tk) hg (hb W tk)) fun D σ H ⟨env, L, P, hl, r, w, f⟩ => by
    refine ⟨env, L, _, P.ex, hl, r, w, fun J H1 src items e0 M hl1 r1 ig th w1 => ?_, f.exc⟩
    obtain ⟨hsrc, Jd, j0, jst, jturn, jend⟩ := w1
    have ks : ∀ {τ : L2.St}, Keep (.forS g it b) σ τ → ∀ i, .slot i ∈ src → τ[i]? = σ[i]? := fun k i hs => k.2 i (Bool.or_eq_false_iff.mpr (hsrc i hs))
    refine ⟨fun i m τ H => ∃ e, i ≤ items.length ∧ m = items.length - i ∧ Keep (.forS g it b) σ τ ∧ τ.length = e.length ∧ Jd i e ∧ R G H (τ.zip e ++ (M ++ L)), ⟨items.length, e0, Nat.zero_le _, by simp, Keep.refl, hl1, j0, r1⟩, ?_⟩
    rintro i m τ H2 ⟨e, hi2, rfl, kp, hle, jd, r2⟩
    obtain ⟨g1, g2⟩ := ig H2 τ e [] hle (ks kp) (jst i e jd) r2
    by_cases hlt : i < items.length
    · obtain ⟨go, gy⟩ := g1 i items[i] (List.getElem?_eq_getElem hlt)
      refine .inr ⟨go, fun τ' H' => ∃ e, Keep (.forS g it b) σ τ' ∧ τ'.length = e.length ∧ Jd (i + 1) e ∧ R G H' (τ'.zip e ++ (M ++ L)), fun τ' H' ⟨e', a, b', c, d⟩ => ⟨items.length - (i + 1), by omega, e', hlt, rfl, a, b', c, d⟩, fun x H3 hy => ?_⟩
      refine tgR_run hK hle (gy x H3 hy) (jturn i e _ jd (List.getElem?_eq_getElem hlt)) fun σ2 e2 l1 l2 same r6 w2 => ?_
      have k2 : ∀ σ'', Keep b σ2 σ'' → Keep (.forS g it b) σ σ'' := fun σ'' ⟨p, q⟩ => ⟨p.trans (l1.trans kp.1), fun j hj => by
        have h2 := Bool.or_eq_false_iff.mp hj
        rw [q j h2.2, same j (fun z => by rw [List.contains_iff_mem.mpr z] at h2; cases h2.1), kp.2 j hj]⟩
      refine ⟨e2, M ++ L, _, l2, r6, w2, ⟨fun σ' H' e' k l rr p => ⟨e', k2 _ k, l, p, rr⟩, fun v t σ' H' e' k l rr p => ?_, fun σ' H' e' k l rr p => ?_, fun σ' H' e' k l rr p => ⟨e', k2 _ k, l, p, rr⟩, fun x cls d σ' H' e' k l a p => ?_⟩⟩
      · exact f.rt v t σ' H' e' (k2 _ k) l (R.cut (A := (some v, some t) :: σ'.zip e') (C := M) rr) p
      · exact f.nx σ' H' e' (k2 _ k) l (R.cut rr) p
      · exact f.ex x cls d σ' H' e' (k2 _ k) l (air_mono a fun N rr => by
          rw [← List.append_assoc] at rr ⊢
          exact R.cut rr) p
    · have ei : i = items.length := by omega
      subst ei
      exact .inl ⟨g2, f.nx τ H2 e kp hle (R.cut r2) (jend e jd)⟩
theorem ss_while {st : Stmt} {c : Expr} {body : List Stmt} {ic b : I} (hc : STe X G c ic) (hb : SSs X G body b) (h : ∀ tc tb, PT X c tc → PSs X body tb → PS X st (tWhile tc tb)) : SS X G st (.whileS ic b) := fun W tk =>
  PS_to (h _ _ (hc W tk) (hb W tk)) fun D σ H ⟨env, L, P, hl, r, w, f⟩ => by
    obtain ⟨Jd, ⟨m0, j0⟩, turn⟩ := w
    refine ⟨fun m τ H => ∃ e, Keep (.whileS ic b) σ τ ∧ τ.length = e.length ∧ Jd m e ∧ R G H (τ.zip e ++ L), ⟨m0, env, Keep.refl, hl, j0, r⟩, ?_⟩
    rintro m τ H1 ⟨e, kp, hle, jd, r1⟩
    have k2 : ∀ {τ' : L2.St}, Keep b τ τ' → Keep (.whileS ic b) σ τ' := fun ⟨p, q⟩ => ⟨p.trans kp.1, fun j hj => (q j hj).trans (kp.2 j hj)⟩
    refine ⟨e, L, _, P.ex, hle, r1, turn m e jd, fun q H2 e2 hl2 r2 w2 => ?_, fun x cls d H' e' l a p => f.ex x cls d τ H' e' kp l a p⟩
    cases q with
    | true =>
      rw [if_pos rfl] at w2 ⊢
      refine ⟨fun τ' H' => ∃ m' e', m' < m ∧ Keep (.whileS ic b) σ τ' ∧ τ'.length = e'.length ∧ Jd m' e' ∧ R G H' (τ'.zip e' ++ L), fun τ' H' ⟨m', e', a, b', c, d, rr⟩ => ⟨m', a, e', b', c, d, rr⟩, e2, L, _, hl2, r2, w2, ?_⟩
      exact ⟨fun σ' H' e' k l rr ⟨m', a, p⟩ => ⟨m', e', a, k2 k, l, p, rr⟩, fun v t σ' H' e' k l rr p => f.rt v t σ' H' e' (k2 k) l rr p, fun σ' H' e' k l rr p => f.nx σ' H' e' (k2 k) l rr p, fun σ' H' e' k l rr ⟨m', a, p⟩ => ⟨m', e', a, k2 k, l, p, rr⟩, fun x cls d σ' H' e' k l a p => f.ex x cls d σ' H' e' (k2 k) l a p⟩
    | false =>
      rw [if_neg Bool.false_ne_true] at w2 ⊢
      exact f.nx τ H2 e2 kp hl2 r2 w2
/-- raise C('..'), C without an __init__ of its own -/
theorem ss_raiseM {st : Stmt} {c : Str} {C : Addr} (hc : G.mg c = some (.ref C)) (h : ∀ W, Takes X W → PS X st (fun _ σ H => W (.ref C) none σ H)) : SS X G st (.raiseM c) := fun W tk =>
  PS_to (h W tk) fun D σ H ⟨env, L, P, hl, r, w, f⟩ => f.ex (.exc c [] []) (.ref C) none σ H env Keep.refl hl ⟨c, [], [], C, rfl, rfl, hc, .inl ⟨rfl, rfl, rfl, r⟩⟩ w
end
end FW
set_option Elab.async false
set_option linter.all false
set_option maxRecDepth 100000
set_option maxHeartbeats 1000000
namespace FW
open PySem PySem.Spec PyProof.Rows L2
/-! ## a tuple turned about -/
section
variable {prog : Program} {w : World} {A : Around} {E : Value → Shared → Prop} {s : Shared}
theorem places_rev (n : Nat) : Builtin.Slice.slicePlaces ((n : Int) - 1) (-1) (-1) = n := by
  unfold Builtin.Slice.slicePlaces
  rw [if_neg (by decide)]
  by_cases h : (n : Int) - 1 > -1
  · rw [if_pos h, show (- -1 : Int) = 1 by decide, Int.ediv_one]
    omega
  · rw [if_neg h]
    omega
theorem pick_rev (xs : Array Value) : ((List.range xs.size).filterMap fun (m : Nat) => xs[(((xs.size : Int) - 1) + (m : Int) * (-1)).toNat]?).toArray = xs.toList.reverse.toArray := by
  have e : ∀ m ∈ List.range xs.size, xs[(((xs.size : Int) - 1) + (m : Int) * (-1)).toNat]? = xs.toList.reverse[m]? := fun m hm => by
    have hm := List.mem_range.mp hm
    have h1 : (((xs.size : Int) - 1) + (m : Int) * (-1)).toNat = xs.size - 1 - m := by omega
    rw [h1, List.getElem?_reverse (by simpa using hm), ← Array.getElem?_toList, Array.length_toList]
  have fc : ∀ (l : List Nat) (f g : Nat → Option Value), (∀ m ∈ l, f m = g m) → l.filterMap f = l.filterMap g := by
    intro l f g h
    induction l with
    | nil => rfl
    | cons a l ih => rw [List.filterMap_cons, List.filterMap_cons, h a List.mem_cons_self, ih fun m hm => h m (List.mem_cons_of_mem _ hm)]
  rw [fc _ _ _ e]
  congr 1
  have all : ∀ (l : List Value), (List.range l.length).filterMap (fun m => l[m]?) = l := by
    intro l
    apply List.ext_getElem?
    intro i
    induction l generalizing i with
    | nil => rfl
    | cons a l ih =>
      rw [List.length_cons, List.range_succ_eq_map, List.filterMap_cons]
      show (a :: (List.map Nat.succ (List.range l.length)).filterMap fun m => (a :: l)[m]?)[i]? = _
      rw [List.filterMap_map]
      cases i with
      | zero => rfl
      | succ i => exact ih i
  have := all xs.toList.reverse
  rwa [List.length_reverse, Array.length_toList] at this
theorem applied_rev {sl : Addr} {vl vu vs : Value} {n : Nat} {Q : Int × Int × Nat → Shared → Prop} (hs : s.heap.IsSliceOf sl vl vu vs) (pl : IsPart vl none) (pu : IsPart vu none) (ps : IsPart vs (some (-1)))
    (h : Q ((n : Int) - 1, -1, n) s) : wpAny (model prog w) A (Builtin.Slice.sliceApplied (.ref sl) (pure (n : Int))) Q E s := by
  obtain ⟨o, e1, e2, e3⟩ := id hs
  unfold Builtin.Slice.sliceApplied Builtin.Slice.sliceFields
  refine wpAny_bind (wpAny_bind (wpAny_field e1 e3 (x := vl) rfl (wpAny_bind (wpAny_field e1 e3 (x := vu) rfl (wpAny_bind (wpAny_field e1 e3 (x := vs) rfl (wpAny_pure ?_)))))))
  refine wpAny_bind (HT.slicePart_ ps ?_); show wpAny _ _ (if ((-1 : Int) == 0) = true then _ else _) _ _ s
  rw [if_neg (by decide)]; refine wpAny_bind (HT.slicePart_ pl (wpAny_bind (HT.slicePart_ pu (wpAny_bind (wpAny_pure ?_)))))
  have e : Builtin.Slice.slicePlaces ((n : Int) - 1) (-1) (-1) = n := places_rev n
  show wpAny _ _ (pure ((n : Int) - 1, (-1 : Int), Builtin.Slice.slicePlaces ((n : Int) - 1) (-1) (-1))) _ _ s
  rw [e]; exact wpAny_pure h
theorem item_rev {t sl : Addr} {items : Array Value} {vl vu vs : Value} {Q : Value → Shared → Prop} (ht : IsTup s.heap t items) (hs : s.heap.IsSliceOf sl vl vu vs) (pl : IsPart vl none) (pu : IsPart vu none) (ps : IsPart vs (some (-1)))
    (h : Q (.ref s.heap.objs.size) { s with heap := s.heap.push { cls := .type "tuple", data := .seq items.toList.reverse.toArray } }) (hz : items.size ≤ sizeLine) : wpAny (model prog w) A (getItem (.ref t) (.ref sl)) Q E s := by
  have size : sizeOk (.seq items.toList.reverse.toArray) := by
    show items.toList.reverse.toArray.size ≤ sizeLine
    rw [List.size_toArray, List.length_reverse, Array.length_toList]; exact hz
  have tS : s.TypeIs (.ref sl) "slice" := let ⟨o, e1, e2, _⟩ := hs; ⟨o, e1, e2⟩
  unfold getItem; try with_reducible refine wpAny_holding ?_
  first | refine wpAny_bind (wpAny_pure ?_) | skip
  refine wpAny_bind (wpAny_sequenceKey ht.typeIs (by decide) ?_); refine wpAny_bind (wpAny_callSpecial?_slot (name := Str.ofString "__getitem__") ht.typeIs PyProof.Rows.slot_tuple_getitem ?_)
  refine wpAny_call_entry PyProof.Rows.slot_tuple_getitem ht.typeIs PyProof.Rows.entry_tuple_getitem ?_ (PyProof.Rows.args_tuple_getitem _ _); show wpAny _ _ (Builtin.Tuple.tupleItemsOf (.ref t) >>= _) _ _ s
  refine wpAny_bind (tupleItemsOf_ ht (wpAny_bind (wpAny_typeOf tS ?_)))
  rw [if_pos (by decide)]; refine wpAny_bind (applied_rev hs pl pu ps ?_)
  show wpAny _ _ (if (((items.size : Int) - 1) == 0 && (-1 : Int) == 1 && items.size == items.size) = true then _ else _) _ _ s
  rw [if_neg (by simp), pick_rev]; first
    | exact wpAny_bind (m := Builtin.Tuple.tupleExact _) (wpAny_newObj_type (wpAny_pure ⟨_, rfl, wpAny_pure h⟩) size)
    | exact wpAny_bind (m := Builtin.Tuple.tupleExact _) (wpAny_newObj_type (wpAny_bind (wpAny_pure (wpAny_pure ⟨_, rfl, wpAny_pure h⟩))) size)
    | exact wpAny_bind (wpAny_bind (m := Builtin.Tuple.tupleExact _) (wpAny_newObj_type (wpAny_pure (wpAny_pure ⟨_, rfl, wpAny_pure h⟩)) size))
    | exact wpAny_bind (wpAny_bind (m := Builtin.Tuple.tupleExact _) (wpAny_newObj_type (wpAny_pure ⟨_, rfl, wpAny_pure h⟩) size))
end
section
variable {G : GC} {X : Cx} {σ : L2.St} {L : List Pr}
def tRev (K : PySem.W.Frag) (te : TE) : TE := fun σ H Q => te σ H fun x H1 => ∃ a xs, x = .ref a ∧ ((SqL K H1 a xs ∧ ∀ p, H1 p = none → Q (.ref p) (upd H1 p (.lst xs.reverse))) ∨ (SqT K H1 a xs ∧ ∀ p, H1 p = none → Q (.ref p) (upd H1 p (.tup xs.reverse))))
theorem pe_rev {e : Expr} {te : TE} {k : Nat} {p1 p2 p3 pos : Pos} (he : PE X e te) : PE X (.Subscript e (.Slice none none (some (.UnaryOp .USub (.Constant (.int 1) k p1) p2)) p3) pos) (tRev X.K te) := by
  refine ⟨fun pins s τ H Q I h => ?_⟩
  refine Subscript_ (thn (he.run pins s τ H _ I h) fun v sa ⟨x, Ha, Ia, ra, a, xs, ex, q⟩ => ?_)
  subst ex
  obtain rfl : v = Value.ref a := ra
  have one : PO X (some (.UnaryOp .USub (.Constant (.int 1) k p1) p2)) (tPart (tUn (rU fun i => .int (-i)) (tC (.int 1)))) := by
    exact po_some (pe_un un_neg pe_int)
  refine wpAny_Slice (thn (po_none.run pins sa τ Ha (fun o Hb => o = none ∧ Hb = Ha) Ia ⟨rfl, rfl⟩) fun vl sb ⟨l, Hb, Ib, pl, z1, z2⟩ => ?_); subst z1 z2
  refine thn (po_none.run pins sb τ Hb (fun o Hc => o = none ∧ Hc = Hb) Ib ⟨rfl, rfl⟩) fun vu sc ⟨l, Hc, Ic, pu, z1, z2⟩ => ?_; subst z1 z2
  refine thn (one.run pins sc τ Hc (fun o Hd => o = some (-1) ∧ Hd = Hc) Ic ⟨1, rfl, -1, rfl, rfl, rfl⟩) fun vs sd ⟨l, Hd, Id, ps, z1, z2⟩ => ?_; subst z1 z2
  have Ie : Inv X pins τ Hd { sd with heap := sd.heap.push { cls := .type "slice", data := .fields #[vl, vu, vs] } } := Id.kept (t' := sd.toks) fun b ob z => Heap.get?_push_of_some _ z
  show wpAny _ _ (subscriptTail e (.Slice none none (some (.UnaryOp .USub (.Constant (.int 1) k p1) p2)) p3) (.ref a) (.ref sd.heap.objs.size)) _ _ _
  rcases q with ⟨hx, q⟩ | ⟨hx, q⟩
  · obtain ⟨its, r, pl', hz⟩ := Ie.list hx
    have hn := r.length
    refine tail_any (ops := [.ref a, .ref sd.heap.objs.size]) pl'.isList.typeIs (PySem.slot_list_getitem.lookup) ?_ (by with_unfolding_all rfl)
    refine wpAny_getItem_list_slice pl'.isList (Heap.IsSliceOf.new _ vl vu vs) pl pu ps (by decide) ?_ (by simp only [List.size_toArray]; omega)
    rw [PySem.W.krv_pick]; refine ⟨.ref _, _, Ie.laid (t' := sd.toks) (o := .lst xs.reverse) (fun b ob z => Heap.get?_push_of_some _ z) (Nat.le_refl _) ?_, rfl, q _ (Ie.hok.fresh (Nat.le_refl _))⟩
    exact ⟨by simpa using hz, _, 0, r.reverse, Heap.get?_push_size _ rfl⟩
  · obtain ⟨its, r, pt, hz⟩ := Ie.tuple hx
    have hn := r.length
    refine tail_any (ops := [.ref a, .ref sd.heap.objs.size]) pt.typeIs (PyProof.Rows.slot_tuple_getitem.lookup) ?_ (by with_unfolding_all rfl)
    refine item_rev pt (Heap.IsSliceOf.new _ vl vu vs) pl pu ps ?_ (by simp only [List.size_toArray]; omega)
    refine ⟨.ref _, _, Ie.laid (t' := sd.toks) (o := .tup xs.reverse) (fun b ob z => Heap.get?_push_of_some _ z) (Nat.le_refl _) ?_, rfl, q _ (Ie.hok.fresh (Nat.le_refl _))⟩
    exact ⟨by simpa using hz, _, r.reverse, ⟨_, Heap.get?_push_size _ rfl, rfl, _, rfl⟩⟩
theorem shL_rev {B : Hp} {vs : List V} {ds : List D} (h : ShL G B vs ds) : ShL G B vs.reverse ds.reverse := by
  have app : ∀ {xs ys : List V} {ds es : List D}, ShL G B xs ds → ShL G B ys es → ShL G B (xs ++ ys) (ds ++ es) := by
    intro xs ys ds es h1 h2
    induction ds generalizing xs with
    | nil => cases h1; exact h2
    | cons d ds ih =>
      cases h1 with
      | cons a t => exact .cons a (ih t)
  induction ds generalizing vs with
  | nil => cases h; exact .nil
  | cons d ds ih =>
    cases h with
    | cons a t =>
      rw [List.reverse_cons, List.reverse_cons]
      exact app (ih t) (.cons a .nil)
theorem snd_revs {e a : Expr} {ia : I} (hK : G.K = X.K) (ha : SO X G a ia) (hp : ∀ ta, PE X a ta → PE X e (tRev X.K ta)) : SE X G e (.revs ia) := fun W tk =>
  PE_to (hp _ (ha W tk)) fun σ H Q ⟨env, L, Pn, Pe, hl, r, w, k, x⟩ => by
    refine ⟨env, L, _, Pe, hl, r, w, fun v1 H1 k1 e1 hl1 t1 w1 => ?_, x⟩
    obtain ⟨d, vd, hs⟩ := w1
    obtain ⟨t, m, et⟩ := t1.isIn.mem hl1 t1.r vd
    cases d with
    | tup ds =>
      obtain ⟨p, xs, rfl, q1, l1, B, fp, rs, sl⟩ := t1.r.tupV m et
      exact ⟨p, xs, rfl, .inr ⟨sqt_of hK q1, fun np hn => k _ _ _ e1 hl1 (drop_tok (R.newT (R.pushLB ⟨B, fp, rs, shL_rev sl⟩) (shL_rev sl).length hn)) hs⟩⟩
    | lst ds =>
      obtain ⟨p, xs, rfl, q1, l1, B, fp, rs, sl⟩ := t1.r.lstV m et
      exact ⟨p, xs, rfl, .inl ⟨SqL.of q1, fun np hn => k _ _ _ e1 hl1 (drop_tok (R.newL (R.pushLB ⟨B, fp, rs, shL_rev sl⟩) (by rw [vals_len]; exact (shL_rev sl).length) hn)) hs⟩⟩
    | _ => exact hs.elim
/-! ## own dicts -/
variable {H H' : Hp} {env : Env'} {ks : List Key} {ts us : List T} {o : Option V} {p : Addr} {xs ys : List V}
/-- its object -/
theorem R.dict (h : R G H ((o, some (.dic ks ts)) :: L)) : ∃ p xs, o = some (.ref p) ∧ H p = some (.dK (ks.zip xs)) ∧ ks.length = xs.length ∧ xs.length = ts.length := by
  obtain ⟨B, fp, s, w, n, u, tb⟩ := h
  cases w with
  | cons a w =>
    cases a with
    | dic hp hq l => exact ⟨_, _, rfl, hp, hq, l.length⟩
/-- opened: the object apart, its values side by side -/
theorem R.dOpn (h : R G H ((some (.ref p), some (.dic ks ts)) :: L)) : ∃ xs, H p = some (.dK (ks.zip xs)) ∧ ks.length = xs.length ∧ xs.length = ts.length ∧ R G H ((some (.ref p), some (.raw (.dK (ks.zip xs)))) :: (prs xs ts ++ L)) := by
  obtain ⟨B, fp, s, w, n, u, tb⟩ := h
  cases w with
  | cons a w =>
    cases a with
    | dic hp hq l => exact ⟨_, hp, hq, l.length, B, _, s, .cons (.raw hp (fun _ z => by cases z) fun _ _ z => by unfold LamX.CodeO at z; cases z) ((owP_prs (f := []) l.length).mpr ⟨_, _, rfl, l, w⟩), n, u, tb⟩
theorem R.dCls (h : R G H ((some (.ref p), some (.raw (.dK (ks.zip xs)))) :: (prs xs ts ++ L))) (h1 : ks.length = xs.length) (h2 : xs.length = ts.length) : R G H ((some (.ref p), some (.dic ks ts)) :: L) := by
  obtain ⟨B, fp, s, w, n, u, tb⟩ := h
  cases w with
  | cons a w =>
    cases a with
    | raw hp _ _ =>
      obtain ⟨f, g, rfl, o1, o2⟩ := (owP_prs (f := []) h2).mp w
      exact ⟨B, (_ :: f) ++ g, s, .cons (.dic hp h1 o1) o2, n, u, tb⟩
theorem R.rawSet {oa ob : HO} (h : R G H ((some (.ref p), some (.raw oa)) :: L)) (k1 : ∀ ps, ob ≠ .tbl ps) (k2 : ∀ c q, ob ≠ LamX.CodeO c q) : R G (upd H p ob) ((some (.ref p), some (.raw ob)) :: L) := by
  obtain ⟨B, fp, s, w, n, u, tb⟩ := h
  cases w with
  | @cons _ _ _ f g a w =>
    cases a with
    | raw hp n1 n2 =>
      obtain ⟨np, n'⟩ := List.nodup_cons.mp (show (p :: g).Nodup from n)
      have bp : B p = none := u p (by simp)
      refine ⟨B, [p] ++ g, fun b o z => by rw [upd_ne (ne_of_none z bp)]; exact s b o z, .cons (.raw upd_same k1 k2) (w.mono (Same.refl B) fun a ha => upd_ne fun z => np (z ▸ ha)), n, u, tb.up (fun ps z => ?_) fun c q z => ?_⟩
      · rw [hp] at z; exact n1 ps (Option.some.inj z)
      · rw [hp] at z; exact n2 c q (Option.some.inj z)
theorem R.raw {oa : HO} (h : R G H ((some (.ref p), some (.raw oa)) :: L)) : H p = some oa := by
  obtain ⟨B, fp, s, w, n, u, tb⟩ := h
  cases w with
  | cons a w =>
    cases a with
    | raw hp _ _ => exact hp
/-- a component that is data -/
theorem R.dVal {j : Nat} {d : D} {v : V} (h : R G H ((some (.ref p), some (.dic ks ts)) :: L)) (hp : H p = some (.dK (ks.zip xs))) (hl : ks.length = xs.length) (e1 : ts[j]? = some (.val d)) (e2 : xs[j]? = some v) : R G H ((some v, some (.val d)) :: (some (.ref p), some (.dic ks ts)) :: L) := by
  obtain ⟨B, fp, s, w, n, u, tb⟩ := h
  cases w with
  | cons a w =>
    cases id a with
    | @dic _ _ xs' _ f' hp' hq' l =>
      have ex : xs' = xs := by
        rw [hp] at hp'
        have e := Option.some.inj hp'
        injection e with e
        have := congrArg (List.map Prod.snd) e
        rw [List.map_snd_zip (by omega), List.map_snd_zip (by omega)] at this
        exact this.symm
      subst ex
      have get : ∀ {xs : List V} {ts : List T} {f : List Addr} {j : Nat}, OwL G B H xs ts f → ts[j]? = some (.val d) → xs[j]? = some v → Sh G B v d := by
        intro xs ts
        induction ts generalizing xs with
        | nil => intro f j _ e; simp at e
        | cons t ts ih =>
          intro f j h e1 e2
          cases h with
          | cons a l =>
            cases j with
            | zero =>
              simp at e1 e2
              subst e1 e2
              cases a with
              | val s => exact s
            | succ j => exact ih l (by simpa using e1) (by simpa using e2)
      exact ⟨B, [] ++ _, s, .cons (.val (get l e1 e2)) (.cons a w), n, u, tb⟩
/-- a new dict -/
theorem R.newD (h : R G H (prs xs ts ++ L)) (e : xs.length = ts.length) (e2 : ks.length = xs.length) (hp : H p = none) : R G (upd H p (.dK (ks.zip xs))) ((some (.ref p), some (.dic ks ts)) :: L) := by
  obtain ⟨B, fp, s, w, n, u, tb⟩ := h
  obtain ⟨f, g, rfl, h1, h2⟩ := (owP_prs (f := []) e).mp w
  have nf : ∀ a ∈ f ++ g, a ≠ p := fun a ha z => w.there a ha (z ▸ hp)
  have k : ∀ a ∈ f ++ g, upd H p (.dK (ks.zip xs)) a = H a := fun a ha => upd_ne (nf a ha)
  have bp : B p = none := by
    cases q : B p with
    | none => rfl
    | some ob => have := s p ob q; rw [hp] at this; cases this
  refine ⟨B, (p :: f) ++ g, fun b ob q => by rw [upd_ne (ne_of_none (s b ob q) hp)]; exact s b ob q, .cons (.dic upd_same e2 (h1.mono (Same.refl B) fun a ha => k a (by simp [ha]))) (h2.mono (Same.refl B) fun a ha => k a (by simp [ha])), ?_, ?_, tb.new hp⟩
  · rw [List.cons_append, List.nodup_cons]
    exact ⟨fun z => nf p z rfl, n⟩
  · intro a ha
    rw [List.cons_append] at ha
    rcases List.mem_cons.mp ha with z | z
    · rw [z]; exact bp
    · exact u a z
theorem zip_at {ks : List Key} : ∀ {xs : List V} {j : Nat} {k : Key} {v : V}, ks.Nodup → ks[j]? = some k → xs[j]? = some v → valV (ks.zip xs) k = some v := by
  induction ks with
  | nil => intro xs j k v _ h; simp at h
  | cons a ks ih =>
    intro xs j k v hn h1 h2
    cases xs with
    | nil => simp at h2
    | cons x xs =>
      cases j with
      | zero =>
        simp at h1 h2
        subst h1 h2
        exact valV_pos rfl
      | succ j =>
        simp at h1 h2
        obtain ⟨na, hn⟩ := List.nodup_cons.mp hn
        have ne : ¬ a = k := fun z => na (z ▸ List.mem_of_getElem? h1)
        show valV ((a, x) :: ks.zip xs) k = some v
        rw [valV_neg (p := (a, x)) ne]
        exact ih hn h1 h2
theorem zip_put {ks : List Key} : ∀ {xs : List V} {j : Nat} {k : Key} {v : V}, ks.Nodup → ks[j]? = some k → j < xs.length → putK (ks.zip xs) k v = ks.zip (xs.set j v) := by
  have go : ∀ {ks : List Key} {xs : List V} {j : Nat} {k : Key} {v : V}, ks.Nodup → ks[j]? = some k → j < xs.length → ((ks.zip xs).map fun kv => if kv.1 = k then (kv.1, v) else kv) = ks.zip (xs.set j v) := by
    intro ks
    induction ks with
    | nil => intro xs j k v _ h; simp at h
    | cons a ks ih =>
      intro xs j k v hn h1 h2
      obtain ⟨na, hn⟩ := List.nodup_cons.mp hn
      cases xs with
      | nil => simp at h2
      | cons x xs =>
        cases j with
        | zero =>
          simp at h1
          subst h1
          show ((if a = a then (a, v) else (a, x)) :: (ks.zip xs).map _) = (a, v) :: ks.zip xs
          rw [if_pos rfl]
          congr 1
          have : ∀ q ∈ ks.zip xs, (if q.1 = a then (q.1, v) else q) = q := fun q hq => by
            have := (List.of_mem_zip (a := q.1) (b := q.2) hq).1
            exact if_neg (fun z : q.1 = a => na (by rw [← z]; exact this))
          rw [List.map_congr_left this, List.map_id']
        | succ j =>
          simp at h1 h2
          have ne : ¬ a = k := fun z => na (z ▸ List.mem_of_getElem? h1)
          show ((if a = k then (a, v) else (a, x)) :: (ks.zip xs).map _) = (a, x) :: ks.zip (xs.set j v)
          rw [if_neg ne]
          exact congrArg ((a, x) :: ·) (ih hn h1 h2)
  intro xs j k v hn h1 h2
  have some_ : ((ks.zip xs).any fun kv => decide (kv.1 = k)) = true := by
    rw [valV_any, zip_at hn h1 (List.getElem?_eq_getElem h2)]
    rfl
  unfold putK
  rw [some_]
  exact go hn h1 h2
end
end FW
set_option Elab.async false
set_option linter.all false
set_option maxRecDepth 100000
set_option maxHeartbeats 1000000
namespace FW
open PySem PySem.Spec PyProof.Rows L2
section
variable {G : GC} {X : Cx} {σ : L2.St} {L : List Pr} {H H' : Hp} {env : Env'} {ks : List Key} {ts us : List T} {o : Option V} {p : Addr} {xs ys : List V}
theorem prs_hole : ∀ {xs : List V} {ts : List T} {j : Nat} {v : V} {t : T}, xs.length = ts.length → xs[j]? = some v → ts[j]? = some t → ∃ rest, (prs xs ts).Perm ((some v, some t) :: rest) ∧ ∀ v' t', (prs (xs.set j v') (ts.set j t')).Perm ((some v', some t') :: rest)
  | [], _, _, _, _, _, e, _ => by simp at e
  | _ :: _, [], _, _, _, h, _, _ => by simp at h
  | x :: xs, t0 :: ts, 0, v, t, h, e1, e2 => by
    simp at e1 e2
    subst e1 e2
    exact ⟨prs xs ts, .refl _, fun _ _ => .refl _⟩
  | x :: xs, t0 :: ts, j + 1, v, t, h, e1, e2 => by
    obtain ⟨rest, p1, p2⟩ := prs_hole (xs := xs) (ts := ts) (j := j) (v := v) (t := t) (Nat.succ.inj h) (by simpa using e1) (by simpa using e2)
    refine ⟨(some x, some t0) :: rest, ?_, fun v' t' => ?_⟩
    · exact (p1.cons _).trans (.swap ..)
    · exact ((p2 v' t').cons _).trans (.swap ..)
/-- the slot that holds an own dict -/
theorem dSlot {i : Nat} {k : Str} {P : List Key → List T → Nat → T → Prop} (r : R G H (σ.zip env ++ L)) (hl : σ.length = env.length) (h : dAt env i k P) :
    ∃ ks ts j t p xs, env[i]? = some (some (.dic ks ts)) ∧ σ[i]? = some (some (.ref p)) ∧ ks.Nodup ∧ ks.length ≤ 1000 ∧ ks[j]? = some (.inr k) ∧ ts[j]? = some t ∧ P ks ts j t ∧ H p = some (.dK (ks.zip xs)) ∧ ks.length = xs.length ∧ xs.length = ts.length ∧
      ∃ v, xs[j]? = some v ∧ valV (ks.zip xs) (.inr k) = some v := by
  obtain ⟨ks, ts, j, t, he, nd, hlt, h1000, hk, ht, hp⟩ := h
  obtain ⟨v, hv, _⟩ := r.slotV hl he
  obtain ⟨rest, r1, _, _⟩ := r.slot hv he
  obtain ⟨p, xs, e1, hd, l1, l2⟩ := r1.dict
  cases e1
  have hj : j < xs.length := by rw [l2]; exact (List.getElem?_eq_some_iff.mp ht).1
  exact ⟨ks, ts, j, t, p, xs, he, hv, nd, h1000, hk, ht, hp, hd, l1, l2, _, List.getElem?_eq_getElem hj, zip_at nd hk (List.getElem?_eq_getElem hj)⟩
theorem snd_dgetI {e n : Expr} {i : Nat} {k : Str} (ho : PE X n (tVar i)) (hp : ∀ to, PE X n to → PE X e (tDGet to (tC (.str k)))) : SE X G e (.dgetI i k) := fun W tk =>
  PE_to (hp _ ho) fun σ H Q ⟨env, L, Pn, Pe, hl, r, w, kk, x⟩ => by
    obtain ⟨ks, ts, j, t, p, xs, he, hσ, nd, h1000, hk, ht, ⟨d, et, hq⟩, hd, l1, l2, v, hv, hval⟩ := dSlot r hl w
    subst et
    refine ⟨_, hσ, p, v, rfl, ?_, ?_⟩
    · have := DGet.k (k := .inr k) hd
      rw [hval] at this
      exact this
    · obtain ⟨rest, r1, _, r2⟩ := r.slot hσ he
      have r3 := R.dVal r1 hd l1 ht hv
      have r4 := r2 H ((some v, some (.val d)) :: L) (some (.dic ks ts)) (r3.perm ((List.Perm.swap ..).trans (List.Perm.cons _ List.perm_middle.symm)))
      rw [set_same he] at r4
      exact kk v H _ env hl (r4.perm List.perm_middle) hq
theorem snd_dpop0 {e n : Expr} {i : Nat} {k : Str} (ho : PE X n (tVar i)) (hp : ∀ to, PE X n to → PE X e (tBM X.K "list" rPopAt (tDGet to (tC (.str k))) (tCons (tC (.int 0)) tNil))) : SE X G e (.dpop0 i k) := fun W tk =>
  PE_to (hp _ ho) fun σ H Q ⟨env, L, Pn, Pe, hl, r, w, kk, x⟩ => by
    obtain ⟨ks, ts, j, t, p, xs, he, hσ, nd, h1000, hk, ht, ⟨u, us, et, hq⟩, hd, l1, l2, v, hv, hval⟩ := dSlot r hl w
    subst et
    obtain ⟨rest, r1, _, r2⟩ := r.slot hσ he
    obtain ⟨xs', hd', l1', l2', r3⟩ := r1.dOpn
    have ex : xs' = xs := by
      rw [hd] at hd'
      have e := Option.some.inj hd'
      injection e with e
      have := congrArg (List.map Prod.snd) e
      rw [List.map_snd_zip (by omega), List.map_snd_zip (by omega)] at this
      exact this.symm
    subst ex
    obtain ⟨hole, pm, pm2⟩ := prs_hole l2 hv ht
    have r4 : R G H ((some v, some (.lst (u :: us))) :: ((some (.ref p), some (.raw (.dK (ks.zip xs')))) :: (hole ++ (rest ++ L)))) := by
      refine r3.perm ((List.Perm.cons _ (pm.append_right _)).trans (.swap ..))
    obtain ⟨q, zs, ev, hz, hzl⟩ := r4.list
    cases ev
    cases zs with
    | nil => simp at hzl
    | cons y zs =>
      have hzl' : zs.length = us.length := Nat.succ.inj hzl
      refine ⟨_, hσ, p, .ref q, rfl, ?_, .inl ⟨rfl, _, SqL.of hz⟩, q, y :: zs, 0, 0, y, rfl, rfl, hz, by decide, by decide, ?_, rfl, ?_⟩
      · have := DGet.k (k := .inr k) hd
        rw [hval] at this
        exact this
      · unfold seqIndex?
        simp
      · show Q y (upd H q (.lst zs))
        have r5 : R G (upd H q (.lst zs)) ((some (.ref q), some (.lst us)) :: ((some y, some u) :: ((some (.ref p), some (.raw (.dK (ks.zip xs')))) :: (hole ++ (rest ++ L))))) := by
          refine R.relist (L3 := []) r4 hz ?_ hzl'
          show ((some y, some u) :: (prs zs us ++ _)).Perm (prs zs us ++ ((some y, some u) :: _))
          exact List.perm_middle.symm
        have r6 : R G (upd H q (.lst zs)) ((some (.ref p), some (.raw (.dK (ks.zip xs')))) :: (prs xs' (ts.set j (.lst us)) ++ (rest ++ ((some y, some u) :: L)))) := by
          refine r5.perm ?_
          have z := pm2 (.ref q) (.lst us)
          rw [set_same hv] at z
          have a1 : ((some (V.ref q), some (T.lst us)) :: (some y, some u) :: (some (V.ref p), some (T.raw (.dK (ks.zip xs')))) :: (hole ++ (rest ++ L))).Perm ((some (V.ref p), some (T.raw (.dK (ks.zip xs')))) :: (some (V.ref q), some (T.lst us)) :: (some y, some u) :: (hole ++ (rest ++ L))) :=
            ((List.Perm.swap ..).cons _).trans (.swap ..)
          refine a1.trans (List.Perm.cons _ ?_)
          have a2 : ((some y, some u) :: (hole ++ (rest ++ L))).Perm (hole ++ (rest ++ ((some y, some u) :: L))) := by
            refine List.perm_middle.symm.trans (List.Perm.append_left _ ?_)
            exact List.perm_middle.symm
          exact (a2.cons _).trans (z.symm.append_right _)
        have r7 := R.dCls r6 l1 (by rw [List.length_set]; exact l2)
        have r8 := r2 _ _ (some (.dic ks (ts.set j (.lst us)))) r7
        exact kk y _ u _ (by rw [List.length_set]; exact hl) (r8.perm List.perm_middle) hq
theorem eqv_nil (ds : List D) : PyData.eqv (.list (D.pyL ds)) (.list []) = ds.isEmpty := by
  cases ds <;> simp [D.pyL, PyData.eqv, PyData.eqvAll]
theorem ste_tdne {e n : Expr} {i : Nat} {k : Str} (hK : G.K = X.K) (ho : PE X n (tVar i)) (hp : ∀ to, PE X n to → PT X e (tTest (tOp (rNeD X.K) (tDGet to (tC (.str k))) (tLst tNil)))) : STe X G e (.tdne i k) := fun W tk =>
  PT_to (hp _ ho) fun σ H Q ⟨env, L, Pn, Pe, hl, r, w, kk, x⟩ => by
    obtain ⟨ks, ts, j, t, p, xs, he, hσ, nd, h1000, hk, ht, ⟨ds, et, hpl, hq⟩, hd, l1, l2, v, hv, hval⟩ := dSlot r hl w
    subst et
    refine ⟨_, hσ, p, v, rfl, ?_, Nat.zero_le _, fun np hn => ?_⟩
    · have := DGet.k (k := .inr k) hd
      rw [hval] at this
      exact this
    · have r0 : R G (upd H np (.lst [])) ((some (.ref np), some (.lst (vals []))) :: (σ.zip env ++ L)) := R.newL (xs := []) (ts := []) r rfl hn
      have rb : R G (upd H np (.lst [])) (σ.zip env ++ ((some (.ref np), some (.lst (vals []))) :: L)) := r0.perm List.perm_middle.symm
      obtain ⟨rest, r1, _, r2⟩ := rb.slot hσ he
      obtain ⟨xs', hd', l1', l2', r3⟩ := r1.dOpn
      have ex : xs' = xs := by
        rw [upd_ne (ne_of_none hd hn), hd] at hd'
        have e := Option.some.inj hd'
        injection e with e
        have := congrArg (List.map Prod.snd) e
        rw [List.map_snd_zip (by omega), List.map_snd_zip (by omega)] at this
        exact this.symm
      subst ex
      obtain ⟨hole, pm, _⟩ := prs_hole l2 hv ht
      have m1 : (some v, some (.lst (vals ds))) ∈ ((some (V.ref p), some (T.raw (.dK (ks.zip xs')))) :: (prs xs' ts ++ (rest ++ ((some (.ref np), some (.lst (vals []))) :: L)))) := List.mem_cons_of_mem _ (List.mem_append_left _ (pm.mem_iff.mpr List.mem_cons_self))
      have m2 : (some (V.ref np), some (T.lst (vals []))) ∈ ((some (V.ref p), some (T.raw (.dK (ks.zip xs')))) :: (prs xs' ts ++ (rest ++ ((some (.ref np), some (.lst (vals []))) :: L)))) := List.mem_cons_of_mem _ (List.mem_append_right _ (List.mem_append_right _ List.mem_cons_self))
      have vw : ∀ ds : List D, (T.lst (vals ds)).view = some (.lst ds) := fun ds => by
        have : ∀ ds : List D, T.views (vals ds) = some ds := by
          intro ds
          induction ds with
          | nil => rfl
          | cons d ds ih => show (T.views (.val d :: vals ds)) = _; simp [T.views, ih]
        simp [T.view, this]
      have p1 : (D.lst ds).pl 20 = true := by simpa [D.pl] using hpl
      have p2 : (D.lst []).pl 20 = true := by decide
      refine ⟨.list (D.pyL ds), .list [], r3.dp hK m1 (vw ds) p1, r3.dp hK m2 (vw []) p2, shaped_of_pl p1, shaped_of_pl p2, _, rfl, ?_⟩
      rw [eqv_nil]
      exact kk _ _ env hl r0.pop hq
/-- d[k] = e -/
theorem ss_dsetS {st : Stmt} {e n : Expr} {i : Nat} {k : Str} {ie : I} (ho : PE X n (tVar i)) (he : SE X G e ie) (h : ∀ te to, PE X e te → PE X n to → PS X st (sDPut to (tC (.str k)) te)) : SS X G st (.dsetS i k ie) := fun W tk =>
  PS_to (h _ _ (he W tk) ho) fun D σ H ⟨env, L, P, hl, r, w, f⟩ => by
    refine ⟨env, L, _, P.ex, hl, r, w, fun u H1 t e1 hl1 r1 w1 => ?_, f.exc⟩
    have ra : R G H1 (σ.zip e1 ++ ((some u, some t) :: L)) := r1.perm List.perm_middle.symm
    obtain ⟨ks, ts, j, t0, p, xs, he1, hσ, nd, h1000, hk, ht, hq, hd, l1, l2, v, hv, hval⟩ := dSlot ra hl1 w1
    refine ⟨_, hσ, p, _, rfl, DPut.k (k := .inr k) hd (by rw [List.length_zip]; have := sizeLine_eq; omega), ?_⟩
    have hj : j < xs.length := (List.getElem?_eq_some_iff.mp hv).1
    rw [zip_put nd hk hj]
    obtain ⟨rest, r2, _, r3⟩ := ra.slot hσ he1
    obtain ⟨xs', hd', l1', l2', r4⟩ := r2.dOpn
    have ex : xs' = xs := by
      rw [hd] at hd'
      have e := Option.some.inj hd'
      injection e with e
      have := congrArg (List.map Prod.snd) e
      rw [List.map_snd_zip (by omega), List.map_snd_zip (by omega)] at this
      exact this.symm
    subst ex
    obtain ⟨hole, pm, pm2⟩ := prs_hole l2 hv ht
    have r5 := R.rawSet (ob := .dK (ks.zip (xs'.set j u))) r4 (fun _ z => by cases z) fun _ _ z => by unfold LamX.CodeO at z; cases z
    have r6 : R G (upd H1 p (.dK (ks.zip (xs'.set j u)))) ((some (.ref p), some (.raw (.dK (ks.zip (xs'.set j u))))) :: (prs (xs'.set j u) (ts.set j t) ++ (rest ++ L))) := by
      have a1 : ((some (V.ref p), some (T.raw (.dK (ks.zip (xs'.set j u))))) :: (prs xs' ts ++ (rest ++ ((some u, some t) :: L)))).Perm ([(some v, some t0)] ++ ((some (V.ref p), some (T.raw (.dK (ks.zip (xs'.set j u))))) :: (prs (xs'.set j u) (ts.set j t) ++ (rest ++ L)))) := by
        refine (List.Perm.cons _ (pm.append_right _)).trans ((List.Perm.swap ..).trans (List.Perm.cons _ (List.Perm.cons _ ?_)))
        have a2 : (hole ++ (rest ++ ((some u, some t) :: L))).Perm ((some u, some t) :: (hole ++ (rest ++ L))) := (List.Perm.append_left _ List.perm_middle).trans List.perm_middle
        exact a2.trans ((pm2 u t).symm.append_right (rest ++ L))
      exact R.take (r5.perm a1)
    have r7 := R.dCls r6 (by rw [List.length_set]; exact l1) (by rw [List.length_set, List.length_set]; exact l2)
    exact f.nx σ _ _ Keep.refl (by rw [List.length_set]; exact hl1) (r3 _ _ _ r7) hq
/-! ## displays -/
def prT (G : GC) (W : WX) : List Str → I → List (TE × TE)
  | k :: ks, .acons a r => (tC (.str k), TofE G a W) :: prT G W ks r
  | _, _ => []
theorem pairs_read {W : WX} {Pe : KE} (a : I) : ∀ {ks : List Str} {σ : L2.St} {H : Hp} {env : Env'} {L : List Pr} {Pn : List T → Env' → Prop} {Q : List (V × V) → Hp → Prop}, σ.length = env.length → R G H (σ.zip env ++ L) → wpP a env Pn Pe → ExcTo G σ L Pe W → (mask a).length = ks.length → refs a = [] →
    (∀ vs H' ts e', σ.length = e'.length → vs.length = ts.length → vs.length = ks.length → R G H' (prs vs ts ++ (σ.zip e' ++ L)) → Pn ts e' → Q ((ks.map V.str).zip vs) H') → tPairs (prT G W ks a) σ H Q := by
  induction a with
  | anil =>
    intro ks σ H env L Pn Q hl r w x hm hr k
    cases ks with
    | nil => exact k [] H [] env hl rfl rfl r w
    | cons y ks => simp [mask] at hm
  | acons a r _ ih =>
    intro ks σ H env L Pn Q hl rr w x hm hr k
    cases ks with
    | nil => simp [mask] at hm
    | cons y ks =>
      refine ⟨env, L, _, Pe, hl, rr, w, fun v1 H1 t1 e1 hl1 r1 w1 => ?_, x⟩
      have r2 : R G H1 (σ.zip e1 ++ ([(some v1, some t1)] ++ L)) := R.mid (A := [_]) r1
      refine ih (L := [(some v1, some t1)] ++ L) hl1 r2 w1 x.more (Nat.succ.inj hm) hr fun vs H2 ts e2 hl2 hv hv2 r3 w3 => ?_
      refine k (v1 :: vs) H2 (t1 :: ts) e2 hl2 (by simp [hv]) (by simp [hv2]) ?_ w3
      show R G H2 ((some v1, some t1) :: (prs vs ts ++ (σ.zip e2 ++ L)))
      rw [← List.append_assoc] at r3
      have := R.mid r3
      rw [List.append_assoc] at this
      exact this
  | aref i r ih => intro ks σ H env L Pn Q hl rr w x hm hr k; simp [refs] at hr
  | _ => intro ks σ H env L Pn Q hl rr w; exact w.elim
theorem merge_zip {ks : List Key} : ∀ {xs : List V} {acc : List (Key × V)}, ks.Nodup → (∀ k ∈ ks, valV acc k = none) → mergeK acc (ks.zip xs) = acc ++ ks.zip xs := by
  induction ks with
  | nil => intro xs acc _ _; simp [mergeK]
  | cons a ks ih =>
    intro xs acc hn h
    obtain ⟨na, hn⟩ := List.nodup_cons.mp hn
    cases xs with
    | nil => simp [mergeK]
    | cons x xs =>
      show mergeK (putK acc a x) (ks.zip xs) = _
      have h0 := h a List.mem_cons_self
      have e : putK acc a x = acc ++ [(a, x)] := putK_new x h0
      rw [ih hn (fun k hk => ?_), e, List.append_assoc]
      · rfl
      · rw [e, valV_snoc _ _ _ _ h0, if_neg (fun z : k = a => na (by rw [← z]; exact hk))]
        exact h k (List.mem_cons_of_mem _ hk)
theorem R.frzL : ∀ {xs : List V} {ts us : List T} {A M : List Pr}, FrzL ts us → xs.length = ts.length → R G H (A ++ (prs xs ts ++ M)) → R G H (A ++ (prs xs us ++ M))
  | _, _, _, A, M, .nil, _, h => h
  | x :: xs, t :: ts, _, A, M, .keep f, hl, h => by
    have h1 : R G H ((A ++ [(some x, some t)]) ++ (prs xs ts ++ M)) := by rw [List.append_assoc]; exact h
    have h2 := R.frzL f (Nat.succ.inj hl) h1
    rw [List.append_assoc] at h2
    exact h2
  | x :: xs, t :: ts, _, A, M, .frz (d := d) e f, hl, h => by
    have h0 : R G H ((some x, some t) :: (A ++ (prs xs ts ++ M))) := h.perm List.perm_middle
    have h1 : R G H ((A ++ [(some x, some (.val d))]) ++ (prs xs ts ++ M)) := by
      rw [List.append_assoc]
      exact (h0.frz e).perm List.perm_middle.symm
    have h2 := R.frzL f (Nat.succ.inj hl) h1
    rw [List.append_assoc] at h2
    exact h2
  | [], _, _, _, _, .keep _, hl, _ => by simp at hl
  | [], _, _, _, _, .frz _ _, hl, _ => by simp at hl
theorem FrzL.len {ts us : List T} (h : FrzL ts us) : ts.length = us.length := by
  induction h with
  | nil => rfl
  | keep _ ih => exact congrArg (· + 1) ih
  | frz _ _ ih => exact congrArg (· + 1) ih
theorem inr_nodup : ∀ {ks : List Str}, ks.Nodup → (ks.map (Sum.inr : Str → Key)).Nodup
  | [], _ => List.nodup_nil
  | k :: ks, h => by
    obtain ⟨a, b⟩ := List.nodup_cons.mp h
    rw [List.map_cons, List.nodup_cons]
    refine ⟨fun z => ?_, inr_nodup b⟩
    obtain ⟨y, hy, e⟩ := List.mem_map.mp z
    cases e
    exact a hy
theorem zip_kV : ∀ {ks : List Str} {vs : List V}, (ks.map V.str).zip vs = ((ks.map (Sum.inr : Str → Key)).zip vs).map fun kv => (kV kv.1, kv.2)
  | [], _ => rfl
  | _ :: _, [] => rfl
  | k :: ks, v :: vs => by
    have := zip_kV (ks := ks) (vs := vs)
    show (V.str k, v) :: (ks.map V.str).zip vs = (kV (.inr k), v) :: _
    rw [this]; rfl
theorem snd_dict {e : Expr} {ks : List Str} {ia : I} (hn : ks.Nodup) (h15 : ks.length ≤ 15) (hm : (mask ia).length = ks.length) (hr : refs ia = []) (hp : ∀ W, Takes X W → PE X e (tDisp (prT G W ks ia))) : SE X G e (.dict ks ia) := fun W tk =>
  PE_to (hp W tk) fun σ H Q ⟨env, L, Pn, Pe, hl, r, w, k, x⟩ p hp0 => by
    have r1 : R G (upd H p (.dK [])) ((some (.ref p), some (.dic [] [])) :: (σ.zip env ++ L)) := R.newD (ks := []) (xs := []) (ts := []) r rfl rfl hp0
    have r2 : R G (upd H p (.dK [])) (σ.zip env ++ ([(some (.ref p), some (.dic [] []))] ++ L)) := R.mid (A := [_]) r1
    refine pairs_read ia (Pe := Pe) hl r2 w x.more hm hr fun vs H2 ts e2 hl2 hv hv2 r3 w3 => ?_
    obtain ⟨hlen, us, hf, hq⟩ := w3
    have r4 : R G H2 ((some (.ref p), some (.dic [] [])) :: (prs vs ts ++ (σ.zip e2 ++ L))) := by
      rw [← List.append_assoc] at r3
      have := R.mid (A := [(some (V.ref p), some (T.dic [] []))]) (C := prs vs ts ++ σ.zip e2) (L := L) (by
        have z : R G H2 ((prs vs ts ++ σ.zip e2) ++ ([(some (V.ref p), some (T.dic [] []))] ++ L)) := r3
        refine z.perm ?_
        have : ((prs vs ts ++ σ.zip e2) ++ ([(some (V.ref p), some (T.dic [] []))] ++ L)).Perm ([(some (V.ref p), some (T.dic [] []))] ++ ((prs vs ts ++ σ.zip e2) ++ L)) := List.perm_middle
        exact this)
      refine this.perm ?_
      rw [List.append_assoc]
      have : ((prs vs ts ++ σ.zip e2) ++ ([(some (V.ref p), some (T.dic [] []))] ++ L)).Perm ((some (V.ref p), some (T.dic [] [])) :: ((prs vs ts ++ σ.zip e2) ++ L)) := List.perm_middle
      rw [List.append_assoc, List.append_assoc] at this
      exact this
    obtain ⟨xs, hd, l1, l2, r5⟩ := r4.dOpn
    refine ⟨by simpa using hd, (ks.map Sum.inr).zip vs, zip_kV, by rw [List.length_zip, List.length_map]; omega, ?_⟩
    rw [merge_zip (inr_nodup hn) (fun _ _ => rfl), List.nil_append]
    have r6 := R.rawSet (ob := .dK ((ks.map Sum.inr).zip vs)) r5 (fun _ z => by cases z) fun _ _ z => by unfold LamX.CodeO at z; cases z
    have ex : prs xs [] = [] := by unfold prs; exact List.zipWith_nil_right
    rw [ex] at r6
    have r7 : R G (upd H2 p (.dK ((ks.map Sum.inr).zip vs))) ((some (.ref p), some (.raw (.dK ((ks.map Sum.inr).zip vs)))) :: (prs vs us ++ (σ.zip e2 ++ L))) := R.frzL (A := [_]) hf hv r6
    exact k _ _ _ e2 hl2 (R.dCls r7 (by rw [List.length_map, hv2]) (by rw [hv, hf.len])) hq
/-- {} -/
theorem snd_dict0 {e : Expr} (hp : PE X e tDNewK) : SE X G e (.dict [] .anil) := fun W tk =>
  PE_to hp fun σ H Q ⟨env, L, Pn, Pe, hl, r, w, k, x⟩ p hp0 => by
    obtain ⟨_, us, hf, hq⟩ := w
    cases hf
    exact k _ _ _ env hl (R.newD (ks := []) (xs := []) (ts := []) r rfl rfl hp0) hq
end
end FW
set_option Elab.async false
set_option linter.all false
set_option maxRecDepth 100000
set_option maxHeartbeats 2000000
namespace FW
open PySem PySem.Spec PyProof.Rows L2
section
variable {X : Cx} {pins : List (Addr × Obj)} {τ : L2.St} {H : Hp} {s : Shared} {a : Addr} {oe : Obj} {cls : Value} {d : Option Addr}
theorem exH_ok {P : Program} {w : World} {H : Hp} {h : Heap} (e : h.get? a = some oe) (z : Zc cls d oe) (f : ∃ vs, oe.data = .fields vs) : ObjOk P w H h a (ExH cls d a) :=
  ⟨⟨oe, e, z, f⟩, ⟨oe, e⟩, fun h1 h2 ⟨o, e1, z1, f1⟩ k => ⟨o, k o e1, z1, f1⟩⟩
/-- an object that is pinned, new since the entry: tracked from now on -/
theorem Inv.track (I : Inv X ((a, oe) :: pins) τ H s) (h0 : X.s_0.heap.get? a = none) (hpn : ∀ p ∈ X.pn ++ pins, p.1 ≠ a) (z : Zc cls d oe) (f : ∃ vs, oe.data = .fields vs) : Inv X pins τ (upd H a (ExH cls d a)) s := by
  obtain ⟨g1, g2, g3, g4, g5⟩ := I.pin (a, oe) (List.mem_append_right _ List.mem_cons_self)
  have ne0 : ∀ b o, X.s_0.heap.get? b = some o → b ≠ a := fun b o e z => by rw [z, h0] at e; cases e
  have neH : ∀ b o, H b = some o → b ≠ a := fun b o e z => by rw [z, g2] at e; cases e
  have cellNe : ∀ x c, X.env.cells.lookup x = some c → c ≠ a := fun x c e q => by
    obtain ⟨v, ob, ho, hd⟩ := I.cell x c e
    rw [q, g1] at ho
    cases ho
    exact g5 v hd
  refine ⟨I.ok, I.os, I.bare, ⟨I.base.keep, I.base.slot, fun b o e n hx => ?_, I.base.there, fun b xs e => ?_, fun b o u e => ?_, fun b ps e => ?_⟩, I.loc, I.cell, ?_, fun x c e => ?_, fun p hp => ?_, fun b ob e => ?_, I.len⟩
  · rw [upd_ne (ne0 b o e)]
    exact I.base.free b o e n hx
  · have q := I.base.tups b xs e
    rw [upd_ne (neH _ _ q)]; exact q
  · have q := I.base.frzs b o u e
    rw [upd_ne (neH _ _ q)]; exact q
  · obtain ⟨m, q⟩ := I.base.tbls b ps e
    exact ⟨m, by rw [upd_ne (neH _ _ q)]; exact q⟩
  · rw [upd_ne (Ne.symm g3)]; exact I.free
  · rw [upd_ne (cellNe x c e)]; exact I.freeC x c e
  · by_cases q : p.1 = a
    · exact absurd q (hpn p hp)
    · obtain ⟨e1, e2, e3, e4, e5⟩ := I.pin p (by
        rcases List.mem_append.mp hp with z | z
        · exact List.mem_append_left _ z
        · exact List.mem_append_right _ (List.mem_cons_of_mem _ z))
      exact ⟨e1, by rw [upd_ne q]; exact e2, e3, e4, e5⟩
  · by_cases q : b = a
    · rw [q, upd_same] at e
      cases e
      rw [q]
      exact exH_ok g1 z f
    · rw [upd_ne q] at e
      exact (I.hok b ob e).stay (fun c v _ q => q) (fun c q => by rw [upd_ne (neH _ _ q)]; exact q) fun c xs q => by rw [upd_ne (neH _ _ q)]; exact q
/-- an except clause that takes what comes, and keeps the exception -/
def wKp (K : PySem.W.Frag) (c : Value) (i : Nat) (ts : Addr → Value → Option Addr → TS) (D : Ends) : WX := fun cls d σ H =>
  PySem.W.exmOne K cls c = some true ∧ ∀ a, H a = none → ts a cls d { nx := fun σ' H' => D.nx (σ'.set i none) (upd H' a (ExH cls d a)), rt := fun _ _ => False, bk := fun _ _ => False, ct := fun _ _ => False } (σ.set i (some (.ref a))) H
variable {x n : Str} {c : Value} {i : Nat} {body suite : List Stmt} {b₀ : Stmt} {np pos pos' : Pos} {tb : WX → TS} {ts : Addr → Value → Option Addr → TS}
theorem ps_keep (hs : X.stack = X.env :: X.outer) (hf : X.env.frame = some X.env.locals) (hx : X.ex = []) (hN : X.N.Nodup) (hi : X.N[i]? = some n) (hln : X.env.kindOf n = some .local) (hc : Names X x c)
    (hb : ∀ (W : WX) (pn : List (Addr × Obj)) (xe : Value → Shared → Prop), Takes (X.tr pn xe) W → PassesOwn (model X.prog X.w) X.A X.env xe → PSs (X.tr pn xe) body (tb W))
    (hsu : ∀ (a : Addr) (oe : Obj) (cls : Value) (d : Option Addr) (pn : List (Addr × Obj)), Zc cls d oe → (∃ vs, oe.data = .fields vs) → PSs (X.suite a ((a, oe) :: pn)) (b₀ :: suite) (ts a cls d)) :
    PS X (.Try body [.ExceptHandler (some (.Name x np)) (some n) (b₀ :: suite) pos'] [] [] pos) (fun D σ H => tb (wKp X.K c i ts D) D σ H) := by
  refine ⟨fun pins s τ H D I h => wpAny_Try_except ?_⟩
  have ok := I.ok
  have frames : X.A.frames = some (X.env :: X.outer) := by rw [ok.frames, hs]
  refine wpAny_mono ((hb (wKp X.K c i ts D) (X.pn ++ pins) _ (fun u s' xx => ?_) PassesOwn.looking).run [] s τ H D (I.toTry _) h) (fun f s1 q => ?_) (fun e s1 z => z)
  · obtain ⟨a, B, sI, pz, τ', H', cls, d, rfl, J', nb, up, sky, na, os, ag, hm, hyes⟩ := xx
    have J : Inv X pins τ' H' sI := J'.ofTry ok
    have sky2 : Sky B (X.env :: X.outer) a (Zc cls d) X.env.locals s'.heap := hs ▸ sky
    show wpAny (model X.prog X.w) X.A (noteFrame (.ref a) X.env) _ _ _
    refine Sky.land Zc.steady frames hf sky2 fun hA flA upA => ?_
    have JA : Inv X pins τ' H' { s' with heap := hA } := J.landed nb flA.1 (up.trans upA) os ag
    obtain ⟨oA, vA, eA, zA, dA⟩ := flA.there
    have away : ∀ {hh : Heap} {o : Obj} {vs : Array Value}, hh.FunFrames B (X.env :: X.outer) → hh.get? a = some o → o.data = .fields vs → a ∉ frs (X.env :: X.outer) := fun ff e dd hm => by
      obtain ⟨_, o', e', hnf⟩ := ff.mem hm
      exact hnf _ ((congrArg Obj.data (Option.some.inj (e'.symm.trans e))).trans dd)
    have nfr := away flA.2.2.1 eA dA
    have nL : a ≠ X.env.locals := fun z => nfr (List.mem_filterMap.mpr ⟨X.env, List.mem_cons_self, by rw [hf, z]⟩)
    have nF : a ∉ X.fs := fun hm => nfr (by
      obtain ⟨e, he, q⟩ := List.mem_filterMap.mp hm
      exact List.mem_filterMap.mpr ⟨e, List.mem_cons_of_mem _ he, q⟩)
    have nI : sI.heap.get? a = none := by
      cases q : sI.heap.get? a with
      | none => rfl
      | some o =>
        have := nb a o q (by rw [hs]; exact nfr)
        rw [flA.2.1] at this; cases this
    have n0 : X.s_0.heap.get? a = none := by
      cases q : X.s_0.heap.get? a with
      | none => rfl
      | some o =>
        obtain ⟨o', e⟩ := J.base.there a o q (by rw [hx]; simp)
        rw [nI] at e; cases e
    have hpn : ∀ p ∈ X.pn ++ pins, p.1 ≠ a := fun p hp z => by
      have := (J.pin p hp).1
      rw [z, nI] at this; cases this
    have SA := JA.suite eA dA na nL nF
    refine wpAny_handleBy_cons (codeAny_handlers_test ?_) (fun z => nomatch z)
    have tyA : PySem.W.Looks (model X.prog X.w) hA (typeOf (.ref a)) cls := fun A Q E s k q => wpAny_typeOf_ref (k _ _ eA) (by rw [zA.1]; exact q)
    have mA := PySem.W.exm_one (M := model X.prog X.w) (JA.kIn) tyA hm
    have named : ∀ {Q : Value → Shared → Prop} {E : Value → Shared → Prop}, Q c { s' with heap := hA } → wpAny (model X.prog X.w) (X.A.mark (some (.ref a))) (eval (.Name x np) X.env) Q E { s' with heap := hA } := fun {Q E} q => by
      rcases hc with ⟨hg, hdb, h1 | ⟨h1, h2, h3⟩⟩
      · exact ld_glob (X := X.suite a ((a, oA) :: (X.pn ++ pins))) SA hg h1 q hdb
      · exact ld_blt (X := X.suite a ((a, oA) :: (X.pn ++ pins))) SA hg h1 h2 q h3 hdb
    refine named (mA.here (codeAny_handlers_suite_as (HandSPX.lands_againZ flA fun hB flB upB => ?_)))
    have JB : Inv X pins τ' H' { s' with heap := hB } := J.landed nb flB.1 ((up.trans upA).trans upB) os ag
    obtain ⟨oB, vB, eB, zB, dB⟩ := flB.there
    have SB := JB.suite eB dB na nL nF
    refine store_ok (X := X.suite a ((a, oB) :: (X.pn ++ pins))) (v := .ref a) SB hN hi (.inl hln) rfl (fun sC SC => ?_) (.inr hln)
    refine wpAny_mono ((hsu a oB cls d (X.pn ++ pins) zB ⟨_, dB⟩).run [] sC _ H' _ SC (hyes a na)) (fun f sD q => ?_) (fun _ _ z => z.elim)
    cases f with
    | next =>
      obtain ⟨τD, HD, SD, qD⟩ := q
      have JD : Inv X ((a, oB) :: pins) τD HD sD := ⟨ok, SD.os, SD.bare, SD.base, SD.loc, SD.cell, SD.free, SD.freeC, fun p hp => SD.pin p (by
        rcases List.mem_append.mp hp with z | z
        · exact List.mem_append_left _ (List.mem_cons_of_mem _ (List.mem_append_left _ z))
        · rcases List.mem_cons.mp z with z | z
          · exact List.mem_append_left _ (by rw [z]; exact List.mem_cons_self)
          · exact List.mem_append_left _ (List.mem_cons_of_mem _ (List.mem_append_right _ z))), SD.hok, SD.len⟩
      exact gone_ok JD hN hi hln fun sE JE => ⟨_, _, Inv.track JE n0 hpn zB ⟨_, dB⟩, qD⟩
    | brk => obtain ⟨_, _, _, z⟩ := q; exact z.elim
    | cont => obtain ⟨_, _, _, z⟩ := q; exact z.elim
    | ret u => obtain ⟨_, _, _, _, _, z⟩ := q; exact z.elim
  · cases f with
    | next => obtain ⟨τ', H', J, z⟩ := q; exact wpAny_execs_nil ⟨τ', H', J.ofTry ok, z⟩
    | brk => obtain ⟨τ', H', J, z⟩ := q; exact ⟨τ', H', J.ofTry ok, z⟩
    | cont => obtain ⟨τ', H', J, z⟩ := q; exact ⟨τ', H', J.ofTry ok, z⟩
    | ret u => obtain ⟨v, τ', H', J, r, z⟩ := q; exact ⟨v, τ', H', J.ofTry ok, r, z⟩
theorem takes_len {W : WX} (tk : Takes X W) : Takes X (fun cls d σ H => σ.length = X.N.length → W cls d σ H) := fun u s' ⟨a, B, sI, pz, σ, H, cls, d, e, J, nb, up, sky, na, os, ag, w⟩ =>
  tk u s' ⟨a, B, sI, pz, σ, H, cls, d, e, J, nb, up, sky, na, os, ag, w J.len⟩
/-- the def that calls what it got, and tells the exception that came, or None -/
def TTc (K : PySem.W.Frag) (NE : Value) : (XK → Hp → VK → Prop) → Hp → VK → Prop := fun tl H Q =>
  tl (fun cls d H' => PySem.W.exmOne K cls NE = some true ∧ ∀ a, H' a = none → Q (.ref a) (upd H' a (ExH cls d a))) H (fun _ H' => Q .non H')
def caughtBody (a v en ne : Str) (j : Nat) (p : Nat → Pos) : List Stmt :=
  [.Assign [.Name v (p 0)] (.Constant .none j (p 1)) (p 2), .Try [.Expr (.Call (.Name a (p 3)) [] [] (p 4)) (p 5)] [.ExceptHandler (some (.Name ne (p 6))) (some en) [.Assign [.Name v (p 7)] (.Name en (p 8)) (p 9)] (p 10)] [] [] (p 11), .Return (some (.Name v (p 12))) (p 13)]
theorem caught_gives {x a v en ne q : Str} {sg : Scope} {g NE : Addr} {cdg : Value} {j : Nat} {p : Nat → Pos} (ha : sg.names.lookup a = some .local) (hv : sg.names.lookup v = some .local) (he : sg.names.lookup en = some .local) (hn : sg.names.lookup ne = some .globalImplicit) (nd : [a, v, en].Nodup)
    (hme : X.mg ne = some (.ref NE)) (hdn : (ne == ("__debug__" : Str)) = false) (dv : (v == ("__debug__" : Str)) = false ∧ (v == ("__classdict__" : Str)) = false) (de : (en == ("__debug__" : Str)) = false ∧ (en == ("__classdict__" : Str)) = false) :
    LamX.GivesTo X [a, v, en] x sg g cdg (caughtBody a v en ne j p) a q (TTc X.K (.ref NE)) := by
  intro f c' s H Q tl act hc h
  have gl : Gl (cxOf C8.CX0 X.prog X.w X.K X.mg X.base [a, v, en] x sg g cdg X.A X.stack s H C8.E0).nox ne := hn
  refine ⟨_, pss_cons (ps_asg pe_non (pg_name (i := 1) nd rfl (.inl hv) (.inr hv)) rfl rfl rfl) (pss_cons (ps_keep (X := (cxOf C8.CX0 X.prog X.w X.K X.mg X.base [a, v, en] x sg g cdg X.A X.stack s H C8.E0).nox) (i := 2) (c := .ref NE)
      (tb := fun W D σ H => ∃ (Ech : XK) (Q0 : Hp → Prop), (∀ cls d σ' H', σ'.length = 3 → Ech cls d H' → W cls d σ' H') ∧ σ[0]? = some (some (.ref f)) ∧ H c' = some (LamX.CodeO c' q) ∧ tl Ech H (fun _ H' => Q0 H') ∧ ∀ H', Q0 H' → D.nx σ H')
      (ts := fun a cls d => tAsg (tVar 2) (gName 1)) rfl rfl rfl nd rfl he ⟨gl, hdn, .inl hme⟩ (fun W pn xe tk _ => ?_) (fun a oe cls d pn _ _ => pss_one (ps_asg (pe_var rfl (.inl he) de.1 de.2) (pg_name nd rfl (.inl hv) (.inr hv)) rfl rfl rfl))) (pss_one (ps_ret (pe_var (i := 1) rfl (.inl hv) dv.1 dv.2)))), ?_⟩
  · refine ⟨fun pins s' τ H' D I h' => ?_⟩
    obtain ⟨Ech, Q0, hW, h1, h2, h3, h4⟩ := h'
    have hp := act (fun cls d σ H => σ.length = 3 → W cls d σ H) pn xe Ech (p 3) (p 4) (takes_len tk) fun cls d σ' H' z hl => hW cls d σ' H' hl z
    have hp2 : PE _ (.Call (.Name a (p 3)) [] [] (p 4)) (fun σ H Qv => ∃ Q0 : Hp → Prop, (σ[0]? = some (some (.ref f)) ∧ H c' = some (LamX.CodeO c' q) ∧ tl Ech H fun _ H' => Q0 H') ∧ ∀ v H', Q0 H' → Qv v H') :=
      ⟨fun pins s σ H Qv I ⟨Q0, h1, h4⟩ => thn (hp.run pins s σ H (fun _ H' => Q0 H') I h1) fun u s1 ⟨w, H1, I1, r1, q1⟩ => ⟨w, H1, I1, r1, h4 w H1 q1⟩⟩
    exact (pss_one (ps_expr (pos := p 5) hp2 rfl)).run pins s' τ H' D I ⟨Q0, ⟨h1, h2, h3⟩, fun _ H' z => h4 H' z⟩
  · show tSeq _ _ _ _ _
    refine ⟨fun cls d H' => PySem.W.exmOne X.K cls (.ref NE) = some true ∧ ∀ a, H' a = none → Q (.ref a) (upd H' a (ExH cls d a)), fun H' => Q .non H', fun cls d σ' H' hl he => ⟨he.1, fun b hb => ⟨.ref b, ?_, ?_⟩⟩, rfl, hc, h, fun H' z => ⟨.non, rfl, z⟩⟩
    · rw [List.getElem?_set_self (by rw [hl]; decide)]
    · refine ⟨.ref b, ?_, he.2 b hb⟩
      rw [List.getElem?_set_ne (by decide), List.getElem?_set_self (by rw [List.length_set, hl]; decide)]
end
end FW
set_option Elab.async false
set_option linter.all false
set_option maxRecDepth 100000
set_option maxHeartbeats 2000000
namespace FW
open PySem PySem.Spec PyProof.Rows L2
section
variable {G : GC} {X : Cx} {σ : L2.St} {L : List Pr} {H H' : Hp} {env : Env'}
theorem OwP.obj {B : Hp} {L : List Pr} {f : List Addr} (h : OwP G B H L f) : ∀ a ∈ f, ∃ o, H a = some o ∧ ∀ ps, o ≠ .tbl ps := by
  induction h with
  | nil => intro a ha; simp at ha
  | dead _ ih => exact ih
  | cons h _ ih =>
    intro a ha
    rcases List.mem_append.mp ha with e | e
    · exact h.obj a e
    · exact ih a e
/-- a lambda is made: only the tables change -/
theorem R.extN (h : R G H L) (e : LamX.ExtN H H') (t : LamX.Tabs G.tabs H') : R G H' L := by
  obtain ⟨B, fp, s, w, n, u, tb⟩ := h
  refine ⟨B, fp, fun b o q => e b o (s b o q) fun ps z => tb.nt b ps (z ▸ q), w.mono (Same.refl B) fun a ha => ?_, n, u, ⟨t, tb.nt⟩⟩
  obtain ⟨o, q, z⟩ := w.obj a ha
  rw [q]
  exact e a o q z
theorem R.tabs (h : R G H L) : LamX.Tabs G.tabs H := by
  obtain ⟨B, fp, s, w, n, u, tb⟩ := h
  exact tb.ok
theorem exH_tbl {cls : Value} {d : Option Addr} {a : Addr} (ps : Array Value) : ExH cls d a ≠ .tbl ps := fun z => by unfold ExH at z; cases z
/-- the exception becomes a value -/
theorem R.newX {c : Str} {ns : List Str} {ds : List D} {cls : Value} {d : Option Addr} {a : Addr} (h : Air G (.exc c ns ds) cls d H L) (ha : H a = none) : R G (upd H a (ExH cls d a)) ((some (.ref a), some (.val (.exc c ns ds))) :: L) := by
  obtain ⟨c', ns', ds', C, e0, e1, e2, h⟩ := h
  cases e0
  subst e1
  rcases h with ⟨e3, e4, e5, r⟩ | ⟨dd, e3, r⟩
  · subst e3 e4 e5
    obtain ⟨B, fp, s, w, n, u, tb⟩ := r
    have ba : B a = none := by
      cases q : B a with
      | none => rfl
      | some o => have := s a o q; rw [ha] at this; cases this
    have sB : Same B (upd B a (ExH (.ref C) none a)) := fun b o q => by rw [upd_ne (ne_of_none q ba)]; exact q
    have nf : ∀ b ∈ fp, b ≠ a := fun b hb z => w.there b hb (z ▸ ha)
    refine ⟨upd B a (ExH (.ref C) none a), [] ++ fp, fun b o q => ?_, .cons (.val (.exc e2 upd_same (.inl ⟨rfl, rfl⟩) (xs := []) rfl .nil)) (w.mono sB fun b hb => upd_ne (nf b hb)), n, fun b hb => ?_, ⟨(tb.new ha).ok, fun b ps q => ?_⟩⟩
    · by_cases hb : b = a
      · subst hb; rw [upd_same] at q ⊢; exact q
      · rw [upd_ne hb] at q ⊢; exact s b o q
    · rw [upd_ne (nf b hb)]; exact u b hb
    · by_cases hb : b = a
      · subst hb; rw [upd_same] at q; exact exH_tbl ps (Option.some.inj q)
      · rw [upd_ne hb] at q; exact tb.nt b ps q
  · obtain ⟨e3, nz⟩ := e3
    subst e3
    obtain ⟨B, fp, s, w, n, u, tb⟩ := r
    cases w with
    | @cons _ _ _ f g x w =>
      cases x with
      | @xdc _ _ xs _ hp hl sh =>
        obtain ⟨np, n'⟩ := List.nodup_cons.mp (show (dd :: g).Nodup from n)
        have ba : B a = none := by
          cases q : B a with
          | none => rfl
          | some o => have := s a o q; rw [ha] at this; cases this
        have bd : B dd = none := u dd (by simp)
        have da : dd ≠ a := fun z => by rw [z, ha] at hp; cases hp
        have sB : Same B (upd (upd B dd (.xd (ns.zip xs))) a (ExH (.ref C) (some dd) a)) := fun b o q => by rw [upd_ne (ne_of_none q ba), upd_ne (ne_of_none q bd)]; exact q
        have nf : ∀ b ∈ g, b ≠ a := fun b hb z => w.there b hb (z ▸ ha)
        have nd : ∀ b ∈ g, b ≠ dd := fun b hb z => np (z ▸ hb)
        refine ⟨_, [] ++ g, fun b o q => ?_, .cons (.val (.exc e2 upd_same (.inr ⟨dd, ⟨rfl, nz⟩, by rw [upd_ne da, upd_same]⟩) hl (sh.mono sB))) (w.mono sB fun b hb => upd_ne (nf b hb)), n', fun b hb => ?_, ⟨(tb.new ha).ok, fun b ps q => ?_⟩⟩
        · by_cases hb : b = a
          · subst hb; rw [upd_same] at q ⊢; exact q
          · rw [upd_ne hb] at q ⊢
            by_cases hb2 : b = dd
            · subst hb2; rw [upd_same] at q; cases q; exact hp
            · rw [upd_ne hb2] at q; exact s b o q
        · rw [upd_ne (nf b hb), upd_ne (nd b hb)]; exact u b (by simp; exact .inr hb)
        · by_cases hb : b = a
          · subst hb; rw [upd_same] at q; exact exH_tbl ps (Option.some.inj q)
          · rw [upd_ne hb] at q
            by_cases hb2 : b = dd
            · subst hb2; rw [upd_same] at q; cases q
            · rw [upd_ne hb2] at q; exact tb.nt b ps q
/-- what is known of the def that catches -/
structure CauOk (K : PySem.W.Frag) (mg : Str → Option Value) (x ne : Str) : Prop where
  ex : ∃ (a v en : Str) (j : Nat) (p : Nat → Pos) (g NE : Addr) (sg : Scope) (params : Arguments) (fd : FuncData), mg x = some (.ref g) ∧ FunD K x x params (caughtBody a v en ne j p) sg [] [] g fd ∧ Binds K fd [a] [] ∧ FnScope [a, v, en] [a] sg ∧
    sg.names.lookup a = some .local ∧ sg.names.lookup v = some .local ∧ sg.names.lookup en = some .local ∧ sg.names.lookup ne = some .globalImplicit ∧ mg ne = some (.ref NE) ∧ (ne == ("__debug__" : Str)) = false ∧
    ((a == ("__debug__" : Str)) = false ∧ (a == ("__classdict__" : Str)) = false) ∧ ((v == ("__debug__" : Str)) = false ∧ (v == ("__classdict__" : Str)) = false) ∧ (en == ("__debug__" : Str)) = false ∧ (en == ("__classdict__" : Str)) = false
def noArgs : Arguments → Bool
  | ⟨[], [], none, [], [], none, []⟩ => true
  | _ => false
theorem snd_caught {x ne : Str} {nets : List Str} {ie : I} {k : Nat} {params : Arguments} {body : Expr} {scope : Scope} {p lpos pos : Pos} (ca : CauOk X.K X.mg x ne) (hmg : G.mg = X.mg)
    (hg : Gl X x) (hdb : (x == ("__debug__" : Str)) = false) (hr : Room (k + 2) X.A) (hp : noArgs params = true) (L : LamX.LamS X.env.scope scope)
    (tab : ∃ cd P, X.env.code = .ref cd ∧ LamX.TabB X.base X.mg cd P ∧ (P, X.env.qual ++ "<lambda>") ∈ G.tabs ∧ ∀ p ∈ G.tabs, p.1 = P → p.2 = X.env.qual ++ "<lambda>")
    (hn : ∀ n ∈ nets, ∃ C, X.mg n = some (.ref C) ∧ ∀ NE, X.mg ne = some (.ref NE) → PySem.W.exmOne X.K (.ref C) (.ref NE) = some true)
    (hb : ∀ (A : Around) (outer : List Env) (s : Shared) (H : Hp) (E : XK) (f c' : Addr), Room k (A.deeper (LamX.lamEnv X scope s.heap.objs.size f c')) → SE (LamX.lamCx X A outer s H E scope f c') G body ie) : SE X G (.Call (.Name x p) [.Lambda params body scope lpos] [] pos) (.caught nets ie) := fun W tk => by
  obtain ⟨a, v, en, j, pp, g, NE, sg, pg, fd, h1, h2, h3, h4, h5, h6, h7, h8, h9, h10, h11, h12, h13⟩ := ca.ex
  obtain ⟨oc, od, dV, kV, doc, pm, an, cdv, ct, osl, rfl, lk, hcd, _, _⟩ := h2.ex
  obtain ⟨cd, P, t1, t2, t3, t4⟩ := tab
  have hdef : defaultsOf params X.env = ([], []) ∧ ∀ (q : Str) (cl : List (Str × Addr)) (pm cv ctv : Value), bindArgs (PySem.W.kla_fn "<lambda>" q params body scope cl pm cv ctv) ⟨[], []⟩ = pure [] := by
    unfold noArgs at hp
    split at hp
    · exact ⟨rfl, fun _ _ _ _ _ => rfl⟩
    · cases hp
  have nd : [a, v, en].Nodup := h4.nd
  refine PE_to (LamX.pe_lamcall (T := G.tabs) (t := fun E => TofE G ie (fun cls d _ H => E cls d H)) hg h1 h2.kp lk hcd h3 h4 rfl (.inl h5) (caught_gives (X := X) (q := X.env.qual ++ "<lambda>") h5 h6 h7 h8 nd h9 h10 h12 h13) t2 t1 t3 t4 hr L hdef.1 hdef.2 (fun A outer s H E f c' hr2 => hb A outer s H E f c' hr2 _ (takes_of rfl rfl rfl rfl)) hdb h11.1 h11.2) ?_
  rintro σ H Q ⟨env, L, Pn, Pe, hl, r, w, kk, xx⟩
  refine ⟨r.tabs, fun H1 eN T1 => ⟨env, L, _, _, hl, r.extN eN T1, w, fun v H' t e' hl' r' q => kk .non H' _ e' hl' (r'.pop.push fun _ _ => .non) q, ?_⟩⟩
  rintro x cls d H' e' hl' ar ⟨c, ns, ds, rfl, hc, hq⟩
  obtain ⟨C, n1, n2⟩ := hn c hc
  have ec : cls = .ref C := by
    obtain ⟨c', ns', ds', C', z0, z1, z2, _⟩ := ar
    cases z0
    rw [hmg, n1] at z2
    cases z2
    exact z1
  subst ec
  exact ⟨n2 NE h9, fun b hb => kk _ _ _ e' hl' (R.newX ar hb) hq⟩
/-- isinstance(e, C), e an exception or None -/
theorem c_isX {cv : V} {cu : Value} (kc : ClsV cv cu) {tab : List (Str × Bool)} (hmg : G.mg = X.mg) (h0 : PySem.W.kitOne X.K (.type "NoneType") cu = some false) (ht : ∀ q ∈ tab, ∃ C, X.mg q.1 = some (.ref C) ∧ ExcC X.K C ∧ PySem.W.kitOne X.K (.ref C) cu = some q.2) :
    CallR X (.builtin "isinstance") (fun vs H Q => ∃ (v : V) (L : List Pr) (P : Bool → Prop), vs = [v, cv] ∧ ((v = .non ∧ P false) ∨ ∃ c ns ds b, R G H ((some v, some (.val (.exc c ns ds))) :: L) ∧ (c, b) ∈ tab ∧ P b) ∧ ∀ b, P b → Q (.bl b) H) := by
  intro pins s σ H vs us Q I rv h
  obtain ⟨v, L, P, rfl, h, k⟩ := h
  rcases h with ⟨rfl, hp⟩ | ⟨c, ns, ds, b, r, hm, hp⟩
  · exact call_isi pins s σ H _ us Q I rv ⟨.non, cv, _, _, false, rfl, kc, .base .non, h0, k _ hp⟩
  · obtain ⟨C, q1, q2, q3⟩ := ht _ hm
    obtain ⟨w, B, e1, sm, sh⟩ := r.shown
    cases e1
    cases sh with
    | @exc _ C2 a d _ xs _ g1 g2 g3 g4 g5 =>
      have eC : C2 = C := by rw [hmg] at g1; have := g1.symm.trans q1; cases this; rfl
      subst eC
      obtain ⟨⟨oe, z1, z2, vs, z3⟩, _, _⟩ := I.hok a _ (sm _ _ g2)
      obtain ⟨u1, u2, rfl, r1, r2⟩ := vals2 rv
      obtain rfl : u1 = Value.ref a := r1
      have e2 := kc.eq r2
      subst e2
      have J : ∃ odx, PySem.W.InstAt s.heap a oe C2 odx := by
        obtain ⟨oc, od, oda, osl⟩ := oe
        obtain ⟨y1, y2⟩ := z2
        dsimp only at y1 y2 z3
        subst y1 y2 z3
        rcases g3 with z | ⟨dd, z4, z5⟩
        · rw [z.2] at z1
          exact ⟨none, by rw [z.2]; exact z1, rfl, rfl, by rw [z.2]; trivial⟩
        · obtain ⟨mA, hns, _⟩ := I.hok dd _ (sm _ _ z5)
          obtain ⟨od, ho, _⟩ := lookIn_ns hns
          exact ⟨some od, z1, rfl, rfl, by rw [z4.1]; exact ho⟩
      obtain ⟨odx, J⟩ := J
      have hcl : (PySem.W.clsIn X.K C2).isSome = true := by
        obtain ⟨cd, hc, _⟩ := PySem.W.any_some q2.hd
        rw [hc]; rfl
      exact PySem.W.kia_one (PySem.W.kitx_exc hcl q2.hg q2.hk q2.hs q2.ha q2.hn q2.ht q2.hm) I.kIn J q3 (fun z => nomatch z) fun tk => ⟨.bl b, H, I.kept (t' := tk) fun _ _ z => z, rfl, k _ hp⟩
theorem snd_isX {e e1 : Expr} {cls : Str} {cv : V} {cu : Value} (kc : ClsV cv cu) {tab : List (Str × Bool)} {ie : I} (hmg : G.mg = X.mg) (h0 : PySem.W.kitOne X.K (.type "NoneType") cu = some false) (ht : ∀ q ∈ tab, ∃ C, X.mg q.1 = some (.ref C) ∧ ExcC X.K C ∧ PySem.W.kitOne X.K (.ref C) cu = some q.2) (he : SE X G e1 ie)
    (hp : ∀ r te, CallR X (.builtin "isinstance") r → PE X e1 te → PE X e (tCB r (tCons te (tCons (tC cv) tNil)))) : SE X G e (.isX cls tab ie) := fun W tk =>
  PE_to (hp _ _ (c_isX (G := G) kc hmg h0 ht) (he W tk)) fun σ H Q ⟨env, L, Pn, Pe, hl, r, w, k, x⟩ => by
    refine ⟨env, L, _, Pe, hl, r, w, fun v1 H1 t1 e1 hl1 r1 w1 => ?_, x⟩
    refine ⟨v1, σ.zip e1 ++ L, fun b => Pn (.val (.bl b)) e1, rfl, ?_, fun b hb => k _ _ _ e1 hl1 (r1.pop.pBl b) hb⟩
    rcases w1 with ⟨rfl, hq⟩ | ⟨c, ns, ds, b, rfl, hm, hq⟩
    · exact .inl ⟨r1.non List.mem_cons_self rfl, hq⟩
    · exact .inr ⟨c, ns, ds, b, r1, hm, hq⟩
end
end FW
set_option Elab.async false
set_option linter.all false
set_option maxRecDepth 100000
set_option maxHeartbeats 2000000
namespace FW
open PySem PySem.Spec PyProof.Rows L2
/-! ## closures kept in lists -/
section
variable {X : Cx} {pins : List (Addr × Obj)} {σ : L2.St} {H : Hp} {s : Shared}
/-- the function object of a lambda that the frame of X made -/
def LamAt (X : Cx) (params : Arguments) (body : Expr) (scope : Scope) (f c' : Addr) (h : Heap) : Prop :=
  ∃ (pm ctv : Value), h.get? f = some (PySem.W.kla_obj "<lambda>" (X.env.qual ++ "<lambda>") params body scope (cloFrom X.env.cells scope.names []) pm c' ctv)
/-- a lambda is made: f is the next address behind what stood, or was laid with it -/
theorem clo_laid {T : List (Addr × Str)} {cd tb : Addr} {params : Arguments} {body : Expr} {scope : Scope} {pos : Pos} {E Q : Value → Shared → Prop} (I : Inv X pins σ H s) (TB : LamX.TabB X.base X.mg cd tb) (ec : X.env.code = .ref cd)
    (tin : (tb, X.env.qual ++ "<lambda>") ∈ T) (tun : ∀ p ∈ T, p.1 = tb → p.2 = X.env.qual ++ "<lambda>") (tabs : LamX.Tabs T H) (nodef : defaultsOf params X.env = ([], [])) (caps : ∀ y ∈ scope.names, y.2 = .free → ∃ a, X.env.cells.lookup y.1 = some a)
    (go : ∀ (c' : Addr) (pm ctv : Value) (H1 : Hp) (s1 : Shared) (tk : Nat), Inv X pins σ H1 s1 → LamX.ExtN H H1 → LamX.Tabs T H1 → H1 c' = some (LamX.CodeO c' (X.env.qual ++ "<lambda>")) →
      Q (.ref s1.heap.objs.size) { s1 with heap := s1.heap.push (PySem.W.kla_obj "<lambda>" (X.env.qual ++ "<lambda>") params body scope (cloFrom X.env.cells scope.names []) pm c' ctv), toks := tk }) :
    wpAny (model X.prog X.w) X.A (eval (.Lambda params body scope pos) X.env) Q E s := by
  obtain ⟨ar, z1, z2, z3⟩ := tabs _ tin
  have bB := TB.bm.keeps I.bk
  have objT : s.heap.get? tb = some { cls := .none, data := .fields ar } := I.hok tb _ z1
  refine PySem.W.kla_eval nodef ?_
  cases hit : codeAmong pos ar.toList with
  | some cv =>
    obtain ⟨c', rfl, known⟩ := z3 pos cv hit
    refine PySem.W.kla_makeFunctionHit (c := cd) (P := tb) (ps := ar) (mg := X.mg) (closure_ok caps) I.ok.glob (I.mod.glob.keeps I.bk) ec (TB.code.keeps I.bk) objT z2 hit bB fun ctv h1 tk old new => ?_
    exact go c' _ ctv H { s with heap := h1, toks := tk } tk (I.kept old) (.refl H) tabs known
  | none =>
    refine PySem.W.kla_makeFunction (c := cd) (P := tb) (ps := ar) (mg := X.mg) (closure_ok caps) I.ok.glob (I.mod.glob.keeps I.bk) ec (TB.code.keeps I.bk) objT z2 hit TB.gP bB fun c' ctv h1 tk old above below rec_ tbl_ => ?_
    obtain ⟨c1, oc, vs, t, e1, e2, e3, e4⟩ := rec_
    cases e1
    have fresh : H c' = none := I.hok.fresh above
    have J := LamX.inv_table (t' := tk) (more := #[rawInt pos.line, rawInt pos.col, .ref c']) (h' := h1) I z1 old tbl_ above ⟨oc, vs, t, e2, e3, e4⟩
    have grow : LamX.ExtN H (upd (upd H tb (.tbl (ar ++ #[rawInt pos.line, rawInt pos.col, .ref c']))) c' (LamX.CodeO c' (X.env.qual ++ "<lambda>"))) := fun b u q nt => by
      have b1 : b ≠ c' := ne_of_none q fresh
      have b2 : b ≠ tb := fun z => nt ar (Option.some.inj (q.symm.trans (z ▸ z1)))
      rw [upd_ne b1, upd_ne b2, q]
    have asList : (ar ++ #[rawInt pos.line, rawInt pos.col, .ref c']).toList = ar.toList ++ [rawInt pos.line, rawInt pos.col, .ref c'] := by simp
    refine go c' _ ctv _ { s with heap := h1, toks := tk } tk J grow (fun p hp => ?_) upd_same
    by_cases same : p.1 = tb
    · rw [tun p hp same, same]
      refine ⟨_, (upd_ne (ne_of_none z1 fresh)).trans upd_same, asList ▸ PySem.TriplesOk_snoc _ _ _ _ z2, fun q cv hq => ?_⟩
      rw [asList] at hq
      rcases LamX.among_app _ z2 hq with w | w
      · obtain ⟨c0, q1, q2⟩ := z3 q cv w
        exact ⟨c0, q1, grow _ _ q2 LamX.codeO_ne⟩
      · exact ⟨c', w, upd_same⟩
    · obtain ⟨ar2, y1, y2, y3⟩ := tabs p hp
      refine ⟨ar2, ?_, y2, fun q cv hq => ?_⟩
      · rw [upd_ne (ne_of_none y1 fresh), upd_ne same, y1]
      · obtain ⟨c0, q1, q2⟩ := y3 q cv hq
        exact ⟨c0, q1, grow _ _ q2 LamX.codeO_ne⟩
end
mutual
theorem Ow.obC {G : GC} {B H : Hp} : ∀ {v : V} {t : T} {f : List Addr}, Ow G B H v t f → ∀ a ∈ f, ∃ o, H a = some o ∧ ∀ c q, o ≠ LamX.CodeO c q
  | _, _, _, .val _, _, ha => by simp at ha
  | _, _, _, .lst h l, a, ha => by
    rcases List.mem_cons.mp ha with e | e
    · exact ⟨_, by rw [e]; exact h, fun _ _ z => by unfold LamX.CodeO at z; cases z⟩
    · exact OwL.obC l a e
  | _, _, _, .dic h q l, a, ha => by
    rcases List.mem_cons.mp ha with e | e
    · exact ⟨_, by rw [e]; exact h, fun _ _ z => by unfold LamX.CodeO at z; cases z⟩
    · exact OwL.obC l a e
  | _, _, _, .raw h _ n, a, ha => by
    rw [List.mem_singleton.mp ha]
    exact ⟨_, h, n⟩
  | _, _, _, .xdc h _ _, a, ha => by
    rw [List.mem_singleton.mp ha]
    exact ⟨_, h, fun _ _ z => by unfold LamX.CodeO at z; cases z⟩
theorem OwL.obC {G : GC} {B H : Hp} : ∀ {vs : List V} {ts : List T} {f : List Addr}, OwL G B H vs ts f → ∀ a ∈ f, ∃ o, H a = some o ∧ ∀ c q, o ≠ LamX.CodeO c q
  | _, _, _, .nil, _, ha => by simp at ha
  | _, _, _, .cons h t, a, ha => by
    rcases List.mem_append.mp ha with e | e
    · exact Ow.obC h a e
    · exact OwL.obC t a e
end
section
variable {G : GC} {H : Hp} {L : List Pr}
theorem OwP.obC {B : Hp} {f : List Addr} (h : OwP G B H L f) : ∀ a ∈ f, ∃ o, H a = some o ∧ ∀ c q, o ≠ LamX.CodeO c q := by
  induction h with
  | nil => intro a ha; simp at ha
  | dead _ ih => exact ih
  | cons h _ ih =>
    intro a ha
    rcases List.mem_append.mp ha with e | e
    · exact h.obC a e
    · exact ih a e
/-- a closure, from now on data -/
theorem R.newClo {cf : CF} {j : Nat} {f c' : Addr} (h : R G H L) (hf : H f = none) (hc : H c' = some (LamX.CodeO c' cf.q)) (nt : ∀ ps, cf.o j c' f ≠ .tbl ps) : R G (upd H f (cf.o j c' f)) ((some (.ref f), some (.val (.clo cf j))) :: L) := by
  obtain ⟨B, fp, s, w, n, u, tb⟩ := h
  have bf : B f = none := by
    cases q : B f with
    | none => rfl
    | some o => have := s f o q; rw [hf] at this; cases this
  have cf' : c' ≠ f := ne_of_none hc hf
  have nf : ∀ b ∈ fp, b ≠ f := fun b hb z => w.there b hb (z ▸ hf)
  have nc : ∀ b ∈ fp, b ≠ c' := fun b hb z => by
    obtain ⟨o, e1, e2⟩ := w.obC b hb
    rw [z, hc] at e1
    exact e2 _ _ (Option.some.inj e1).symm
  have sB : Same B (upd (upd B c' (LamX.CodeO c' cf.q)) f (cf.o j c' f)) := fun b o q => by
    rw [upd_ne (ne_of_none q bf)]
    by_cases hb : b = c'
    · subst hb
      have := s b o q
      rw [hc] at this
      rw [upd_same]
      exact this
    · rw [upd_ne hb]; exact q
  refine ⟨upd (upd B c' (LamX.CodeO c' cf.q)) f (cf.o j c' f), [] ++ fp, fun b o q => ?_, .cons (.val (.clo (c := c') upd_same (by rw [upd_ne cf', upd_same]))) (w.mono sB fun b hb => upd_ne (nf b hb)), n, fun b hb => ?_, ⟨(tb.new hf).ok, fun b ps q => ?_⟩⟩
  · by_cases hb : b = f
    · subst hb; rw [upd_same] at q ⊢; exact q
    · rw [upd_ne hb] at q ⊢
      by_cases hb2 : b = c'
      · subst hb2; rw [upd_same] at q; cases q; exact hc
      · rw [upd_ne hb2] at q; exact s b o q
  · rw [upd_ne (nf b hb), upd_ne (nc b hb)]; exact u b hb
  · by_cases hb : b = f
    · subst hb; rw [upd_same] at q; exact nt ps (Option.some.inj q)
    · rw [upd_ne hb] at q
      by_cases hb2 : b = c'
      · subst hb2; rw [upd_same] at q; exact LamX.codeO_ne ps (Option.some.inj q)
      · rw [upd_ne hb2] at q; exact tb.nt b ps q
/-- what a closure's value is -/
theorem R.cloV {cf : CF} {j : Nat} {v : V} (h : R G H L) (m : (some v, some (T.val (.clo cf j))) ∈ L) : ∃ f c', v = .ref f ∧ H f = some (cf.o j c' f) ∧ H c' = some (LamX.CodeO c' cf.q) := by
  obtain ⟨B, fp, s, w, n, u, tb⟩ := h
  have key : ∀ {L : List Pr} {f : List Addr}, OwP G B H L f → (some v, some (T.val (.clo cf j))) ∈ L → Sh G B v (.clo cf j) := by
    intro L f h
    induction h with
    | nil => intro m; simp at m
    | dead _ ih =>
      intro m
      rcases List.mem_cons.mp m with z | z
      · cases z
      · exact ih z
    | cons a _ ih =>
      intro m
      rcases List.mem_cons.mp m with z | z
      · cases z
        cases a with
        | val a => exact a
      · exact ih z
  cases key w m with
  | clo h1 h2 => exact ⟨_, _, rfl, s _ _ h1, s _ _ h2⟩
end
section
variable {X : Cx} {G : GC} {pins : List (Addr × Obj)} {σ : L2.St} {H : Hp} {s : Shared}
/-- what stands at a closure whose body means b -/
def CloP (X : Cx) (G : GC) (k : Nat) (b : I) (c' f : Addr) : HO := .ext fun h => ∃ (params : Arguments) (body : Expr) (scope : Scope), noArgs params = true ∧ LamX.LamS X.env.scope scope ∧
  (∀ (A : Around) (outer : List Env) (s : Shared) (H : Hp) (E : XK) (f c' : Addr), Room k (A.deeper (LamX.lamEnv X scope s.heap.objs.size f c')) → SE (LamX.lamCx X A outer s H E scope f c') G body b) ∧ LamAt X params body scope f c' h
def cfOf (X : Cx) (G : GC) (k : Nat) (bod : Nat → I) : CF := ⟨fun j c' f => CloP X G k (bod j) c' f, X.env.qual ++ "<lambda>"⟩
theorem cloP_tbl {k : Nat} {b : I} {c' f : Addr} (ps : Array Value) : CloP X G k b c' f ≠ .tbl ps := fun z => by unfold CloP at z; cases z
theorem noArgs_of {params : Arguments} (hp : noArgs params = true) (env : Env) : defaultsOf params env = ([], []) ∧ ∀ (body : Expr) (scope : Scope) (q : Str) (cl : List (Str × Addr)) (pm cv ctv : Value), bindArgs (PySem.W.kla_fn "<lambda>" q params body scope cl pm cv ctv) ⟨[], []⟩ = pure [] := by
  unfold noArgs at hp
  split at hp
  · exact ⟨rfl, fun _ _ _ _ _ _ _ => rfl⟩
  · cases hp
theorem snd_lamV {k j : Nat} {bod : Nat → I} {cf : CF} {ie : I} {params : Arguments} {body : Expr} {scope : Scope} {pos : Pos} (hcf : cf = cfOf X G k bod) (hb : bod j = ie) (hp : noArgs params = true) (ls : LamX.LamS X.env.scope scope)
    (tab : ∃ cd P, X.env.code = .ref cd ∧ LamX.TabB X.base X.mg cd P ∧ (P, X.env.qual ++ "<lambda>") ∈ G.tabs ∧ ∀ p ∈ G.tabs, p.1 = P → p.2 = X.env.qual ++ "<lambda>")
    (hs : ∀ (A : Around) (outer : List Env) (s : Shared) (H : Hp) (E : XK) (f c' : Addr), Room k (A.deeper (LamX.lamEnv X scope s.heap.objs.size f c')) → SE (LamX.lamCx X A outer s H E scope f c') G body ie) : SE X G (.Lambda params body scope pos) (.lamV cf j ie) := fun W tk => by
  obtain ⟨cd, P, t1, t2, t3, t4⟩ := tab
  subst hcf hb
  refine ⟨fun pins s σ H Q I ⟨env, L, Pn, Pe, hl, r, w, kk, x⟩ => clo_laid I t2 t1 t3 t4 r.tabs (noArgs_of hp _).1 (ls.has I.ok) fun c' pm ctv H1 s1 tk I1 grow T1 hc => ?_⟩
  have new : H1 s1.heap.objs.size = none := I1.hok.fresh (Nat.le_refl _)
  have I2 := I1.laid (a := s1.heap.objs.size) (o := CloP X G k (bod j) c' s1.heap.objs.size) (t' := tk) (h' := s1.heap.push (PySem.W.kla_obj "<lambda>" (X.env.qual ++ "<lambda>") params body scope (cloFrom X.env.cells scope.names []) pm c' ctv)) (fun b o e => Heap.get?_push_of_some _ e) (Nat.le_refl _)
    ⟨⟨params, body, scope, hp, ls, hs, pm, ctv, Heap.get?_push_size _ rfl⟩, ⟨_, Heap.get?_push_size _ rfl⟩, fun h1 h2 ⟨p, b, sc, z1, z2, z3, pm', ctv', z4⟩ st => ⟨p, b, sc, z1, z2, z3, pm', ctv', st _ z4⟩⟩
  exact ⟨.ref _, _, I2, rfl, kk _ _ _ env hl (R.newClo (cf := cfOf X G k bod) (j := j) (r.extN grow T1) new hc fun ps => cloP_tbl ps) w⟩
/-- work(), in the def that catches: what stands at the closure is known -/
theorem clo_act {CXg : CXT} {Eg : XK} {Ng : List Str} {qg : Str} {sg : Scope} {g f c' : Addr} {cdg : Value} {k i : Nat} {a : Str} {b : I} {pn : List (Addr × Obj)} {xe : Value → Shared → Prop} {W : WX} {E : XK} {p1 p2 : Pos} (I : Inv X pins σ H s)
    (tk : Takes ((cxOf CXg X.prog X.w X.K X.mg X.base Ng qg sg g cdg X.A X.stack s H Eg).tr pn xe) W) (hW : ∀ cls d σ' H', E cls d H' → W cls d σ' H') (hr : Room (k + 1) (X.A.deeper (envOfC qg sg s.heap.objs.size g cdg)))
    (at_ : Ng[i]? = some a) (vis : Vis sg a) (d1 : (a == ("__debug__" : Str)) = false) (d2 : (a == ("__classdict__" : Str)) = false) :
    PE ((cxOf CXg X.prog X.w X.K X.mg X.base Ng qg sg g cdg X.A X.stack s H Eg).tr pn xe) (.Call (.Name a p1) [] [] p2)
      (fun τ HZ Q => τ[i]? = some (some (.ref f)) ∧ HZ c' = some (LamX.CodeO c' (X.env.qual ++ "<lambda>")) ∧ HZ f = some (CloP X G k b c' f) ∧ TofE G b (fun cls d _ H => E cls d H) σ HZ Q) := by
  refine ⟨fun pz sz τ HZ Q IZ ⟨g1, g2, g3, g4⟩ => wpAny_Call_Name_kw (thn ((pe_var (pos := p1) (i := i) at_ vis d1 d2).run pz sz τ HZ (fun v H1 => v = .ref f ∧ H1 = HZ) IZ ⟨.ref f, g1, rfl, rfl⟩) fun u s1 ⟨v, H1, J1, rv, ev, eH⟩ => ?_)⟩
  subst ev
  rw [eH] at J1
  obtain rfl : u = Value.ref f := rv
  obtain ⟨⟨params, body, scope, hp, ls, hs, pm, ctv, of1⟩, _, _⟩ := J1.hok f _ g3
  obtain ⟨⟨oc, vs, t, k1, k2, k3⟩, _, _⟩ := J1.hok c' _ g2
  have ran : codeAny (model X.prog X.w) (X.A.deeper (envOfC qg sg s.heap.objs.size g cdg)) (.call (.ref f) ⟨[], []⟩) (CR (L2.CX X.prog X.w) (envOfC qg sg s.heap.objs.size g cdg :: X.stack) X.prog X.w HZ s1 Q E) s1 := by
    refine PySem.W.kla_callFunE hr.depth of1 rfl ls.co ls.gen rfl ⟨c', oc, vs, t, rfl, k1, k2, k3⟩ ?_
    rw [(noArgs_of hp X.env).2]
    refine wpAny_pure (wpAny_newFunctionEnv (fun y m => (ls.own y m).2) (fun y m => absurd m (by simp)) (fun hn ns same => ⟨J1.nolimit.fresh _ same, ?_⟩) ls.kind)
    have keeps : ∀ b o, s1.heap.get? b = some o → hn.get? b = some o := fun b o e => same.extBut b o (Nat.ne_of_lt (Heap.lt_size e)) (Heap.get?_push_of_some _ e)
    have start := LamX.lam_start2 (E := E) (f := f) (c' := c') (tk := s1.toks + ([] : List (Str × Value)).length) I ls J1.env0 hr.hd J1.base ns keeps
    show codeAny _ _ (.expr body (LamX.lamEnv X scope s1.heap.objs.size f c')) _ _
    exact PySem.W.kla_codeExpr (wpAny_mono ((hs _ _ s1 HZ E f c' (hr.deeper _) _ (takes_of rfl rfl rfl rfl)).run [] _ _ HZ Q start g4) (fun v s2 ⟨w, H2, J2, r2, q2⟩ => ⟨w, H2, J2.os, J2.bare, J2.base, J2.hok, r2, q2⟩) fun e s2 q => q)
  refine PySem.W.callWith_F0 ⟨_, _, _, _, of1⟩ (wpAny_call (codeAny_mono ran fun r s2 hq => ?_))
  match r, hq with
  | .error e, hq => exact passes_call tk hW pz τ HZ s1 e s2 J1 hq
  | .ok (.ret u), hq => exact J1.after hq
  | .ok .next, hq => exact False.elim hq
  | .ok .brk, hq => exact False.elim hq
  | .ok .cont, hq => exact False.elim hq
end
end FW
set_option Elab.async false
set_option linter.all false
set_option maxRecDepth 100000
set_option maxHeartbeats 2000000
namespace FW
open PySem PySem.Spec PyProof.Rows L2
section
variable {X : Cx}
/-- the block's context -/
abbrev BlkOf (X : Cx) (scope : Scope) (s : Shared) (H : Hp) (C : Addr) (cl : List (Str × Addr)) (fp : List Addr) : Cx := X.blk s H scope (compEnvC scope cl C X.env) fp
/-- the frame of X stands around the block Y: its names' values σ -/
def Back (X Y : Cx) (σ : L2.St) : Prop := ∀ (pins : List (Addr × Obj)) (τ : L2.St) (H : Hp) (s : Shared), Inv Y pins τ H s → ∃ pins', Inv X pins' σ H s
/-- a comprehension whose tests look at the frame around it -/
theorem pe_lcB {elt tg iter : Expr} {ifs : List Expr} {scope : Scope} {own : List (Str × Nat)} {pos : Pos} {wi : TI} {g : TG} {tt : L2.St → TT} {te : TE} (calm : X.calm = true) (nd : X.N.Nodup) (hi : PI X tg iter wi) (ok : BlkOk X.N X.env.scope scope own)
    (hg : ∀ s H C cl fp, PG (BlkOf X scope s H C cl fp) tg g) (ht : ∀ σ s H C cl fp, Back X (BlkOf X scope s H C cl fp) σ → PTs (BlkOf X scope s H C cl fp) ifs (tt σ)) (he : ∀ s H C cl fp, PE (BlkOf X scope s H C cl fp) elt te)
    (fold : ∀ x, foldedSetIterable iter X.env x = pure x) : PE X (.ListComp elt [⟨tg, iter, ifs, 0⟩] scope pos) (fun σ H Q => tLc wi g (tt σ) te (own.map (·.2)) σ H Q) := by
  refine ⟨fun pins s σ H Q I h => ?_⟩
  have caps : ∀ y ∈ scope.names, y.2 = .free → ∃ a, X.env.cells.lookup y.1 = some a := fun y hy e => (ok.free y hy e).elim (fun k => I.ok.has _ (.inl k)) fun k => I.ok.has _ (.inr k)
  rw [eval_ListComp]
  refine wpAny_comprehension_free rfl fold (closure_ok caps) ok.kind (fun y hy e => e ▸ ok.uniq y hy) (thn (hi.run pins s σ H _ I h) fun xv sa hx => thn hx fun itv sb hb => ?_)
  obtain ⟨it, fp, tn, J, Hb, rfl, Ib, turn, sta, fpo, rest⟩ := hb
  refine wpAny_newObj_type (newEnv_comp ?_) (by show 0 ≤ sizeLine; decide)
  -- the new list stands at D
  obtain ⟨D, eD⟩ : ∃ D, D = sb.heap.objs.size := ⟨_, rfl⟩
  have freeD : Hb D = none := Ib.hok.fresh (Nat.le_of_eq eD.symm)
  obtain ⟨Wv, ⟨m0, w0⟩, step⟩ := rest D freeD
  obtain ⟨sc, esc⟩ : ∃ sc : Shared, sc = { sb with heap := sb.heap.push { cls := .type "list", data := .seq ([] : List Value).toArray } } := ⟨_, rfl⟩
  have hpc : sc.heap = sb.heap.push { cls := .type "list", data := .seq ([] : List Value).toArray } := by rw [esc]
  have up1 : ∀ b o, sb.heap.get? b = some o → sc.heap.get? b = some o := fun b o e => by rw [hpc]; exact Heap.get?_push_of_some _ e
  have Ic : Inv X pins σ (upd Hb D (.lst [])) sc := by
    rw [esc]
    exact Ib.laid (t' := sb.toks) (fun b o e => Heap.get?_push_of_some _ e) (Nat.le_of_eq eD.symm) ⟨Nat.zero_le _, [], 0, .nil, by rw [eD]; exact Heap.get?_push_size _ rfl⟩
  have small : ∀ b ∈ fp, b < sb.heap.objs.size := fun b m => let ⟨o, e, _⟩ := turn.obj _ _ sta b m; Heap.lt_size e
  have fpc : ∀ b ∈ fp, FpOk X pins (upd Hb D (.lst [])) b ∧ b < sc.heap.objs.size := fun b m =>
    ⟨⟨(upd_ne (by rw [eD]; exact Nat.ne_of_lt (small b m))).trans (fpo b m).1, (fpo b m).2⟩, by rw [hpc, Heap.size_push]; exact Nat.lt_succ_of_lt (small b m)⟩
  have stc : tn 0 sc.heap := turn.keep _ _ _ sta fun b _ o e => up1 b o e
  have Id := block_start Ic ok nd fpc
  rw [← eD, ← esc]
  generalize eH : upd Hb D (.lst []) = Hc at Ic Id fpc w0
  generalize ecl : cellsFrom (sc.heap.objs.size + 1) scope.names (cloFrom X.env.cells scope.names []) = cl at Id ⊢
  generalize esd : ({ sc with heap := pushCells (sc.heap.push { cls := .type "dict", data := .dict #[] }) scope.names } : Shared) = sd at Id ⊢
  have std : tn 0 sd.heap := turn.keep _ _ _ stc fun b _ o e => by rw [← esd]; exact pushCells_keeps _ _ _ _ (Heap.get?_push_of_some _ e)
  obtain ⟨Y, eY⟩ : ∃ Y, Y = BlkOf X scope sc Hc sc.heap.objs.size cl fp := ⟨_, rfl⟩
  have back0 : ∀ (pz : List (Addr × Obj)) (τ : L2.St) (H' : Hp) (s' : Shared), Inv Y pz τ H' s' → Inv X pins σ H' s' := fun pz τ H' s' J => by
    subst eY
    exact Ic.call' (ch := fp) J.os J.base J.hok J.bare fun b m => ⟨(fpc b m).1.2.2.2.1, (fpc b m).1.2.1, (fpc b m).1.2.2.2.2.1, (fpc b m).1.2.2.2.2.2⟩
  have back : Back X Y σ := fun pz τ H' s' J => ⟨pins, back0 pz τ H' s' J⟩
  have pg := hg sc Hc sc.heap.objs.size cl fp
  have pt := ht σ sc Hc sc.heap.objs.size cl fp (eY ▸ back)
  have pe := he sc Hc sc.heap.objs.size cl fp
  have free0 : ∀ b ∈ fp, Hc b = none := fun b m => (fpc b m).1.1
  have ys : Y.s_0 = sc ∧ Y.H_0 = Hc ∧ Y.ex = fp ∧ Y.pn = [] ∧ Y.A = X.A ∧ Y.prog = X.prog ∧ Y.w = X.w ∧ Y.K = X.K ∧ Y.calm = X.calm ∧ Y.env = compEnvC scope cl sc.heap.objs.size X.env ∧ Y.xe = fun _ _ => False := by subst eY; exact ⟨rfl, rfl, rfl, rfl, rfl, rfl, rfl, rfl, rfl, rfl, rfl⟩
  have stays : ∀ {τ : L2.St} {H' : Hp} {s' : Shared}, Inv (BlkOf X scope sc Hc sc.heap.objs.size cl fp) [] τ H' s' → (∀ b ∈ fp, H' b = none) → ∀ b ∈ fp, FpOk (BlkOf X scope sc Hc sc.heap.objs.size cl fp) [] H' b := fun J n b m =>
    ⟨n b m, (J.ok.exf b m).1, J.ok.exfs b m, .inl m, (J.ok.exf b m).2, fun p z => nomatch (show p ∈ ([] : List (Addr × Obj)) from z)⟩
  have round : codeAny (model X.prog X.w) X.A (.compLoop (.ListComp elt [⟨tg, iter, ifs, 0⟩] scope pos) 0 (.ref it) (.ref D) (compEnvC scope cl sc.heap.objs.size X.env)) (compPost (model X.prog X.w) X.A X.xe none (EP X pins σ Q) (.ref D) sc.heap.objs.size) sd := by
    refine compLoop_any (fun n s' => ∃ i H', Inv (BlkOf X scope sc Hc sc.heap.objs.size cl fp) [] (wipe σ (own.map (·.2))) H' s' ∧ tn i s'.heap ∧ (∀ b ∈ fp, H' b = none) ∧ Wv i n H') (fun n se hse => ?_) m0 ⟨0, Hc, Id, std, free0, w0⟩
    obtain ⟨i, He, Ie, ste, ne, we⟩ := hse
    rcases step i n He we with ⟨stop, fin⟩ | ⟨more, Nx, dec, body⟩
    · refine thnF (turn.done (BlkOf X scope sc Hc sc.heap.objs.size cl fp) rfl rfl rfl calm i [] se _ He (fun _ _ => False) Ie (stays Ie ne) ste stop) fun r sf ⟨er, If⟩ => ?_
      subst er
      obtain ⟨m, ns, _⟩ := If.loc
      have home := back0 [] _ He sf (eY.symm ▸ If)
      have own0 : FpOk X pins He sc.heap.objs.size := Ic.fpOk (Nat.le_refl _) If.free
      refine ⟨m, ns, fun hl same => ?_⟩
      obtain ⟨q0, q1, q2, q3, q4, q5⟩ := own0
      exact ⟨.ref D, He, home.turned (t' := sf.toks) (fun b o nb e => (same.2 b nb).trans e) q0 q1 q3 q4 q5, rfl, fin⟩
    · refine thnF (turn.item (BlkOf X scope sc Hc sc.heap.objs.size cl fp) rfl rfl rfl calm i [] se _ He (fun _ _ => False) Ie (stays Ie ne) ste more) fun r sf ⟨u, er, lf⟩ => ?_
      subst er
      refine thnF lf fun _ sg ⟨x, Hg, Ig, rg, yg, stg, ng⟩ => ?_
      refine thnF (pg.run _ sg _ Hg x u _ (Ig.pinned (stays Ig ng) (turn.obj _ _ stg)) rg (body x Hg yg)) fun _ sh ⟨τ, Hh, Ih, wh, qh⟩ => ?_
      refine thnF (pt.run _ sh τ Hh _ Ih qh) fun b si ⟨Hi, Ii, qi⟩ => ?_
      have close : ∀ {s' : Shared} {H' : Hp}, Inv (BlkOf X scope sc Hc sc.heap.objs.size cl fp) ([] ++ pinsAt fp sg.heap) τ H' s' → Nx H' → ∃ m, m < n ∧ ∃ i H', Inv (BlkOf X scope sc Hc sc.heap.objs.size cl fp) [] (wipe σ (own.map (·.2))) H' s' ∧ tn i s'.heap ∧ (∀ b ∈ fp, H' b = none) ∧ Wv i m H' := fun {s' H'} K nx => by
        obtain ⟨m', lt, w'⟩ := dec H' nx
        have pinned : ∀ b ∈ fp, ∀ o, sg.heap.get? b = some o → s'.heap.get? b = some o ∧ H' b = none := fun b m o e =>
          have z := K.pin (b, o) (List.mem_append_right _ (List.mem_append_right _ (mem_pinsAt m e)))
          ⟨z.1, z.2.1⟩
        have len : (wipe σ (own.map (·.2))).length = τ.length := by rw [← wh, wipe_length]
        exact ⟨m', lt, i + 1, H', (K.unpinned (pins := [])).weak len fun j v e => (wipe_some (wh ▸ e)).1, turn.keep _ _ _ stg fun b m o e => (pinned b m o e).1, fun b m => let ⟨o, e, _⟩ := turn.obj _ _ stg b m; (pinned b m o e).2, w'⟩
      match b, qi with
      | false, qi => exact close Ii qi
      | true, qi =>
        refine thnF (pe.run _ si τ Hi _ Ii qi) fun z sj ⟨yv, Hj, Ij, rj, acc, atD, room, nx⟩ => ?_
        exact app_ok (X := BlkOf X scope sc Hc sc.heap.objs.size cl fp) Ij atD room rj fun sk Ik => close Ik nx
  exact codeAny_compStart_list round (turn.self X.A 0 _ _ _ std round)
end
end FW
set_option Elab.async false
set_option linter.all false
set_option maxRecDepth 100000
set_option maxHeartbeats 2000000
namespace FW
open PySem PySem.Spec PyProof.Rows L2
section
variable {X : Cx} {G : GC}
/-- another context of the same run: the frame of X around it -/
abbrev Alt (X : Cx) (s0 : Shared) (H0 : Hp) (ev : Env) (out : List Env) (ex : List Addr) (fn : Str → Bool) (pn : List (Addr × Obj)) (xe : Value → Shared → Prop) : Cx := { X with s_0 := s0, H_0 := H0, env := ev, outer := out, ex := ex, fn := fn, pn := pn, xe := xe }
def BackF (X Y : Cx) (sg : L2.St → L2.St) : Prop := ∀ (pins : List (Addr × Obj)) (τ : L2.St) (H : Hp) (s : Shared), Inv Y pins τ H s → ∃ pins', Inv X pins' (sg τ) H s
/-- what is caught of the closure in the slot w: its body read at the frame's own values -/
def tW (X : Cx) (G : GC) (k : Nat) (nets : List Str) (sg : L2.St → L2.St) (w : Nat) : TE := fun τ H Q => ∃ (f c' : Addr) (b : I) (env : Env') (L : List Pr) (Pv : D → Env' → Prop) (Pn : T → Env' → Prop) (Pe : KE), τ[w]? = some (some (.ref f)) ∧ H f = some (CloP X G k b c' f) ∧ H c' = some (LamX.CodeO c' (X.env.qual ++ "<lambda>")) ∧
  (sg τ).length = env.length ∧ R G H ((sg τ).zip env ++ L) ∧ wpE b env Pn Pe ∧ (∀ t e', Pn t e' → Pv .non e') ∧ (∀ x e', Pe x e' → ∃ c ns ds, x = .exc c ns ds ∧ c ∈ nets ∧ Pv (.exc c ns ds) e') ∧
  ∀ v H' d e', (sg τ).length = e'.length → R G H' ((some v, some (.val d)) :: ((sg τ).zip e' ++ L)) → Pv d e' → Q v H'
theorem pe_clo {s0 : Shared} {H0 : Hp} {ev : Env} {out : List Env} {ex : List Addr} {fn : Str → Bool} {pn : List (Addr × Obj)} {xe : Value → Shared → Prop} {x ne wn : Str} {nets : List Str} {sg : L2.St → L2.St} {k w : Nat} {p pw pos : Pos} (ca : CauOk X.K X.mg x ne) (hmg : G.mg = X.mg)
    (gl : Gl (Alt X s0 H0 ev out ex fn pn xe) x) (db : (x == ("__debug__" : Str)) = false) (hr : Room (k + 2) X.A) (bk : BackF X (Alt X s0 H0 ev out ex fn pn xe) sg) (pv : PE (Alt X s0 H0 ev out ex fn pn xe) (.Name wn pw) (tVar w))
    (hn : ∀ n ∈ nets, ∃ C, X.mg n = some (.ref C) ∧ ∀ NE, X.mg ne = some (.ref NE) → PySem.W.exmOne X.K (.ref C) (.ref NE) = some true) :
    PE (Alt X s0 H0 ev out ex fn pn xe) (.Call (.Name x p) [.Name wn pw] [] pos) (tW X G k nets sg w) := by
  obtain ⟨a, v0, en, j, pp, g, NE, sc, pg, fd, h1, h2, h3, h4, h5, h6, h7, h8, h9, h10, h11, h12, h13⟩ := ca.ex
  obtain ⟨oc, od, dV, kV, doc, pm, an, cdv, ct, osl, rfl, lk, hcd, _, _⟩ := h2.ex
  refine ⟨fun pins s τ H Q I ⟨f, c', b, env, L, Pv, Pn, Pe, t1, t2, t3, hl, r, wp, hpn, hpe, fin⟩ => wpAny_Call_Name_kw (ld_glob I gl h1 ?_ db)⟩
  refine PySem.W.callWith_K (h₀ := X.base) I.ok.mod.kin h2.kp ?_ (by rfl) (by rfl)
  show wpAny _ _ (spliced ((false, eval (.Name wn pw) ev) :: backTo pos (starEach [] ev))) _ _ s
  refine Calls.spliced_cons (thn (pv.run pins s τ H (fun v H1 => v = .ref f ∧ H1 = H) I ⟨.ref f, t1, rfl, rfl⟩) fun u s1 ⟨v, H1, I1, r1, ev1, eH⟩ => ?_)
  subst ev1
  rw [eH] at I1
  obtain rfl : u = Value.ref f := r1
  obtain ⟨px, IX⟩ := bk _ _ _ _ I1
  refine Calls.spliced_nil ⟨I1.kIn, ?_⟩
  have ran : codeAny (model X.prog X.w) X.A (.call (.ref g) ⟨[.ref f], []⟩) (CR C8.CX0 X.stack X.prog X.w H s1 Q C8.E0) s1 := by
    refine LamX.run_ofS (N := [a, v0, en]) (ps := [a]) (us := [.ref f]) (vs := [.ref f]) lk hcd h4 hr IX.env0 (h3 s1 [.ref f] IX.kIn rfl) (.cons rfl .nil) rfl fun hr' => ?_
    have flies : ExcTo G (sg τ) L Pe (fun cls d _ H' => PySem.W.exmOne X.K cls (.ref NE) = some true ∧ ∀ a, H' a = none → Q (.ref a) (upd H' a (ExH cls d a))) := by
      intro xx cls d H' e' l' ar hx
      obtain ⟨c, ns, ds, rfl, hc, hq⟩ := hpe _ _ hx
      obtain ⟨C, n1, n2⟩ := hn c hc
      have ec : cls = .ref C := by
        obtain ⟨c2, ns2, ds2, C2, z0, z1, z2, _⟩ := ar
        cases z0
        rw [hmg, n1] at z2
        cases z2
        exact z1
      subst ec
      exact ⟨n2 NE h9, fun a ha => fin _ _ _ e' l' (R.newX ar ha) hq⟩
    obtain ⟨t', ht', hq'⟩ := caught_gives (X := X) (q := X.env.qual ++ "<lambda>") (g := g) (cdg := cdv) (x := x) (j := j) (p := pp) h5 h6 h7 h8 h4.nd h9 h10 h12 h13 f c' s1 H Q (fun E H' Q' => H' f = some (CloP X G k b c' f) ∧ TofE G b (fun cls d _ H => E cls d H) (sg τ) H' Q')
      (fun W pn xe E p1 p2 tk hW => clo_act IX tk hW hr' rfl (.inl h5) h11.1 h11.2) t3 ⟨t2, env, L, _, _, hl, r, wp, fun v H' t e' l' r' q => fin .non H' .non e' l' (r'.pop.push fun _ _ => .non) (hpn _ _ q), flies⟩
    exact ⟨t', ht'.nox, hq'⟩
  refine wpAny_call (codeAny_mono ran fun r s2 hq => ?_)
  match r, hq with
  | .error e, hq => exact False.elim hq
  | .ok (.ret u), hq => exact I1.after hq
  | .ok .next, hq => exact False.elim hq
  | .ok .brk, hq => exact False.elim hq
  | .ok .cont, hq => exact False.elim hq
end
end FW
set_option Elab.async false
set_option linter.all false
set_option maxRecDepth 100000
set_option maxHeartbeats 2000000
namespace FW
open PySem PySem.Spec PyProof.Rows L2
/-- the table tells the bodies -/
def tabOk (bod : Nat → I) : Nat → I → Prop
  | n, .acons b r => bod n = b ∧ tabOk bod (n + 1) r
  | _, .anil => True
  | _, _ => False
theorem tab_wp {bod : Nat → I} : ∀ {tab : I} {n j : Nat} {env : Env'} {Q : T → Env' → Prop} {E : KE}, tabOk bod n tab → wpJ tab j env Q E → wpE (bod (n + j)) env Q E
  | .acons b r, n, 0, env, Q, E, h, w => by
    obtain ⟨rfl, _⟩ := h
    exact w
  | .acons b r, n, j + 1, env, Q, E, h, w => by
    have := tab_wp (j := j) h.2 w
    rw [show n + (j + 1) = n + 1 + j by omega]
    exact this
  | .anil, _, _, _, _, _, _, w => nomatch w
section
variable {X : Cx} {G : GC}
theorem snd_caughtV {x ne wn : Str} {nets : List Str} {k w : Nat} {cf : CF} {bod : Nat → I} {tab : I} {p pw pos : Pos} (ca : CauOk X.K X.mg x ne) (hmg : G.mg = X.mg) (gl : Gl X x) (db : (x == ("__debug__" : Str)) = false) (hr : Room (k + 2) X.A) (pv : PE X (.Name wn pw) (tVar w))
    (hn : ∀ n ∈ nets, ∃ C, X.mg n = some (.ref C) ∧ ∀ NE, X.mg ne = some (.ref NE) → PySem.W.exmOne X.K (.ref C) (.ref NE) = some true) (hcf : cf = cfOf X G k bod) (ht : tabOk bod 0 tab) :
    SE X G (.Call (.Name x p) [.Name wn pw] [] pos) (.caughtV nets cf w tab) := fun W tk =>
  PE_to (pe_clo (s0 := X.s_0) (H0 := X.H_0) (ev := X.env) (out := X.outer) (ex := X.ex) (fn := X.fn) (pn := X.pn) (xe := X.xe) (sg := id) ca hmg gl db hr (fun pins τ H s I => ⟨pins, I⟩) pv hn) fun σ H Q ⟨env, L, Pn, Pe, hl, r, ⟨j, ej, wj⟩, kk, x⟩ => by
    subst hcf
    obtain ⟨v, hv, hm⟩ := r.slotV hl ej
    obtain ⟨f, c', rfl, e1, e2⟩ := r.cloV hm
    have w1 := tab_wp ht wj
    rw [Nat.zero_add] at w1
    exact ⟨f, c', bod j, env, L, fun d e' => Pn (.val d) e', _, _, hv, e1, e2, hl, r, w1, fun t e' q => q, fun x e' q => q, fun v H' d e' l' r' q => kk v H' _ e' l' r' q⟩
theorem wipe_wipe {σ : L2.St} {vs : List Nat} : wipe (wipe σ vs) vs = wipe σ vs := wipe_eq (by rw [wipe_length]) fun i _ => rfl
/-- [1 for work in works if not isinstance(caught(work), C)] -/
theorem snd_compW {x ne wn cls : Str} {nets : List Str} {xt : List (Str × Bool)} {k i w : Nat} {cf : CF} {bod : Nat → I} {tab : I} {cv : V} {cu : Value} {elt tg iter : Expr} {p p0 pw pc : Pos} {p1 p2 p3 p4 p5 : Pos} {scope : Scope} {own : List (Str × Nat)} {pos : Pos} {jj : Nat} {isn : Str}
    (hK : G.K = X.K) (ca : CauOk X.K X.mg x ne) (hmg : G.mg = X.mg) (calm : X.calm = true) (nd : X.N.Nodup) (hr : Room (k + 2) X.A) (hn : ∀ n ∈ nets, ∃ C, X.mg n = some (.ref C) ∧ ∀ NE, X.mg ne = some (.ref NE) → PySem.W.exmOne X.K (.ref C) (.ref NE) = some true)
    (kc : ClsV cv cu) (h0 : PySem.W.kitOne X.K (.type "NoneType") cu = some false) (hxt : ∀ q ∈ xt, ∃ C, X.mg q.1 = some (.ref C) ∧ ExcC X.K C ∧ PySem.W.kitOne X.K (.ref C) cu = some q.2) (hcf : cf = cfOf X G k bod) (ht : tabOk bod 0 tab)
    (hi : SI X G tg iter (.iseq (.var i))) (ok : BlkOk X.N X.env.scope scope own) (ho : own.map (·.2) = [w]) (hg : ∀ s H C cl fp, PG (BlkOf X scope s H C cl fp) tg (tgR X.K (.gname w))) (fold : ∀ x, foldedSetIterable iter X.env x = pure x)
    (gl : ∀ s H C cl fp, Gl (BlkOf X scope s H C cl fp) x) (db : (x == ("__debug__" : Str)) = false) (pv : ∀ s H C cl fp, PE (BlkOf X scope s H C cl fp) (.Name wn pw) (tVar w))
    (hp : ∀ s H C cl fp r te, CallR (BlkOf X scope s H C cl fp) (.builtin "isinstance") r → PE (BlkOf X scope s H C cl fp) (.Call (.Name x p) [.Name wn pw] [] p0) te → PE (BlkOf X scope s H C cl fp) (.Call (.Name isn p1) [.Call (.Name x p) [.Name wn pw] [] p0, .Name cls p2] [] p3) (tCB r (tCons te (tCons (tC cv) tNil)))) :
    SE X G (.ListComp (.Constant (.int 1) jj p5) [⟨tg, iter, [.UnaryOp .Not (.Call (.Name isn p1) [.Call (.Name x p) [.Name wn pw] [] p0, .Name cls p2] [] p3) p4], 0⟩] scope pos) (.compW nets cf i w cls xt tab) := fun W tk =>
  PE_to (pe_lcB (tt := fun σ => tNot (tB (tCB (fun vs H Q => ∃ (v : V) (L : List Pr) (P : Bool → Prop), vs = [v, cv] ∧ ((v = .non ∧ P false) ∨ ∃ c ns ds b, R G H ((some v, some (.val (.exc c ns ds))) :: L) ∧ (c, b) ∈ xt ∧ P b) ∧ ∀ b, P b → Q (.bl b) H)
      (tCons (tW X G k nets (fun _ => wipe σ [w]) w) (tCons (tC cv) tNil))))) calm nd (hi _ takesF) ok hg (fun σ s H C cl fp bk => pts_one (pt_not (pt_val (hp s H C cl fp _ _ (c_isX (G := G) kc hmg h0 hxt)
        (pe_clo (nets := nets) ca hmg (gl s H C cl fp) db hr (fun pz τ H' s' J => let ⟨q, J'⟩ := bk pz τ H' s' J; ⟨q, J'.weak (wipe_length _ _) fun j v e => (wipe_some e).1⟩) (pv s H C cl fp) hn)))))
      (fun s H C cl fp => pe_int) fold) fun σ H Q ⟨env, L, Pn, Pe, hl, r, ⟨js, ei, hlim, ⟨niw, hw⟩, J, j0, jst, jturn, jend⟩, kk, xx⟩ => by
    rw [ho]
    subst hcf
    refine ⟨env, L, fun src items e' => src = [.slot i] ∧ items = js.map (D.clo (cfOf X G k bod)) ∧ e' = env, fun _ _ => False, hl, r, ⟨⟨_, ei⟩, .lst (js.map (D.clo (cfOf X G k bod))), by
      show (match env[i]? with | some (some t) => t.view | _ => none) = some (.lst (js.map (D.clo (cfOf X G k bod))))
      rw [ei]
      show (T.views (vals _)).map D.lst = _
      rw [views_vals]; rfl, rfl, rfl, rfl⟩, fun Jt H1 src items e0 M hl1 r1 ig th ⟨es, eit, ee⟩ => ?_, excF⟩
    subst es eit ee
    intro Da hD
    have hlw : (wipe σ [w]).length = (e0.set w none).length := by rw [wipe_length, List.length_set]; exact hl1
    have r2 : R G (upd H1 Da (.lst [])) ((some (.ref Da), some (.lst (vals (List.replicate 0 (.int 1))))) :: ((wipe σ [w]).zip (e0.set w none) ++ (M ++ L))) := R.newL (xs := []) (ts := []) (R.clr (vs := [w]) r1 hl1) rfl hD
    refine ⟨fun n m H => ∃ cnt e, n ≤ js.length ∧ m = js.length - n ∧ (wipe σ [w]).length = e.length ∧ J n cnt e ∧ R G H ((some (.ref Da), some (.lst (vals (List.replicate cnt (.int 1))))) :: ((wipe σ [w]).zip e ++ (M ++ L))),
      ⟨js.length, 0, _, Nat.zero_le _, by simp, hlw, j0, r2⟩, ?_⟩
    rintro n m H2 ⟨cnt, e, hn2, rfl, hle, jn, r3⟩
    obtain ⟨s1, s2, s3⟩ := jst n cnt e jn
    have io : ItOk e0 [.slot i] e := fun k hk i' ek => by
      rw [List.mem_singleton.mp hk] at ek
      cases ek
      exact s1
    have srcs : ∀ i', .slot i' ∈ [Tok.slot i] → (wipe σ [w])[i']? = σ[i']? := fun i' hs => by
      have := List.mem_singleton.mp hs
      cases this
      exact wipe_out (by simpa using niw)
    have r4 : R G H2 ((wipe σ [w]).zip e ++ ([(some (V.ref Da), some (T.lst (vals (List.replicate cnt (.int 1)))))] ++ (M ++ L))) := R.mid (A := [_]) r3
    obtain ⟨g1, g2⟩ := ig H2 (wipe σ [w]) e [(some (V.ref Da), some (T.lst (vals (List.replicate cnt (.int 1)))))] hle srcs io r4
    by_cases hlt : n < js.length
    · obtain ⟨go, gy⟩ := g1 n (.clo (cfOf X G k bod) js[n]) (by simp [hlt])
      refine .inr ⟨go, fun H' => ∃ cnt e, J (n + 1) cnt e ∧ (wipe σ [w]).length = e.length ∧ R G H' ((some (.ref Da), some (.lst (vals (List.replicate cnt (.int 1))))) :: ((wipe σ [w]).zip e ++ (M ++ L))), fun H' ⟨c', e', a, b, c⟩ => ⟨js.length - (n + 1), by omega, c', e', hlt, rfl, b, a, c⟩, fun y H3 hy => ?_⟩
      have r5 := gy y H3 hy
      refine tgR_run (g := .gname w) (Qd := fun e2 => e2 = e.set w (some (.val (.clo (cfOf X G k bod) js[n])))) hK hle r5 rfl fun σ2 e2 l1 l2 same r6 w2 => ?_
      subst w2
      have l1' : σ2.length = σ.length := by rw [l1, wipe_length]
      have we : wipe σ2 [w] = wipe σ [w] := wipe_eq l1' same
      have lw : w < e.length := by rw [← hle, wipe_length, hl1]; exact hw
      obtain ⟨v, hv, hm⟩ := r6.slotV l2 (i := w) (t := .val (.clo (cfOf X G k bod) js[n])) (by rw [List.getElem?_set_self lw])
      obtain ⟨f, c', rfl, k1, k2⟩ := r6.cloV hm
      have wj := jturn n cnt e js[n] jn (List.getElem?_eq_getElem hlt)
      have w1 := tab_wp ht wj
      rw [Nat.zero_add] at w1
      refine ⟨we, f, c', bod js[n], e, _, fun d e' => (d = .non ∧ J (n + 1) (cnt + 1) (e'.set w none)) ∨ ∃ c ns ds b, d = .exc c ns ds ∧ (c, b) ∈ xt ∧ J (n + 1) (if b = true then cnt else cnt + 1) (e'.set w none), _, _, hv, k1, k2, hle, r5.pop, w1, fun t e' q => .inl ⟨rfl, q⟩, fun x e' ⟨c, ns, ds, b, q1, q2, q3, q4⟩ => ⟨c, ns, ds, q1, q2, .inr ⟨c, ns, ds, b, rfl, q3, q4⟩⟩, ?_⟩
      · intro v H4 d e' l4 r7 pv4
        refine ⟨v, (wipe σ [w]).zip e' ++ ([(some (V.ref Da), some (T.lst (vals (List.replicate cnt (.int 1)))))] ++ (M ++ L)), fun b => J (n + 1) (if b = true then cnt else cnt + 1) (e'.set w none), rfl, ?_, fun b jb => ⟨b, rfl, ?_⟩⟩
        · rcases pv4 with ⟨rfl, q⟩ | ⟨c, ns, ds, b, rfl, q1, q2⟩
          · exact .inl ⟨r7.non List.mem_cons_self rfl, q⟩
          · exact .inr ⟨c, ns, ds, b, r7, q1, q2⟩
        · have r8 := R.clr (vs := [w]) r7.pop l4
          rw [wipe_wipe] at r8
          have lz : (wipe σ [w]).length = (e'.set w none).length := by rw [List.length_set]; exact l4
          cases b with
          | true => exact ⟨cnt, _, jb, lz, R.mid (A := (wipe σ [w]).zip (clr e' [w])) (C := [_]) r8⟩
          | false =>
            have r9 : R G H4 ((some (V.ref Da), some (T.lst (vals (List.replicate cnt (.int 1))))) :: ((some (.int 1), some (.val (.int 1))) :: ((wipe σ [w]).zip (e'.set w none) ++ (M ++ L)))) :=
              R.mid (A := ((some (V.int 1), some (T.val (.int 1))) :: (wipe σ [w]).zip (clr e' [w]))) (C := [_]) (r8.pInt 1)
            obtain ⟨pp, xs, ep, hpp, hx⟩ := r9.list
            cases ep
            have r10 : R G (upd H4 Da (.lst (xs ++ [.int 1]))) ((some (.ref Da), some (.lst (vals (List.replicate cnt (.int 1)) ++ [.val (.int 1)]))) :: ((wipe σ [w]).zip (e'.set w none) ++ (M ++ L))) := by
              refine R.relist (L3 := []) r9 hpp ?_ (by simp [hx])
              have pr : prs (xs ++ [.int 1]) (vals (List.replicate cnt (.int 1)) ++ [.val (.int 1)]) = prs xs (vals (List.replicate cnt (.int 1))) ++ [(some (.int 1), some (.val (.int 1)))] := by
                unfold prs
                rw [List.zipWith_append hx]
                rfl
              rw [pr, List.append_assoc]
              exact .refl _
            have ev : vals (List.replicate cnt (.int 1)) ++ [.val (.int 1)] = vals (List.replicate (cnt + 1) (.int 1)) := by
              rw [List.replicate_succ']
              simp [vals]
            rw [ev] at r10
            have hxl : xs.length = cnt := by rw [hx, vals_len, List.length_replicate]
            exact ⟨xs, hpp, by rw [hxl]; exact Nat.lt_of_le_of_lt (Nat.le_trans s3 (Nat.le_trans hn2 hlim)) (by decide), cnt + 1, _, jb, lz, r10⟩
    · have en : n = js.length := by omega
      subst en
      refine .inl ⟨by simpa using g2, kk _ H2 _ e (by rw [← wipe_length σ [w]]; exact hle) ?_ (jend cnt e jn)⟩
      have r5 : R G H2 ((some (V.ref Da), some (T.lst (vals (List.replicate cnt (.int 1))))) :: (σ.zip e ++ (M ++ L))) := by
        refine R.mid (A := σ.zip e) (C := [_]) (R.unwipe' (σ' := wipe σ [w]) r4 (wipe_length _ _).symm fun j => ?_)
        by_cases hj : j = w
        · subst hj
          cases he : e[j]? with
          | none => exact .inr (.inl rfl)
          | some o =>
            refine .inl ?_
            have lj : j < e.length := (List.getElem?_eq_some_iff.mp he).1
            have z : (e.set j none)[j]? = some none := List.getElem?_set_self lj
            rw [s2, he] at z
            exact z
        · exact .inr (.inr (wipe_out (by simpa using hj)))
      exact R.cut (A := (some (V.ref Da), some (T.lst (vals (List.replicate cnt (.int 1))))) :: σ.zip e) (C := M) r5
/-! a, b of a list exchanged -/
theorem ixN_lt {n : Nat} {j : Int} {a : Nat} (h : ixN n j = some a) : a < n := by
  unfold ixN at h
  split at h
  · split at h
    · cases h; omega
    · cases h
  · split at h
    · cases h; omega
    · cases h
theorem R.putAt {H : Hp} {p : Addr} {xs : List V} {ts : List T} {u : V} {t : T} {n : Nat} {rest L : List Pr} (r : R G H ((some (.ref p), some (.lst ts)) :: (rest ++ ([(some u, some t)] ++ L)))) (hp : H p = some (.lst xs)) (hx : xs.length = ts.length) (hn : n < xs.length) :
    R G (upd H p (.lst (xs.set n u))) ((some (.ref p), some (.lst (ts.set n t))) :: (rest ++ L)) := by
  refine R.relist (L3 := [(xs[n]?, ts[n]?)]) r hp ?_ (by simp [hx])
  have key : ∀ (n : Nat) (xs : List V) (ts : List T), xs.length = ts.length → n < xs.length → (prs xs ts ++ [(some u, some t)]).Perm ((xs[n]?, ts[n]?) :: prs (xs.set n u) (ts.set n t)) := by
    intro n
    induction n with
    | zero =>
      intro xs ts e hn
      match xs, ts, e with
      | x :: xs, y :: ts, _ => exact List.Perm.cons (some x, some y) (List.perm_append_comm (l₁ := prs xs ts) (l₂ := [(some u, some t)]))
      | [], [], _ => simp at hn
    | succ n ih =>
      intro xs ts e hn
      match xs, ts, e with
      | x :: xs, y :: ts, e => exact ((ih xs ts (Nat.succ.inj e) (by simpa using hn)).cons (some x, some y)).trans (.swap ..)
      | [], [], _ => simp at hn
  have p1 : (prs xs ts ++ (rest ++ ([(some u, some t)] ++ L))).Perm ((prs xs ts ++ [(some u, some t)]) ++ (rest ++ L)) := by
    rw [List.append_assoc]
    refine List.Perm.append_left _ ?_
    rw [← List.append_assoc, ← List.append_assoc]
    exact List.perm_append_comm.append_right L
  exact p1.trans ((key n xs ts hx hn).append_right _)
theorem R.store1 {σ : L2.St} {env : Env'} {H : Hp} {i a : Nat} {v u : V} {t : T} {ts : List T} {L : List Pr} (r : R G H ((some u, some t) :: (σ.zip env ++ L))) (hv : σ[i]? = some (some v)) (he : env[i]? = some (some (.lst ts))) (ha : a < ts.length) :
    ∃ p xs, v = .ref p ∧ H p = some (.lst xs) ∧ xs.length = ts.length ∧ R G (upd H p (.lst (xs.set a u))) (σ.zip (env.set i (some (.lst (ts.set a t)))) ++ L) := by
  have r1 : R G H (σ.zip env ++ ([(some u, some t)] ++ L)) := R.mid (A := [_]) r
  obtain ⟨rest, r3, _, r4⟩ := r1.slot hv he
  obtain ⟨p, xs, ev, hp, hx⟩ := r3.list
  cases ev
  exact ⟨p, xs, rfl, hp, hx, r4 _ _ _ (R.putAt r3 hp hx (by omega))⟩
theorem ss_swapS {st : Stmt} {e k l : Expr} {i : Nat} {ie ik il : I} (hK : G.K = X.K) (he : SE X G e ie) (hk : SE X G k ik) (hl : SE X G l il)
    (h : ∀ te tk tl, PE X e te → PE X k tk → PE X l tl → PS X st (tAsg te (gTup X.K 2 (gCons (gSub (tVar i) tk rSetL) (gCons (gSub (tVar i) tl rSetL) gNil))))) : SS X G st (.swapS i ie ik il) := fun W tk =>
  PS_to (h _ _ _ (he W tk) (hk W tk) (hl W tk)) fun D σ H ⟨env, L, P, hlen, r, w, f⟩ => by
    refine ⟨env, L, _, P.ex, hlen, r, w, fun v0 H1 t e1 hl1 r1 w1 => ?_, f.exc⟩
    obtain ⟨y, x, rfl, ⟨ts0, h0⟩, w2⟩ := w1
    obtain ⟨pt, xs0, rfl, q1, l1, z1⟩ := r1.tupV List.mem_cons_self rfl
    obtain ⟨vy, vx, rfl⟩ : ∃ vy vx, xs0 = [vy, vx] := by
      match xs0, l1 with
      | [a, b], _ => exact ⟨a, b, rfl⟩
    refine ⟨pt, [vy, vx], rfl, sqt_of hK q1, rfl, vy, [vx], rfl, ?_⟩
    have r2 : R G H1 ([(some vy, some (T.val y)), (some vx, some (T.val x))] ++ ((some (V.ref pt), some (T.val (.tup [y, x]))) :: (σ.zip e1 ++ L))) := R.pushLB (ds := [y, x]) z1
    have r3 : R G H1 (σ.zip e1 ++ ([(some vy, some (T.val y)), (some vx, some (T.val x))] ++ L)) := R.mid (A := [_, _]) (R.cut (A := [_, _]) (C := [(some (V.ref pt), some (T.val (.tup [y, x])))]) r2)
    obtain ⟨v, hv, _⟩ := r3.slotV hl1 h0
    refine ⟨v, hv, e1, _, _, P.ex, hl1, r3, w2, fun u2 H2 t2 e2 hl2 r4 w3 => ?_, f.exc.more⟩
    obtain ⟨j, ts, a, rfl, h2, ha, w4⟩ := w3
    have eu := r4.int List.mem_cons_self rfl
    subst eu
    have r5 : R G H2 ((some vy, some (T.val y)) :: (σ.zip e2 ++ ([(some vx, some (T.val x))] ++ L))) := R.mid (A := σ.zip e2) (C := [_]) r4.pop
    obtain ⟨p, xs, rfl, hp, hx, r6⟩ := r5.store1 hv h2 (ixN_lt ha)
    refine ⟨p, xs, j, a, rfl, rfl, hp, by rw [hx]; exact ha, vx, [], rfl, .ref p, hv, e2.set i (some (.lst (ts.set a (.val y)))), _, _, P.ex, by rw [List.length_set]; exact hl2, r6, w4, fun u3 H3 t3 e3 hl3 r7 w5 => ?_, f.exc.more⟩
    obtain ⟨m, us, b, rfl, h3, hb, w6⟩ := w5
    have eu := r7.int List.mem_cons_self rfl
    subst eu
    have r8 : R G H3 ((some vx, some (T.val x)) :: (σ.zip e3 ++ L)) := R.mid (A := σ.zip e3) (C := [_]) r7.pop
    obtain ⟨p3, xs3, e3', hp3, hx3, r9⟩ := r8.store1 hv h3 (ixN_lt hb)
    cases e3'
    exact ⟨p, xs3, m, b, rfl, rfl, hp3, by rw [hx3]; exact hb, rfl, f.nx σ _ _ Keep.refl (by rw [List.length_set]; exact hl3) r9 w6⟩
end
end FW
set_option Elab.async false
set_option linter.all false
set_option maxRecDepth 100000
set_option maxHeartbeats 4000000
namespace FW
open PySem PySem.Spec PyProof.Rows L2 NdefX
/-! ## own exceptions whose __init__ says super().__init__(a text) and keeps one thing -/
def iniBody (sn an at_ m : Str) (j : Nat) (p : Nat → Pos) : List Stmt :=
  [.Expr (.Call (.Attribute (.Call (.Name "super" (p 0)) [] [] (p 1)) "__init__" (p 2)) [.Constant (.str m) j (p 3)] [] (p 4)) (p 5), .Assign [.Attribute (.Name sn (p 6)) at_ (p 7)] (.Name an (p 8)) (p 9)]
theorem he_super (env : Env) (p0 p1 p2 p3 p4 : Pos) (m : Str) (j : Nat) (hl : (p2.endLine == p4.line) = true) : eval (.Call (.Attribute (.Call (.Name "super" p0) [] [] p1) "__init__" p2) [.Constant (.str m) j p3] [] p4) env = (do
      let ov ← attributeBase (.Call (.Name "super" p0) [] [] p1) "__init__" env (eval (.Call (.Name "super" p0) [] [] p1) env)
      standAt p2.atName
      let (f, first) ← holding [ov] (getMethod ov "__init__" (do return (← importBound (.Call (.Name "super" p0) [] [] p1) env).getD true))
      callWith p4 f first (backTo p4 (starEach [.Constant (.str m) j p3] env)) []) := by
  rw [arm_eval_Call]
  have hf : methodCallForm ([Expr.Constant (.str m) j p3].length + ([] : List Keyword).length) (backTo p4 (starEach [.Constant (.str m) j p3] env)) (backToKw p4 (keywordEach [] env)) = true := by rfl
  have hp : methodCallPos true (.Call (.Name "super" p0) [] [] p1) env p2 p4 = pure p4 := by
    unfold methodCallPos; simp [hl]
  unfold methodCall
  rw [hf, hp]
  simp only [calleeOf, if_true, pure_bind]
  rfl
theorem ve_init {prog : Program} {w : World} {A : Around} {R : Result → Shared → Prop} {h : Heap} {g : Array GenState} {d : Drawn} {t : Nat} {os : OsState} {e C t0 : Addr} {x : Value} (he : h.get? e = some (PySem.HandSPX.excO C t0))
    (hq : ∀ h' t1, (∀ b o, b ≠ e → h.get? b = some o → h'.get? b = some o) → h'.get? e = some (PySem.HandSPX.excO C t1) → R (.ok (.ret .none)) ⟨h', g, d, t, os⟩) : codeAny (model prog w) A (.builtin "ValueError.__init__" ⟨[.ref e, x], []⟩) R ⟨h, g, d, t, os⟩ := by
  refine PySem.codeAny_builtin F.excBase_ValueError.initEntry ?_
  rw [PySem.Around.under_plainId F.excBase_ValueError.init.plain _]
  have hz : [x].length ≤ sizeLine := by show 1 ≤ sizeLine; rw [sizeLine_eq]; decide
  wp_walk
  refine hq _ h.objs.size (fun b o hb ho => ?_) ?_
  · rw [Heap.get?_update_other _ _ (Ne.symm hb)]
    exact Heap.get?_push_of_some _ ho
  · rw [Heap.get?_update_self _ (Heap.get?_push_of_some _ he) rfl]
    rfl
/-- what it does: the thing is kept -/
def spIni (K : PySem.W.Frag) (C : Addr) (at_ : Str) : Sp := fun vs H Q _ => ∃ (a : Addr) (v : V), vs = [.ref a, v] ∧ H a = some (exo a C none) ∧ ∀ dx, H dx = none → dx ≠ a → Q .non (upd (upd H dx (exd dx [(at_, v)])) a (exo a C (some dx)))
/-- what is known of the class -/
structure IniC (fl : Str) (K : PySem.W.Frag) (C fI : Addr) (at_ : Str) : Prop where
  T : OexC K C
  init : PySem.W.findIn K (.ref C) "__init__" = some (some (.ref fI))
  ty : PySem.W.typeIn K (.ref fI) = some (.type "function")
  no : PySem.W.findIn K (.ref C) at_ = some none
  sup : PySem.W.ks_superIn K C C "__init__" = some (some (.builtin "ValueError.__init__"))
  ve : PySem.W.subIn K (.ref C) (.type "ValueError") = some true
  self : PySem.W.mroIn K C (.ref C) = some true
  any : PySem.W.nsIn K cStatics "thirdparty.any" = some none
  ns : PySem.W.nsIn K mainGlobals "super" = some none
  fn : ∃ (sn an m qual : Str) (j : Nat) (p : Nat → Pos) (params : Arguments) (scope : Scope) (cc cda : Addr) (oc dV kV doc pm ct ccl cl : Value) (an2 od cdd cld : Option Addr) (osl ccs csl : Array (Option Value)) (vs : Array Value) (file : Str) (tf : PySem.Tok) (ar : Arg),
    K.lookup fI = some ⟨oc, od, .func (PySem.W.fnX "__init__" qual params (iniBody sn an at_ m j p) scope [("__class__", cc)] .none kV doc pm an2 (.ref cda) ct), osl⟩ ∧ PySem.W.codeIn K (.ref cda) qual = true ∧ NScope [sn, an, "__class__"] [sn, an] ["__class__"] scope ∧
    scope.names.lookup ("super" : Str) = some .globalImplicit ∧ (params.posonlyargs ++ params.args).head? = some ar ∧ ar.arg = sn ∧ K.lookup cda = some ⟨ccl, cdd, .fields vs, ccs⟩ ∧ vs[2]? = some (.str file tf) ∧ (fl == file) = true ∧ K.lookup cc = some ⟨cl, cld, .cell (some (.ref C)), csl⟩ ∧
    (∀ (kV doc pm : Value) (an2 : Option Addr) (cdv ct : Value) (us : List Value), us.length = 2 → bindArgs (PySem.W.fnX "__init__" qual params (iniBody sn an at_ m j p) scope [("__class__", cc)] .none kV doc pm an2 cdv ct) ⟨us, []⟩ = pure ([sn, an].zip us)) ∧
    (∀ (kV doc pm : Value) (an2 : Option Addr) (cdv ct u0 u1 : Value), bindArgs (PySem.W.fnX "__init__" qual params (iniBody sn an at_ m j p) scope [("__class__", cc)] .none kV doc pm an2 cdv ct) ⟨[u0], [(at_, u1)]⟩ = pure ([sn, an].zip [u0, u1])) ∧
    ((p 2).endLine == (p 4).line) = true ∧ ((sn == ("__debug__" : Str)) = false ∧ (sn == ("__classdict__" : Str)) = false) ∧ ((an == ("__debug__" : Str)) = false ∧ (an == ("__classdict__" : Str)) = false)
theorem ini_ok {P : Program} {w : World} {K : PySem.W.Frag} {mg : Str → Option Value} {base : Heap} {C fI : Addr} {at_ fl : Str} (hfl : (P.main.file : Str) = fl) (htop : (P.main.scope.names.lookup ("super" : Str)).isSome = false) (c : IniC fl K C fI at_) : ∃ fd ps, FnOk P w K mg base CX0 1 fI fd ps (spIni K C at_) ∧ Binds K fd ps [] ∧ ∀ (s : Shared) (u0 u1 : Value), BindsTo s fd ⟨[u0], [(at_, u1)]⟩ (ps.zip [u0, u1]) := by
  subst hfl
  obtain ⟨sn, an, m, qual, j, p, params, scope, cc, cda, oc, dV, kV, doc, pm, ct, ccl, cl, an2, od, cdd, cld, osl, ccs, csl, vs, file, tf, ar, lk, hcd, S, hks, hp, har, hcode, hvs, hfile, hcell, hbind, hkw, hline, d1, d2⟩ := c.fn
  refine ⟨PySem.W.fnX "__init__" qual params (iniBody sn an at_ m j p) scope [("__class__", cc)] .none kV doc pm an2 (.ref cda) ct, [sn, an], ⟨fun vs H Q E ⟨a, v, e, _⟩ => by rw [e]; rfl, fun A outer s H args us vs0 Q E hr e0 hb r hsp => ?_⟩, fun s us _ hl => ?_, fun s u0 u1 => BindsTo.of_eq (hkw _ _ _ _ _ _ u0 u1)⟩
  · obtain ⟨a, v, rfl, hC0, hq⟩ := hsp
    have KX : K.In s.heap := e0.mod.kin.keeps fun b o e => (e0.bs b o e).1
    have lim : s.heap.NoLimit := e0.mod.nolimit.keeps fun b o e => (e0.bs b o e).1
    let FF : NF := ⟨"__init__", qual, params, iniBody sn an at_ m j p, scope, [("__class__", cc)], cda⟩
    have hcc : s.heap.get? cc = some ⟨cl, cld, .cell (some (.ref C)), csl⟩ := KX _ _ hcell
    have lk1 : ∀ (y : Str) (c : Addr), [(("__class__" : Str), cc)].lookup y = some c → y = "__class__" ∧ c = cc := fun y c h => by
      have hm := PySem.mem_of_lookup h
      simp at hm
      exact hm
    have bcc := e0.bs cc _ (e0.mod.kin _ _ hcell)
    have CA : CellsAt FF.cl ["__class__"] [none] s.heap H := by
      refine ⟨rfl, fun y c h => ?_, fun x y c h1 h2 => ?_, fun i y h => ?_⟩
      · obtain ⟨_, rfl⟩ := lk1 y c h
        exact ⟨bcc.2, some (.ref C), _, hcc, rfl⟩
      · rw [(lk1 x c h1).1, (lk1 y c h2).1]
      · match i, h with
        | 0, h =>
          simp at h
          subst h
          exact ⟨cc, rfl, fun v z => by simp at z⟩
        | i + 1, h => simp at h
    refine PySem.ks_codeAny_call_defAt hr.depth (KX _ _ lk) rfl lim (PySem.W.codeRec_of KX hcd) rfl hb S.nocell (fun x hx => S.par x.1 (List.of_mem_zip hx).1) (fun h₁ hns kp => ?_) S.co S.gen S.kind
    have I : Inv (ncx CX0 P w K mg base [sn, an, "__class__"] FF fI A outer s H E) [] (startF [sn, an, "__class__"] [.ref a, v] [none]) H { s with heap := h₁, toks := s.toks + ([sn, an].zip us).length } := inv_startN S hr.hd e0 rfl r CA hns kp
    cases r with
    | @cons _ ua _ ur ra rw' =>
    cases rw' with
    | @cons _ uv _ ur2 rv rn =>
    cases rn
    obtain rfl : ua = Value.ref a := ra
    obtain ⟨hp1, g1, dr1, tk1, os1⟩ := s
    have KX1 : K.In h₁ := fun b o e => kp _ _ (KX b o e)
    obtain ⟨t1, hea⟩ := exo_at I.hok hC0
    have kindSup : (envF FF fI (Heap.objs hp1).size).kindOf "super" = some .globalImplicit := hks
    have KF := PySem.W.kxs_ValueError
    obtain ⟨nm, q, N, bs, bm, sn2, sub, ab, col, dd, k0, k1, k2, k3, k5, hC, hbm⟩ := c.T.cls
    have hcl : PySem.W.clsIn K C = some { name := nm, bases := bs, mro := .ref C :: bm, ns := N, qualname := q, hasDict := true, slotNames := sn2, subclasses := sub, abstract := ab, collection := col, hasDel := false } := by unfold PySem.W.clsIn; rw [hC] <;> rfl
    obtain ⟨mb, hnb, hbb⟩ := e0.mod.blt
    have up : ∀ b o, base.get? b = some o → h₁.get? b = some o := fun b o e => kp _ _ (e0.bs b o e).1
    have mgS : mg "super" = none := PySem.W.mg_none_of e0.mod.kin e0.mod.glob c.ns
    refine PySem.ks_wpAt_execs_cons (PySem.ks_wpAt_Expr_any (PySem.ks_wpAt_MethodCall (he := he_super _ _ _ _ _ _ _ _ hline) (PySem.ks_wpAt_super_base (f := fI) (cc := cda) (ar := ar) (vs := vs) (file := file) (tf := tf) hks (S.frk _ List.mem_cons_self) rfl rfl (KX1 _ _ lk) rfl hp rfl (KX1 _ _ hcode) rfl hvs hfile htop ?_)) (hi := I.quiet))
    refine PySem.W.ks_loadName_global S.kind hks (PySem.Calls.loadGlobal_builtin (e0.mod.glob.keeps up) mgS (hnb.keeps up) ((hbb _ (by decide)).trans (show bootBuiltins "super" = some (.type "super") by decide +kernel)) ⟨rfl, ?_⟩)
    refine wpAny_loadName_free S.kind (S.frk _ List.mem_cons_self) (c := cc) rfl ⟨_, kp _ _ hcc, rfl⟩ ?_
    have hne : sn ≠ an := fun e => by
      have := S.nd
      rw [e] at this
      simp at this
    refine wpAny_loadName_local S.kind (S.par ar.arg (by rw [har]; exact List.mem_cons_self)) hns (v := .ref a) ?_ ?_
    · show List.lookup ar.arg ([sn, an].zip [Value.ref a, uv]).reverse = _
      rw [har]
      show List.lookup sn [(an, uv), (sn, Value.ref a)] = _
      have hb2 : (sn == an) = false := beq_eq_false_iff_ne.mpr hne
      simp [List.lookup, hb2]
    have hCh : h₁.get? C = some (excClassObj nm q C N bs bm true sn2 sub ab col dd k0 k1 k2 k3 k5 "ValueError.__new__") := KX1 _ _ hC
    refine PySem.ks_wpAny_isType_cls hCh rfl ⟨rfl, ?_⟩
    refine PySem.ks_wpAny_call_super hCh rfl hea rfl (fun c z => by cases z) (PySem.W.looks_mroIn KX1 c.self) (fun h2 e2 k2 => ?_)
    have KX2 : K.In h2 := fun b o e => k2 _ _ (KX1 b o e)
    have IA : PySem.W.InstAt h2 a { cls := .ref C, data := .fields #[.ref t1, .none, .none, .none, .bool false, .none] } C none := ⟨k2 _ _ hea, rfl, rfl, trivial⟩
    have hsup : PySem.W.alongIn K "__init__" (((Value.ref C :: bm).dropWhile (· != .ref C)).drop 1) = some (some (.builtin "ValueError.__init__")) := by
      have := c.sup
      unfold PySem.W.ks_superIn at this
      rw [hcl] at this
      exact this
    refine PySem.W.kxs_getMethod KF e2 (PySem.W.looks_opaque KX2 c.any) (l₀ := Value.ref C :: bm) (fun A Q E s k q => wpAny_bind ((PySem.W.looks_clsIn KX2 hcl) A _ E s k (wpAny_pure q))) rfl KX2 hsup (IA.type.andThen (PySem.W.looks_subIn KX2 c.ve)) (PySem.W.ks_ne KX2 IA hcl) (by decide) ?_
    refine PySem.W.kxs_callWith (i := "ValueError.__init__") (x := a) rfl (PySem.Calls.evalArgs_plain (PySem.Calls.spliced_cons (wpAny_Constant_str (k := j) (pos := p 3) (PySem.Calls.spliced_nil ⟨?_, ?_⟩))))
    · exact Heap.get?_push_at rfl rfl
    have up3 : ∀ b o, h₁.get? b = some o → (h2.push (PySem.W.kxs_mw "ValueError.__init__" a)).get? b = some o := fun b o e => Heap.get?_push_of_some _ (k2 _ _ e)
    have hu : (h2.push (PySem.W.kxs_mw "ValueError.__init__" a)).get? h2.objs.size = some (PySem.W.kxs_mw "ValueError.__init__" a) := Heap.get?_push_at rfl rfl
    refine wpAny_call (codeAny_of_tree ?_)
    show wpAny _ _ (callAny (.ref h2.objs.size) ⟨_, []⟩) _ _ _
    simp only [callAny]
    refine wpAny_bind (wpAny_load hu ?_)
    simp only [PySem.W.kxs_mw, show (Value.type "method-wrapper" == Value.type "method" || Value.type "method-wrapper" == Value.type "builtin_function_or_method" || Value.type "method-wrapper" == Value.type "method-wrapper") = true by decide, if_true]
    refine PySem.W.KFB.if_so (by decide) ?_
    refine wpAny_bind (PySem.W.check_bound_init F.excBase_ValueError.toExcCallFacts (up3 _ _ hCh) (up3 _ _ hea) rfl ?_)
    refine wpAny_bind (wpAny_pure (wpAny_pure ?_))
    refine ⟨PySem.plainId_quiet F.excBase_ValueError.init.plain _, ?_⟩
    refine ve_init (C := C) (t0 := t1) (up3 _ _ hea) (fun h4 t4 k4 e4 => ?_)
    refine PySem.wpAt_of_wpAny ?_
    have I3 := I.kept (h' := h2.push (PySem.W.kxs_mw "ValueError.__init__" a)) (t' := 0) up3
    have I4 := I3.write (t' := 0) (h' := h4) (x := a) (e := a) (o := exo a C none) (by rw [hC0]; exact True.intro) (.inl rfl) k4 ⟨_, e4⟩ (exo_ok e4)
    have eu : upd H a (exo a C none) = H := by
      funext b
      by_cases hb2 : b = a
      · rw [hb2, upd_same, hC0]
      · rw [upd_ne hb2]
    rw [eu] at I4
    have pS : PSs (ncx CX0 P w K mg base [sn, an, "__class__"] FF fI A outer ⟨hp1, g1, dr1, tk1, os1⟩ H E) [.Assign [.Attribute (.Name sn (p 6)) at_ (p 7)] (.Name an (p 8)) (p 9)] (tOst K at_ (tVar 0) (tVar 1)) :=
      pss_one (ps_ost (pe_var rfl (.inl (S.par sn List.mem_cons_self)) d1.1 d1.2) (pe_var (i := 1) rfl (.inl (S.par an (List.mem_cons_of_mem _ List.mem_cons_self))) d2.1 d2.2))
    refine wpAny_mono (pS.run [] _ (startF [sn, an, "__class__"] [.ref a, v] [none]) H { nx := fun _ H' => Q .non H', rt := Q, bk := fun _ _ => False, ct := fun _ _ => False } (I4.tok _) ⟨v, rfl, .ref a, rfl, a, C, rfl, c.T, c.no, .inl ⟨hC0, fun dx n ne => hq dx n ne⟩⟩) (fun fl s' hs => ?_) (fun e s' hs => hs)
    cases fl with
    | ret u =>
      obtain ⟨v', σ', H', J, rv', q'⟩ := hs
      exact ⟨v', H', J.os, J.bare, J.base, J.hok, rv', q'⟩
    | next =>
      obtain ⟨σ', H', J, q'⟩ := hs
      exact ⟨V.non, H', J.os, J.bare, J.base, J.hok, rfl, q'⟩
    | brk =>
      obtain ⟨_, _, _, z⟩ := hs
      exact z.elim
    | cont =>
      obtain ⟨_, _, _, z⟩ := hs
      exact z.elim
  · rw [List.append_nil] at hl ⊢
    exact BindsTo.of_eq (hbind _ _ _ _ _ _ us hl)
/-! ### looked by a program -/
theorem oexB_ok {K : PySem.W.Frag} {C : Addr} (h : oexB K C = true) : OexC K C := by
  unfold oexB at h
  simp only [Bool.and_eq_true, decide_eq_true_eq] at h
  obtain ⟨⟨⟨⟨h1, h2⟩, h3⟩, h4⟩, h5⟩ := h
  refine ⟨?_, h2, h3, h4, h5⟩
  split at h1
  · rename_i dd cd sl ho
    split at h1
    · rename_i C' bm k0 k1 k2 k3 n k5 hm hs
      simp only [Bool.and_eq_true, decide_eq_true_eq, Bool.not_eq_true'] at h1
      obtain ⟨⟨⟨⟨e1, e2⟩, e3⟩, e4⟩, e5⟩ := h1
      obtain ⟨nm, bs, mro, ns, qn, hd, sn, sub, ab, col, del⟩ := cd
      dsimp only at hm e3 e4
      subst hm e1 e2 e3 e4
      have hsl : sl = #[k0, k1, k2, k3, some (.builtin "ValueError.__new__"), k5] := by
        obtain ⟨l⟩ := sl
        simp only at hs
        rw [hs]
      subst hsl
      exact ⟨nm, qn, ns, bs, bm, sn, sub, ab, col, dd, k0, k1, k2, k3, k5, ho, e5⟩
    · cases h1
  · cases h1
theorem bind2 {sn an qual : Str} {a1 a2 : Arg} {body : List Stmt} {scope : Scope} {cc : Addr} (h1 : a1.arg = sn) (h2 : a2.arg = an) (h3 : sn = "self" ∧ (((an = "part" ∨ an = "at") ∨ an = "most") ∨ an = "name")) (kV doc pm : Value) (an2 : Option Addr) (cdv ct : Value) : ∀ (us : List Value), us.length = 2 → bindArgs (PySem.W.fnX "__init__" qual ⟨[], [a1, a2], none, [], [], none, []⟩ body scope [("__class__", cc)] .none kV doc pm an2 cdv ct) ⟨us, []⟩ = pure ([sn, an].zip us) := fun us hl => by
  obtain ⟨n1, x1, y1⟩ := a1
  obtain ⟨n2, x2, y2⟩ := a2
  dsimp only at h1 h2
  obtain ⟨rfl, h4⟩ := h3
  subst h1 h2
  match us, hl with
  | [u1, u2], _ => rcases h4 with ((rfl | rfl) | rfl) | rfl <;> rfl
theorem bind2k {sn an qual : Str} {a1 a2 : Arg} {body : List Stmt} {scope : Scope} {cc : Addr} (h1 : a1.arg = sn) (h2 : a2.arg = an) (h3 : sn = "self" ∧ (((an = "part" ∨ an = "at") ∨ an = "most") ∨ an = "name")) (kV doc pm : Value) (an2 : Option Addr) (cdv ct u1 u2 : Value) : bindArgs (PySem.W.fnX "__init__" qual ⟨[], [a1, a2], none, [], [], none, []⟩ body scope [("__class__", cc)] .none kV doc pm an2 cdv ct) ⟨[u1], [(an, u2)]⟩ = pure ([sn, an].zip [u1, u2]) := by
  obtain ⟨n1, x1, y1⟩ := a1
  obtain ⟨n2, x2, y2⟩ := a2
  dsimp only at h1 h2
  obtain ⟨rfl, h4⟩ := h3
  subst h1 h2
  rcases h4 with ((rfl | rfl) | rfl) | rfl <;> rfl
theorem iniF_ok {fl : Str} {K : PySem.W.Frag} {C fI : Addr} {at_ : Str} (h : iniF fl K C fI at_ = true) : ∃ (sn an m qual : Str) (j : Nat) (p : Nat → Pos) (params : Arguments) (scope : Scope) (cc cda : Addr) (oc dV kV doc pm ct ccl cl : Value) (an2 od cdd cld : Option Addr) (osl ccs csl : Array (Option Value)) (vs : Array Value) (file : Str) (tf : PySem.Tok) (ar : Arg),
    K.lookup fI = some ⟨oc, od, .func (PySem.W.fnX "__init__" qual params (iniBody sn an at_ m j p) scope [("__class__", cc)] .none kV doc pm an2 (.ref cda) ct), osl⟩ ∧ PySem.W.codeIn K (.ref cda) qual = true ∧ NScope [sn, an, "__class__"] [sn, an] ["__class__"] scope ∧
    scope.names.lookup ("super" : Str) = some .globalImplicit ∧ (params.posonlyargs ++ params.args).head? = some ar ∧ ar.arg = sn ∧ K.lookup cda = some ⟨ccl, cdd, .fields vs, ccs⟩ ∧ vs[2]? = some (.str file tf) ∧ (fl == file) = true ∧ K.lookup cc = some ⟨cl, cld, .cell (some (.ref C)), csl⟩ ∧
    (∀ (kV doc pm : Value) (an2 : Option Addr) (cdv ct : Value) (us : List Value), us.length = 2 → bindArgs (PySem.W.fnX "__init__" qual params (iniBody sn an at_ m j p) scope [("__class__", cc)] .none kV doc pm an2 cdv ct) ⟨us, []⟩ = pure ([sn, an].zip us)) ∧
    (∀ (kV doc pm : Value) (an2 : Option Addr) (cdv ct u0 u1 : Value), bindArgs (PySem.W.fnX "__init__" qual params (iniBody sn an at_ m j p) scope [("__class__", cc)] .none kV doc pm an2 cdv ct) ⟨[u0], [(at_, u1)]⟩ = pure ([sn, an].zip [u0, u1])) ∧
    ((p 2).endLine == (p 4).line) = true ∧ ((sn == ("__debug__" : Str)) = false ∧ (sn == ("__classdict__" : Str)) = false) ∧ ((an == ("__debug__" : Str)) = false ∧ (an == ("__classdict__" : Str)) = false) := by
  unfold iniF at h
  split at h
  · rename_i oc od fd osl lk
    split at h
    · rename_i su p0 p1 ini p2 m j p3 p4 p5 sn p6 at2 p7 an p8 p9 cn cc cda a1 a2 hb hcl hco hpa
      simp only [Bool.and_eq_true, Bool.or_eq_true, decide_eq_true_eq, Bool.not_eq_true'] at h
      obtain ⟨⟨⟨⟨⟨⟨⟨⟨⟨⟨⟨⟨⟨⟨⟨⟨⟨⟨⟨⟨c1, c2⟩, c3⟩, c4⟩, c5⟩, cz⟩, c6⟩, c7⟩, c8⟩, c9⟩, c10⟩, c11⟩, c12⟩, c13⟩, c14⟩, c15⟩, c16⟩, c17⟩, c18⟩, c19⟩, c20⟩ := h
      split at c19
      · rename_i cl cld C' csl lcc
        simp only [decide_eq_true_eq] at c19
        split at c20
        · rename_i ccl cdd vs ccs lcd
          split at c20
          · rename_i file tf hvs
            obtain ⟨name, qual, params, body, scope, glob, clo, dV, kV, doc, pm, an2, code, ct, blt⟩ := fd
            dsimp only at *
            obtain ⟨c3, c3b⟩ := c3
            subst hb hcl hco hpa c1 c2 c3 c6 c7 c8 c9 c10 c19
            exact ⟨sn, an, m, qual, j, fun n => [p0, p1, p2, p3, p4, p5, p6, p7, p8, p9].getD n p0, _, scope, cc, cda, oc, .none, kV, doc, pm, ct, ccl, cl, an2, od, cdd, cld, osl, ccs, csl, vs, file, tf, a1, lk, c11, nscope_by c12, c13, rfl, c4, lcd, hvs, c20, lcc,
              fun kV doc pm an2 cdv ct us hl => bind2 c4 c5 cz kV doc pm an2 cdv ct us hl, fun kV doc pm an2 cdv ct u0 u1 => by rw [← c3b]; exact bind2k c4 c5 cz kV doc pm an2 cdv ct u0 u1, c14, ⟨c15, c16⟩, c17, c18⟩
          · cases c20
        · cases c20
      · cases c19
    · cases h
  · cases h
theorem iniB_ok {fl : Str} {K : PySem.W.Frag} {C : Addr} {at_ : Str} (h : iniB fl K C at_ = true) : IniC fl K C (iniA K C) at_ := by
  unfold iniB at h
  simp only [Bool.and_eq_true, decide_eq_true_eq, Bool.not_eq_true'] at h
  obtain ⟨⟨⟨⟨⟨⟨⟨⟨⟨c1, c2⟩, c3⟩, c4⟩, c5⟩, c6⟩, c7⟩, c8⟩, c9⟩, c11⟩ := h
  exact ⟨oexB_ok c1, c2, c3, c4, c5, c6, c7, c8, c9, iniF_ok c11⟩
/-! ### raise C(e); e.f -/
section
variable {G : GC} {X : Cx}
theorem R.newXd {H : Hp} {L : List Pr} {at_ : Str} {v : V} {d : D} {dx : Addr} (h : R G H ((some v, some (.val d)) :: L)) (hd : H dx = none) : R G (upd H dx (.xd [(at_, v)])) ((some (.ref dx), some (.xdc [at_] [d])) :: L) := by
  obtain ⟨B, fp, s, w, n, u, tb⟩ := h
  cases w with
  | @cons _ _ _ f g x w =>
    cases x with
    | val sh =>
      have bd : B dx = none := by
        cases q : B dx with
        | none => rfl
        | some o => have := s dx o q; rw [hd] at this; cases this
      have nf : ∀ b ∈ g, b ≠ dx := fun b hb z => w.there b hb (z ▸ hd)
      refine ⟨B, [dx] ++ g, fun b o q => ?_, .cons (.xdc (xs := [v]) upd_same rfl (.cons sh .nil)) (w.mono (Same.refl B) fun b hb => upd_ne (nf b hb)), ?_, fun b hb => ?_, (tb.new hd).ok, tb.nt⟩
      · rw [upd_ne (fun z => by rw [z, bd] at q; cases q)]; exact s b o q
      · exact List.nodup_cons.mpr ⟨fun z => nf dx z rfl, n⟩
      · rcases List.mem_cons.mp hb with e | e
        · rw [e]; exact bd
        · exact u b (by simpa using e)
theorem ss_raiseI {fl c at_ : Str} {C fI : Addr} {e1 : Expr} {ie : I} {p pos pos' : Pos} (hfl : (X.prog.main.file : Str) = fl) (htop : (X.prog.main.scope.names.lookup ("super" : Str)).isSome = false) (hmg : G.mg = X.mg) (hm : X.mg c = some (.ref C)) (ic : IniC fl X.K C fI at_) (hc : X.calm = true) (hr : Room 2 X.A) (hg : Gl X c)
    (hdb : (c == ("__debug__" : Str)) = false) (he : SE X G e1 ie) (hs : starEach [e1] X.env = (false, eval e1 X.env) :: starEach [] X.env) : SS X G (.Raise (some (.Call (.Name c p) [e1] [] pos)) none pos') (.raiseI c at_ ie) := fun W tk => by
  obtain ⟨fd, ps, F1, bnd, _⟩ := ini_ok (w := X.w) (mg := X.mg) (base := X.base) hfl htop ic
  refine PS_to (ps_raise hc tk (pmk_oex (k := 1) (dvs := []) ic.T ic.init ic.ty F1 hr bnd .nil pass0 hg hm (pa_cons (he W tk) pa_nil hs) hdb hs)) fun D σ H ⟨env, L, P, hl, r, w, f⟩ => ?_
  refine ⟨env, L, _, P.ex, hl, r, w, fun v H1 t e' hl1 r1 ⟨d, hd, hq⟩ => ⟨by simp, fun a ha => ⟨a, v, rfl, upd_same, fun dx n1 n2 => ⟨rfl, dx, [(at_, v)], upd_same, by rw [upd_ne n2, upd_same], ?_, ?_⟩⟩⟩, f.exc⟩
  · rw [upd_ne n2] at n1; exact n1
  · rw [upd_ne n2] at n1
    have eH : upd (del (upd (upd (upd H1 a (exo a C none)) dx (exd dx [(at_, v)])) a (exo a C (some dx))) a) dx (.xd [(at_, v)]) = upd H1 dx (.xd [(at_, v)]) := by
      funext b
      by_cases hb : b = dx
      · rw [hb, upd_same, upd_same]
      · rw [upd_ne hb, upd_ne hb]
        by_cases hb2 : b = a
        · rw [hb2, del_same, ha]
        · rw [del_ne hb2, upd_ne hb2, upd_ne hb, upd_ne hb2]
    rw [eH]
    exact f.ex (.exc c [at_] [d]) (.ref C) (some dx) σ _ e' Keep.refl hl1 ⟨c, [at_], [d], C, rfl, rfl, by rw [hmg]; exact hm, .inr ⟨dx, ⟨rfl, by simp⟩, R.newXd (r1.frz hd) n1⟩⟩ hq
theorem snd_attrX {e : Expr} {n : Str} {pos : Pos} {cs : List (Str × Str)} {ie : I} (hmg : G.mg = X.mg) (hcs : ∀ q ∈ cs, ∃ C, X.mg q.1 = some (.ref C) ∧ XfC X.K C ∧ PySem.W.findIn X.K (.ref C) q.2 = some none) (he : SE X G e ie) (hb : attributeBase e n X.env (eval e X.env) = eval e X.env) : SE X G (.Attribute e n pos) (.attrX cs ie n) := fun W tk => by
  refine ⟨fun pins s σ H Q I h => ?_⟩
  obtain ⟨env, L, Pn, Pe, hl, r, w, k, x⟩ := h
  refine attr_of hb (thn ((he W tk).run pins s σ H (fun v H1 => ∃ (c : Str) (d : D) (e1 : Env'), σ.length = e1.length ∧ R G H1 ((some v, some (.val (.exc c [n] [d]))) :: (σ.zip e1 ++ L)) ∧ (c, n) ∈ cs ∧ Pn (.val d) e1) I ⟨env, L, _, Pe, hl, r, w, fun v H1 t e1 hl1 r1 ⟨c, d, et, hm, hq⟩ => ⟨c, d, e1, hl1, et ▸ r1, hm, hq⟩, x⟩) fun u s1 ⟨v, H1, I1, rv, c, d, e1, hl1, r1, hm, hq⟩ => ?_)
  obtain ⟨C, q1, T, hno⟩ := hcs _ hm
  obtain ⟨B, fp, sB, wB, nB, uB, tB⟩ := r1
  cases wB with
  | @cons _ _ _ f g xx wB =>
  cases xx with
  | val sh =>
  cases sh with
  | @exc _ C2 a dop _ xs _ g1 g2 g3 g4 g5 =>
    have eC : C2 = C := by rw [hmg] at g1; have := g1.symm.trans q1; cases this; rfl
    subst eC
    cases g5 with
    | @cons v' _ _ _ sv g6 =>
    cases g6
    obtain rfl : u = Value.ref a := rv
    rcases g3 with z | ⟨dd, z4, z5⟩
    · cases z.1
    obtain ⟨⟨oe, z1, z2, vs, z3⟩, _, _⟩ := I1.hok a _ (sB _ _ g2)
    obtain ⟨mA, hns, hr⟩ := I1.hok dd _ (sB _ _ z5)
    obtain ⟨od, ho, hll⟩ := lookIn_ns hns
    obtain ⟨u2, hu, ru⟩ := RelO.some_of (v := v') (o := mA n) (by have := hr n; simpa [List.lookup] using this)
    have J : PySem.W.InstAt s1.heap a oe C2 (some od) := by
      refine ⟨z1, z2.1, by unfold PySem.W.notCls; rw [z3] <;> rfl, ?_⟩
      rw [z2.2, z4.1]; exact ho
    exact HandSPX.exc_get I1.kIn J T.ga T.gg T.exC (PySem.W.findObj_own T.hdC hno rfl (by rw [hll, hu])) (handed_of ru) ⟨v', H1, I1.tok _, ru, k v' H1 _ e1 hl1 ⟨B, _, sB, .cons (.val sv) wB, nB, uB, tB⟩ hq⟩
end
end FW
set_option Elab.async false
set_option linter.all false
set_option maxRecDepth 100000
set_option maxHeartbeats 4000000
namespace FW
open PySem PySem.Spec PyProof.Rows L2 HandSPX
/-! ## C(k = e), C an own exception class with an own __init__ -/
section
variable {prog : Program} {w : World} {A : Around} {E : Value → Shared → Prop} {R : Result → Shared → Prop} {h : Heap} {g : Array GenState} {d : Drawn} {t : Nat} {os : OsState}
variable {nm q : Str} {C N : Addr} {bs bm : List Value} {hdct : Bool} {sn : List Str} {sub : List Value} {ab : Bool} {col : Option Bool} {dd : Option Addr} {k0 k1 k2 k3 k5 : Option Value} {kn : Str} {kv : Value}
theorem kw_check {Q : Unit → Shared → Prop} (hT : ∀ T : String, bm.contains (.type T) = [Value.type "ValueError", .type "Exception", .type "BaseException", .type "object"].contains (.type T)) (hC : h.get? C = some (excClassObj nm q C N bs bm hdct sn sub ab col dd k0 k1 k2 k3 k5 "ValueError.__new__")) (hq : Q () ⟨h, g, d, t, os⟩) : wpAny (model prog w) A (checkBuiltinCall "ValueError.__new__" ⟨[.ref C], [(kn, kv)]⟩) Q E ⟨h, g, d, t, os⟩ := by
  have F := PySem.F.excBase_ValueError
  have hv : (Value.ref C :: bm).contains (.type "ValueError") = true := by rw [List.contains_cons, hT]; rfl
  have hs := F.noStar
  unfold checkBuiltinCall
  simp only [F.newKind, F.newSplit, F.newRow]
  repeat (first | with_reducible refine wpAny_loadPart_at hC ?_ | (with_reducible refine wpAny_isSubtype_exc hC ?_; rw [hv]) | with_reducible refine wpAny_staticBase_exc hC ?_ | with_reducible refine wpAny_madeBy_exc hC ?_ | simp only [bne_self_eq_false, Bool.false_eq_true, if_false] | wp_step)
  exact hq
theorem kw_new (hT : ∀ T : String, bm.contains (.type T) = [Value.type "ValueError", .type "Exception", .type "BaseException", .type "object"].contains (.type T)) (hC : h.get? C = some (excClassObj nm q C N bs bm hdct sn sub ab col dd k0 k1 k2 k3 k5 "ValueError.__new__"))
    (hq : R (.ok (.ret (.ref (h.objs.size + 1)))) ⟨(h.push (PySem.W.kdv_tup [])).push (PySem.HandSPX.excO C h.objs.size), g, d, t, os⟩) :
    codeAny (model prog w) A (.builtin "ValueError.__new__" ⟨[.ref C], [(kn, kv)]⟩) R ⟨h, g, d, t, os⟩ := by
  have F := PySem.F.excBase_ValueError
  have he := F.ends
  have v1 : (Value.ref C :: bm).contains (.type "ValueError") = true := by rw [List.contains_cons, hT]; rfl
  have v2 : (Value.ref C :: bm).contains (.type "AttributeError") = false := by rw [List.contains_cons, hT]; rfl
  have v3 : (Value.ref C :: bm).contains (.type "NameError") = false := by rw [List.contains_cons, hT]; rfl
  refine codeAny_builtinAt F.entry (by
    unfold Builtin.«BaseException.__new__»
    refine PySem.wpAt_bind ?_
    show PySem.wpAt _ _ _ (stack >>= _) _ _ _
    refine PySem.wpAt_bind (PySem.wpAt_stack fun p below => PySem.wpAt_of_wpAny ?_)
    wp_walk
    refine PySem.wpAt_of_wpAny ?_
    rw [F.owner]
    repeat (first | with_reducible refine wpAny_madeHere_exc F.canon hC ?_ | with_reducible refine wpAny_loadPart_at hC ?_ | (with_reducible refine wpAny_isSubtype_exc hC ?_; first | rw [v1] | rw [v2] | rw [v3]) | wp_step)
    show R _ _
    rw [Heap.size_push]
    exact hq)
theorem kw_type {fI : Addr} {Q : PySem.Fin → Shared → Prop} (hT : ∀ T : String, bm.contains (.type T) = [Value.type "ValueError", .type "Exception", .type "BaseException", .type "object"].contains (.type T))
    (hC : h.get? C = some (excClassObj nm q C N bs bm hdct sn sub ab col dd k0 k1 k2 k3 k5 "ValueError.__new__"))
    (hi : PySem.W.Looks (model prog w) h (typeLookup (.ref C) "__init__") (some (.ref fI))) (hb : ∀ self, PySem.W.Looks (model prog w) h (bindSpecial (.ref fI) self) (.ref fI, [self]))
    (hq : codeAny (model prog w) A (.call (.ref fI) ⟨[.ref (h.objs.size + 1)], [(kn, kv)]⟩)
      (fun r s' => match r with | .ok (.ret v) => v = .none ∧ Q (.done (.ret (.ref (h.objs.size + 1)))) s' | .ok _ => False | .error e => E e s')
      ⟨(h.push (PySem.W.kdv_tup [])).push (PySem.HandSPX.excO C h.objs.size), g, d, t, os⟩) :
    wpAny (model prog w) A (Builtin.«type.__call__» ⟨[.ref C], [(kn, kv)]⟩) Q E ⟨h, g, d, t, os⟩ := by
  have F := PySem.F.excBase_ValueError
  repeat (first | with_reducible refine wpAny_loadPart_at hC ?_ | with_reducible refine wpAny_madeBy_exc hC ?_ | wp_step)
  refine codeAny_call_builtin_code (Code.quiet_builtin _ F.quiet) (kw_check hT hC ?_)
  refine kw_new hT hC ?_
  show wpAny _ _ _ _ _ _
  have up : ∀ b o, h.get? b = some o → ((h.push (PySem.W.kdv_tup [])).push (PySem.HandSPX.excO C h.objs.size)).get? b = some o := fun b o e => Heap.get?_push_of_some _ (Heap.get?_push_of_some _ e)
  have hCC := up _ _ hC
  have hat : ((h.push (PySem.W.kdv_tup [])).push (PySem.HandSPX.excO C h.objs.size)).get? (h.objs.size + 1) = some (PySem.HandSPX.excO C h.objs.size) := by heap_get
  have v4 : (Value.ref C :: bm).contains (.ref C) = true := by simp
  have j1 := hi.keeps up
  have j2 := (hb (.ref (h.objs.size + 1))).keeps up
  unfold isInstance
  repeat (first | with_reducible refine wpAny_loadPart_at hat ?_ | (with_reducible refine wpAny_isSubtype_exc hCC ?_; rw [v4]) | wp_step)
  show wpAny _ _ (typeLookup (.ref C) _) _ _ _
  refine j1.at (wpAny_holding (wpAny_bind (j2.at (wpAny_bind (wpAny_call (codeAny_mono hq fun r s' z => ?_))))))
  rcases r with e | (v | _ | _ | _) <;> first | exact z | exact z.elim | skip
  obtain ⟨rfl, z⟩ := z
  first
    | exact wpAny_pure (wpAny_pure z)
    | (wp_walk; exact z)
theorem kw_call {fI : Addr} (hT : ∀ T : String, bm.contains (.type T) = [Value.type "ValueError", .type "Exception", .type "BaseException", .type "object"].contains (.type T))
    (hC : h.get? C = some (excClassObj nm q C N bs bm hdct sn sub ab col dd k0 k1 k2 k3 k5 "ValueError.__new__"))
    (hi : PySem.W.Looks (model prog w) h (typeLookup (.ref C) "__init__") (some (.ref fI))) (hb : ∀ self, PySem.W.Looks (model prog w) h (bindSpecial (.ref fI) self) (.ref fI, [self]))
    (hq : codeAny (model prog w) (A.under (.builtin "type.__call__" ⟨[.ref C], [(kn, kv)]⟩)) (.call (.ref fI) ⟨[.ref (h.objs.size + 1)], [(kn, kv)]⟩) (PySem.W.InitBack (h.objs.size + 1) R)
      ⟨(h.push (PySem.W.kdv_tup [])).push (PySem.HandSPX.excO C h.objs.size), g, d, t, os⟩) :
    codeAny (model prog w) A (.call (.ref C) ⟨[], [(kn, kv)]⟩) R ⟨h, g, d, t, os⟩ := by
  have l1 := PySem.tc_lookup
  have l2 := PySem.tc_bind (.ref C)
  have ty : (⟨h, g, d, t, os⟩ : Shared).TypeIs (.ref C) "type" := ⟨_, hC, rfl⟩
  refine codeAny_of_tree ?_
  show wpAny _ _ (callAny (.ref C) _) _ _ _
  repeat (any_goals (first | assumption | with_reducible refine wpAny_loadPart_at hC ?_ | wp_step))
  refine ⟨rfl, codeAny_call_builtin_at (Code.quiet_builtin _ (by decide +kernel)) entry_typeCall ?_⟩
  refine wpAny_check_type_call_sub hC (kw_type hT hC hi hb (codeAny_mono hq fun r s' z => ?_))
  rcases r with e | (v | _ | _ | _) <;> exact z
end
section
variable {X : Cx} {G : GC}
/-- what makes an exception, as a value: it is tracked -/
theorem pe_of_mk {e : Expr} {t : L2.St → Hp → XK → Prop} (h : PMk X e t) : PE X e (fun σ H Q => t σ H fun cls d H' => ∀ a, H' a = none → Q (.ref a) (upd H' a (ExH cls d a))) := by
  refine ⟨fun pins s σ H Q I q => wpAny_mono (h pins s σ H _ I q) (fun u s1 hu => ?_) fun _ _ z => z⟩
  obtain ⟨a, oe, vs, sI, H', cls, d, rfl, J, k, hne, ha, hz, hd, h1, na, os, ag, r, q⟩ := hu
  have J2 := L2.Inv.laidN (t' := s1.toks) J k hne na (exH_ok (P := X.prog) (w := X.w) (H := upd H' a (ExH cls d a)) ha hz ⟨vs, hd⟩)
  exact ⟨.ref a, _, ⟨J2.ok, os.trans J2.os, ag, J2.base, J2.loc, J2.cell, J2.free, J2.freeC, J2.pin, J2.hok, J2.len⟩, rfl, q a na⟩
/-- C(k = e) -/
theorem pmk_kw {CX : CXT} {x kn : Str} {C fI : Addr} {k : Nat} {fd : FuncData} {ps : List Str} {sp : Sp} {kws : List Keyword} {tk : TA} {p pos : Pos} (T : OexC X.K C) (iC : PySem.W.findIn X.K (.ref C) "__init__" = some (some (.ref fI))) (tI : PySem.W.typeIn X.K (.ref fI) = some (.type "function"))
    (F1 : FnOk X.prog X.w X.K X.mg X.base CX k fI fd ps sp) (hb : ∀ (s : Shared) (u0 u1 : Value), BindsTo s fd ⟨[u0], [(kn, u1)]⟩ (ps.zip [u0, u1])) (hr : Room (k + 1) X.A) (hx : Passes CX X (fun _ _ _ => False)) (hg : Gl X x) (hm : X.mg x = some (.ref C)) (hkw : PK X kws tk) (hn : kws.map (·.arg) = [kn].map some)
    (hdb : (x == ("__debug__" : Str)) = false) : PMk X (.Call (.Name x p) [] kws pos) (fun σ H Q => tk σ H fun vs H1 => ∃ v, vs = [v] ∧ ∀ a, H1 a = none → sp [.ref a, v] (upd H1 a (exo a C none))
      (fun v' H2 => v' = .non ∧ ∃ (d : Addr) (fs : List (Str × V)), H2 a = some (exo a C (some d)) ∧ H2 d = some (exd d fs) ∧ H1 d = none ∧ Q (.ref C) (some d) (upd (del H2 a) d (.xd fs))) (fun _ _ _ => False)) := by
  intro pins s σ H Q I h
  obtain ⟨nm, q, N, bs, bm, sn, sub, ab, col, dd, k0, k1, k2, k3, k5, hC, hbm⟩ := T.cls
  obtain ⟨n1, n2, n3⟩ := kw_names (env := X.env) (pos := pos) hn
  refine wpAny_Call_Name_kw (ld_glob I hg hm ?_ hdb)
  refine PySem.W.callWith_KW0 (h₀ := X.base) I.ok.mod.kin T.kC n1 (thn (hkw.run pos pins s σ H _ I h) fun us s1 ⟨vs, H1, I1, rv, v, ev, q1⟩ => ⟨I1.kIn, ?_⟩) (by rw [n3]; rfl)
  subst ev
  obtain ⟨u, rfl, ru⟩ : ∃ u, us = [u] ∧ RelV v u := by
    cases rv with
    | cons a b => cases b; exact ⟨_, rfl, a⟩
  rw [n2]
  obtain ⟨hp, g, dr, tk, os⟩ := s1
  have big : hp.objs.size ≤ hp.objs.size + 1 := Nat.le_succ _
  have new : H1 (hp.objs.size + 1) = none := I1.hok.fresh big
  have hsp := q1 (hp.objs.size + 1) new
  have up : ∀ b o, hp.get? b = some o → ((hp.push (PySem.W.kdv_tup [])).push (PySem.HandSPX.excO C hp.objs.size)).get? b = some o := fun b o e => Heap.get?_push_of_some _ (Heap.get?_push_of_some _ e)
  have hat : ((hp.push (PySem.W.kdv_tup [])).push (PySem.HandSPX.excO C hp.objs.size)).get? (hp.objs.size + 1) = some (PySem.HandSPX.excO C hp.objs.size) := by heap_get
  have I2 := I1.laid (t' := tk) (a := hp.objs.size + 1) (o := exo (hp.objs.size + 1) C none) up big (exo_ok hat)
  refine wpAny_call (kw_call (fun T => PySem.HandSPX.refsVE_contains T bm hbm) (I1.kIn _ _ hC) (PySem.W.looks_findIn I1.kIn iC) (fun self => PySem.W.bind_fn I1.kIn self tI) ?_)
  refine codeAny_mono (F1.run _ X.stack _ _ ⟨[.ref (hp.objs.size + 1)], [(kn, u)]⟩ [.ref (hp.objs.size + 1), u] [.ref (hp.objs.size + 1), v] _ (fun _ _ _ => False) (hr.make C [] [(kn, u)]) (I2.env0.make C [] [(kn, u)]) (hb _ _ _) (.cons rfl (.cons ru .nil)) hsp) (fun r s' hq => ?_)
  cases r with
  | error er => exact hx pins σ _ _ er s' I2 hq
  | ok fl =>
    cases fl with
    | ret u =>
      obtain ⟨w, H2, os2, bare2, un2, hok2, rw', ew, d, fs, ea, ed, hd1, q2⟩ := hq
      subst ew
      obtain ⟨h2, g2, d2, t2, os'⟩ := s'
      exact ⟨rw', mk_end (raises_own T.exC T.tyC) I1 big up un2 hok2 os2 bare2 ea ed hd1 q2⟩
    | next => exact hq.elim
    | brk => exact hq.elim
    | cont => exact hq.elim
end
end FW
set_option Elab.async false
set_option linter.all false
set_option maxRecDepth 100000
set_option maxHeartbeats 4000000
namespace FW
open PySem PySem.Spec PyProof.Rows L2
section
variable {G : GC} {X : Cx}
theorem pyL_map : ∀ ds : List D, D.pyL ds = ds.map D.py
  | [] => rfl
  | d :: ds => by rw [D.pyL, pyL_map ds]; rfl
/-! ### in, not in: lists of data -/
theorem opR_isin (e : G.K = X.K) (hu : X.A.units + 65 < cLine) : OpR X (compareOp .In) (r2 G .isin) := by
  intro pins s σ H x y v u Q I rx ry h
  obtain ⟨L, tx, ty, dx, dy, P, r, mx, vx, my, vy, hs, k⟩ := h
  cases dy with
  | lst ds =>
    obtain ⟨⟨p1, p2⟩, hp⟩ := hs
    refine op_inD hu pins s σ H x y v u Q I rx ry ⟨dx.py, D.pyL ds, r.dp e mx vx p1, r.dp e my vy p2, shaped_of_pl p1, shaped_of_pl p2, ?_⟩
    rw [pyL_map, List.any_map]
    exact k _ _ _ (r.pBl _) hp
  | tup ds =>
    obtain ⟨⟨p1, p2⟩, hp⟩ := hs
    obtain ⟨as, r1⟩ := Dp.reads I _ x v (r.dp e mx vx p1) rx
    obtain ⟨bs, r2⟩ := Dp.reads I _ y u (r.dp e my vy p2) ry
    refine SeqAt.in_tuple_reads r2 r1 (SeqAt.canLay_of_shaped (shaped_of_pl p2)) (SeqAt.canLay_of_shaped (shaped_of_pl p1)) (room_in_shaped (shaped_of_pl p1) hu) ?_
    rw [pyL_map, List.any_map]
    exact ⟨.bl _, H, I, rfl, k _ _ _ (r.pBl _) hp⟩
  | _ => exact hs.elim
theorem opR_notin (e : G.K = X.K) (hu : X.A.units + 65 < cLine) : OpR X (compareOp .NotIn) (r2 G .notin) := by
  intro pins s σ H x y v u Q I rx ry h
  obtain ⟨L, tx, ty, dx, dy, P, r, mx, vx, my, vy, hs, k⟩ := h
  cases dy with
  | lst ds =>
    obtain ⟨⟨p1, p2⟩, hp⟩ := hs
    refine op_notInD hu pins s σ H x y v u Q I rx ry ⟨dx.py, D.pyL ds, r.dp e mx vx p1, r.dp e my vy p2, shaped_of_pl p1, shaped_of_pl p2, ?_⟩
    rw [pyL_map, List.any_map]
    exact k _ _ _ (r.pBl _) hp
  | tup ds =>
    obtain ⟨⟨p1, p2⟩, hp⟩ := hs
    obtain ⟨as, r1⟩ := Dp.reads I _ x v (r.dp e mx vx p1) rx
    obtain ⟨bs, r2⟩ := Dp.reads I _ y u (r.dp e my vy p2) ry
    refine SeqAt.notIn_tuple_reads r2 r1 (SeqAt.canLay_of_shaped (shaped_of_pl p2)) (SeqAt.canLay_of_shaped (shaped_of_pl p1)) (room_in_shaped (shaped_of_pl p1) hu) ?_
    rw [pyL_map, List.any_map]
    exact ⟨.bl _, H, I, rfl, k _ _ _ (r.pBl _) hp⟩
  | _ => exact hs.elim
/-! ### a tuple once -/
theorem tuple_mul1 (l : Addr) (items : Array Value) (n : Nat) (sl : Array (Option Value)) (dd : Option Addr) (x : Int) (u : PySem.Tok) (c0 : (decide (x < -(2 ^ 63)) || decide (x ≥ 2 ^ 63)) = false) (c1 : (items.isEmpty || x == 1) = true) :
    Meets (Builtin.«tuple.__mul__» ⟨[.ref l, .int x u], []⟩) (fun _ R s => s.heap.get? l = some { cls := .type "tuple", dict := dd, data := .seq items n, slots := sl } ∧ R (.ok (.ret (Value.ref l))) s) :=
  .of_wp fun prog w A R s h => by
    obtain ⟨hp, g, d, tk, os⟩ := s
    obtain ⟨hl, h⟩ := h
    have f1 := AutoSeq1.idx_int
    wp_walk using wpAny_loadPart' hl
    refine wpAny_ite_false (decide_eq_false (by rw [c0]; exact Bool.false_ne_true)) ?_
    wp_walk using wpAny_loadPart' hl
    exact ⟨_, rfl, h⟩
theorem op_repT1 : OpR X (binaryOp .Mult) (fun x y H Q => ∃ l k xs, x = .ref l ∧ y = .int k ∧ SqT X.K H l xs ∧ (xs = [] ∨ k = 1) ∧ 1 ≤ k ∧ k ≤ 1000 ∧ Q (.ref l) H) := by
  intro pins s σ H x y v u Q I rx ry h
  obtain ⟨l, k, xs, rfl, rfl, hT, ek, k1, k2, q⟩ := h
  cases rx
  obtain ⟨t, rfl⟩ := ry
  obtain ⟨its, r, ⟨⟨cls, dd, data, sl⟩, ho, hc, n, hd⟩, hs⟩ := I.tuple hT
  simp only at hc hd
  subst hc hd
  have c0 : (decide (k < -(2 ^ 63)) || decide (k ≥ 2 ^ 63)) = false := by
    rw [decide_eq_false (by omega), decide_eq_false (by omega)] <;> rfl
  have c1 : (its.toArray.isEmpty || k == 1) = true := by
    rcases ek with e | e
    · have : its = [] := List.eq_nil_of_length_eq_zero (by rw [← r.length, e]; rfl)
      rw [this]; rfl
    · rw [e]; simp
  refine wpAny_binaryOp_repeat_ref (T := "tuple") (U := "int") (by decide) ⟨_, ho, rfl⟩ (fun s' => typeIs_int s' k t) noFill_tuple_mul F.fills_int_mul F.slot_int_rmul repeat_tuple F.slot_int_index.lookup
    (call_meets F.slot_int_rmul (typeIs_int s k t) F.entry_int_rmul (F.args_int_rmul_2 _ _) (int_rmul_tuple k t l its.toArray n dd sl)
      ⟨ho, rfl, ⟨_, ho, rfl⟩, call_meets F.slot_tuple_mul ⟨_, ho, rfl⟩ F.entry_tuple_mul (F.args_tuple_mul_2 _ _) (tuple_mul1 l its.toArray n sl dd k t c0 c1) ⟨ho, ?_⟩⟩)
  exact ⟨.ref l, H, I, rfl, q⟩
/-! ### xs.count(True), xs.index(True) -/
def rCntD (K : PySem.W.Frag) : V → List V → Hp → VK → Prop := fun x xs H Q => ∃ (a : Addr) (y : V) (d : PyData) (ds : List PyData), x = .ref a ∧ xs = [y] ∧ Dp K H (.ref a) (.list ds) ∧ Dp K H y d ∧ SeqAt.shaped (.list ds) = true ∧ SeqAt.shaped d = true ∧ Q (.int (ds.countP fun z => PyData.eqv z d : Nat)) H
theorem mt_cntD (hu : X.A.units + 65 < cLine) : MtR X "list.count" (rCntD X.K) := by
  intro pins s σ H x xs v us Q I rx rxs h
  obtain ⟨a, y, d, ds, rfl, rfl, hl, hy, sl, sd, q⟩ := h
  cases rx
  cases rxs with
  | @cons _ uy _ ut ry rt =>
    cases rt
    obtain ⟨bs, rd⟩ := Dp.reads I d y uy hy ry
    have lay : PyData.canLayAll0 ds = true := SeqAt.canLay_of_shaped sl
    have room : X.A.units + 1 + min (PyData.depthAll ds) d.depth < cLine := room_in_shaped sd hu
    cases hl with
    | lst hs ha =>
      obtain ⟨its, rv, ⟨⟨cls, dd, data, slt⟩, n, ho, hc, hdn, hdt⟩, hlen⟩ := I.list hs
      simp only at hc hdt
      subst hc hdt
      obtain ⟨as, r4⟩ := Dp.readsAll I ds _ its ha rv
      have em : its.map (SeqAt.readOf s.heap) = ds := SeqAt.readsAll_map ds its as lay r4
      refine call_meets PySem.F.slot_list_count ⟨_, ho, rfl⟩ PySem.F.entry_list_count (PySem.F.args_list_count_2 _ _)
        (SeqAt.list_countAt a its.toArray n dd slt uy (fun u => PyData.eqv (SeqAt.readOf s.heap u) d)) ⟨ho, SeqAt.items_eqAt (vs := its.toArray) (show ReadsAll s.heap its.toArray.toList ds as from r4) rd lay (SeqAt.canLay_of_shaped sd) room, ?_⟩
      refine ⟨.int (ds.countP fun z => PyData.eqv z d : Nat), H, I.tok _, ⟨s.toks, ?_⟩, q⟩
      rw [← em, List.countP_map]
      rfl
theorem snd_cntT {e a : Expr} {ia : I} (e0 : G.K = X.K) (ha : SE X G a ia) (hp : ∀ ta, PE X a ta → PE X e (tBM X.K "list" (rCntD X.K) ta (tCons (tC (.bl true)) tNil))) : SE X G e (.cntT ia) := fun W tk =>
  PE_to (hp _ (ha W tk)) fun σ H Q ⟨env, L, Pn, Pe, hl, r, w, k, x⟩ => by
    refine ⟨env, L, _, Pe, hl, r, w, fun v H1 t e1 hl1 r1 w1 => ?_, x⟩
    obtain ⟨ds, vd, pl, hq⟩ := w1
    have dp := r1.dp e0 List.mem_cons_self vd pl
    obtain ⟨p, xs, rfl, hp, hx, _⟩ := r1.lstV List.mem_cons_self vd
    refine ⟨.inl ⟨rfl, _, SqL.of hp⟩, p, .bl true, .bool true, D.pyL ds, rfl, rfl, dp, .bl true, shaped_of_pl pl, shaped_of_pl (d := .bl true) rfl, ?_⟩
    rw [pyL_map, List.countP_map]
    exact k _ H1 _ e1 hl1 (r1.pop.pInt _) hq
theorem snd_idxT {e a : Expr} {ia : I} (e0 : G.K = X.K) (ha : SE X G a ia) (hp : ∀ ta, PE X a ta → PE X e (tBM X.K "list" (rIndexD X.K) ta (tCons (tC (.bl true)) tNil))) : SE X G e (.idxT ia) := fun W tk =>
  PE_to (hp _ (ha W tk)) fun σ H Q ⟨env, L, Pn, Pe, hl, r, w, k, x⟩ => by
    refine ⟨env, L, _, Pe, hl, r, w, fun v H1 t e1 hl1 r1 w1 => ?_, x⟩
    obtain ⟨ds, j, z, vd, pl, g1, g2, g3, hq⟩ := w1
    have dp := r1.dp e0 List.mem_cons_self vd pl
    obtain ⟨p, xs, rfl, hp, hx, _⟩ := r1.lstV List.mem_cons_self vd
    refine ⟨.inl ⟨rfl, _, SqL.of hp⟩, p, .bl true, .bool true, D.pyL ds, j, z.py, rfl, rfl, dp, .bl true, shaped_of_pl pl, shaped_of_pl (d := .bl true) rfl, ?_, g2, fun m z' hm hz => ?_, k _ H1 _ e1 hl1 (r1.pop.pInt _) hq⟩
    · rw [pyL_map, List.getElem?_map, g1]; rfl
    · rw [pyL_map, List.getElem?_map, Option.map_eq_some_iff] at hz
      obtain ⟨y, hy, rfl⟩ := hz
      exact g3 m y hm hy
/-! ### len(dict(xs)), xs pairs of a number and a datum -/
def rLenD : List V → Hp → VK → Prop := fun xs H Q => ∃ a kvs, xs = [V.ref a] ∧ H a = some (.dK kvs) ∧ Q (.int kvs.length) H
def rDicP (K : PySem.W.Frag) : List V → Hp → VK → Prop := fun xs H Q => ∃ (a : Addr) (ps : List Addr) (kvs : List (Key × V)), xs = [.ref a] ∧ SqL K H a (ps.map V.ref) ∧ Paired (fun p kv => SqT K H p [kV kv.1, kv.2]) ps kvs ∧ ∀ p, H p = none → Q (.ref p) (upd H p (.dK (mergeK [] kvs)))
theorem mergeK_new : ∀ (ns : List Int) (acc : List (Key × V)), ns.Nodup → (∀ i ∈ ns, ∀ p ∈ acc, p.1 ≠ .inl i) → (mergeK acc (ns.map fun i => ((.inl i : Key), V.bl true))).length = acc.length + ns.length
  | [], acc, _, _ => rfl
  | i :: ns, acc, nd, hd => by
    obtain ⟨n1, n2⟩ := List.nodup_cons.mp nd
    have e : putK acc (.inl i : Key) (V.bl true) = acc ++ [(.inl i, V.bl true)] := by
      unfold putK
      rw [if_neg]
      simp only [List.any_eq_true, decide_eq_true_eq, not_exists, not_and]
      exact fun p hp => hd i List.mem_cons_self p hp
    show (mergeK (putK acc (.inl i) (V.bl true)) (ns.map _)).length = _
    rw [e, mergeK_new ns _ n2 (fun j hj p hp => ?_)]
    · simp; omega
    · rcases List.mem_append.mp hp with z | z
      · exact hd j (List.mem_cons_of_mem _ hj) p z
      · simp at z
        subst z
        intro q
        injection q with q
        subst q
        exact n1 hj
theorem pairs_sh {B H : Hp} (s : Same B H) (e0 : G.K = X.K) : ∀ (ns : List Int) (xs : List V), ShL G B xs (ns.map fun i => .tup [.int i, .bl true]) → ∃ ps : List Addr, xs = ps.map V.ref ∧ Paired (fun p (kv : Key × V) => SqT X.K H p [kV kv.1, kv.2]) ps (ns.map fun i => ((.inl i : Key), V.bl true))
  | [], xs, h => by cases h; exact ⟨[], rfl, .nil⟩
  | i :: ns, xs, h => by
    have h : ShL G B xs (.tup [.int i, .bl true] :: ns.map fun i => .tup [.int i, .bl true]) := h
    cases h with
    | cons a t =>
      obtain ⟨ps, rfl, pr⟩ := pairs_sh s e0 ns _ t
      cases a with
      | @tup p ys _ q l =>
        cases l with
        | cons a1 l =>
          cases l with
          | cons a2 l =>
            cases l
            cases a1
            cases a2
            exact ⟨p :: ps, rfl, .cons (e0 ▸ Same.sqt s q) pr⟩
theorem snd_ldict {e a : Expr} {ia : I} (e0 : G.K = X.K) (ha : SE X G a ia) (hp : ∀ ta, PE X a ta → PE X e (tCB rLenD (tCons (tCB (rDicP X.K) (tCons ta tNil)) tNil))) : SE X G e (.ldict ia) := fun W tk =>
  PE_to (hp _ (ha W tk)) fun σ H Q ⟨env, L, Pn, Pe, hl, r, w, k, x⟩ => by
    refine ⟨env, L, _, Pe, hl, r, w, fun v H1 t e1 hl1 r1 w1 => ?_, x⟩
    obtain ⟨ns, vd, nd, hq⟩ := w1
    obtain ⟨p, xs, rfl, hp, hx, B, fp, rs, sl⟩ := r1.lstV List.mem_cons_self vd
    obtain ⟨ps, rfl, pr⟩ := pairs_sh (X := X) rs.sub e0 ns xs sl
    refine ⟨p, ps, _, rfl, SqL.of hp, pr, fun q hq2 => ?_⟩
    refine ⟨q, _, rfl, upd_same, ?_⟩
    have el := mergeK_new ns [] nd (fun _ _ _ hp => by simp at hp)
    rw [el]
    have r2 : R G (upd H1 q (.dK (mergeK [] (ns.map fun i => ((.inl i : Key), V.bl true))))) (σ.zip e1 ++ L) := by
      obtain ⟨B, fp, s, w, n, u, tb⟩ := r1.pop
      exact ⟨B, fp, fun b o z => by rw [upd_ne (ne_of_none (s b o z) hq2)]; exact s b o z, w.mono (Same.refl B) fun b hb => upd_ne fun z => w.there b hb (z ▸ hq2), n, u, tb.new hq2⟩
    have := k (.int (ns.length : Nat)) _ _ e1 hl1 (r2.pInt _) hq
    simpa using this
/-! ### a text so many times -/
theorem op_mulS : OpR X (binaryOp .Mult) (fun x y H Q => ∃ (z : Str) (n : Nat), x = .str z ∧ y = .int (n : Nat) ∧ z.length ≤ 16 ∧ n ≤ 1000 ∧ Q (.str (Txt.mul z (n : Nat))) H) := by
  intro pins s σ H x y v u Q I rx ry h
  obtain ⟨z, n, rfl, rfl, h1, h2, q⟩ := h
  obtain ⟨t, rfl⟩ := rx
  obtain ⟨t2, rfl⟩ := ry
  exact PySem.W.KXi.mul rfl h1 (by omega) (by omega) fun t' k _ _ => ⟨.str (Txt.mul z (n : Nat)), H, I.tok _, ⟨_, rfl⟩, q⟩
theorem snd_mulS {e : Expr} {z : Str} {n : Nat} (hp : PE X e (tOp (fun x y H Q => ∃ (z : Str) (n : Nat), x = .str z ∧ y = .int (n : Nat) ∧ z.length ≤ 16 ∧ n ≤ 1000 ∧ Q (.str (Txt.mul z (n : Nat))) H) (tC (.str z)) (tC (.int (n : Nat))))) : SE X G e (.mulS z n) := fun W tk =>
  PE_to hp fun σ H Q ⟨env, L, Pn, Pe, hl, r, ⟨⟨w1, w2⟩, w3⟩, k, x⟩ => ⟨z, n, rfl, rfl, w1, w2, k _ _ _ env hl (r.push fun _ _ => .str _) w3⟩
/-! ### errors made as values -/
theorem snd_mkM {e e1 : Expr} {c : Str} {ie : I} (hmg : G.mg = X.mg) {C : Addr} (hm : X.mg c = some (.ref C)) (he : SE X G e1 ie) (hp : ∀ te, PE X e1 te → PMk X e (fun σ H Q => te σ H fun _ H1 => Q (.ref C) none H1)) : SE X G e (.mkM c ie) := fun W tk =>
  PE_to (pe_of_mk (hp _ (he W tk))) fun σ H Q ⟨env, L, Pn, Pe, hl, r, w, k, x⟩ =>
    ⟨env, L, _, Pe, hl, r, w, fun v H1 t e' hl1 r1 q a ha => k _ _ _ e' hl1 (R.newX ⟨c, [], [], C, rfl, rfl, by rw [hmg]; exact hm, .inl ⟨rfl, rfl, rfl, r1.pop⟩⟩ ha) q, x⟩
theorem mk_end2 {H1 : Hp} {a dx : Addr} {C : Addr} {at_ : Str} {v : V} (ha : H1 a = none) (n1 : H1 dx = none) (n2 : dx ≠ a) : upd (del (upd (upd (upd H1 a (exo a C none)) dx (exd dx [(at_, v)])) a (exo a C (some dx))) a) dx (.xd [(at_, v)]) = upd H1 dx (.xd [(at_, v)]) := by
  funext b
  by_cases hb : b = dx
  · rw [hb, upd_same, upd_same]
  · rw [upd_ne hb, upd_ne hb]
    by_cases hb2 : b = a
    · rw [hb2, del_same, ha]
    · rw [del_ne hb2, upd_ne hb2, upd_ne hb, upd_ne hb2]
theorem snd_mkX {fl c at_ : Str} {C fI : Addr} {e1 : Expr} {ie : I} {p pos : Pos} (hfl : (X.prog.main.file : Str) = fl) (htop : (X.prog.main.scope.names.lookup ("super" : Str)).isSome = false) (hmg : G.mg = X.mg) (hm : X.mg c = some (.ref C)) (ic : IniC fl X.K C fI at_) (hr : Room 2 X.A) (hg : Gl X c)
    (hdb : (c == ("__debug__" : Str)) = false) (he : SE X G e1 ie) (hs : starEach [e1] X.env = (false, eval e1 X.env) :: starEach [] X.env) : SE X G (.Call (.Name c p) [e1] [] pos) (.mkX c at_ ie) := fun W tk => by
  obtain ⟨fd, ps, F1, bnd, _⟩ := ini_ok (w := X.w) (mg := X.mg) (base := X.base) hfl htop ic
  refine PE_to (pe_of_mk (pmk_oex (k := 1) (dvs := []) ic.T ic.init ic.ty F1 hr bnd .nil pass0 hg hm (pa_cons (he W tk) pa_nil hs) hdb hs)) fun σ H Q ⟨env, L, Pn, Pe, hl, r, w, k, x⟩ => ?_
  refine ⟨env, L, _, Pe, hl, r, w, fun v H1 t e' hl1 r1 ⟨d, hd, hq⟩ => ⟨by simp, fun a ha => ⟨a, v, rfl, upd_same, fun dx n1 n2 => ⟨rfl, dx, [(at_, v)], upd_same, by rw [upd_ne n2, upd_same], ?_, fun b hb => ?_⟩⟩⟩, x⟩
  · rw [upd_ne n2] at n1; exact n1
  · rw [upd_ne n2] at n1
    rw [mk_end2 ha n1 n2] at hb ⊢
    exact k _ _ _ e' hl1 (R.newX ⟨c, [at_], [d], C, rfl, rfl, by rw [hmg]; exact hm, .inr ⟨dx, ⟨rfl, by simp⟩, R.newXd (r1.frz hd) n1⟩⟩ hb) hq
theorem snd_mkK {fl c at_ : Str} {C fI : Addr} {e1 : Expr} {ie : I} {p pos kp : Pos} (hfl : (X.prog.main.file : Str) = fl) (htop : (X.prog.main.scope.names.lookup ("super" : Str)).isSome = false) (hmg : G.mg = X.mg) (hm : X.mg c = some (.ref C)) (ic : IniC fl X.K C fI at_) (hr : Room 2 X.A) (hg : Gl X c)
    (hdb : (c == ("__debug__" : Str)) = false) (he : SE X G e1 ie) : SE X G (.Call (.Name c p) [] [⟨some at_, e1, kp⟩] pos) (.mkK c at_ ie) := fun W tk => by
  obtain ⟨fd, ps, F1, _, bnd⟩ := ini_ok (w := X.w) (mg := X.mg) (base := X.base) hfl htop ic
  refine PE_to (pe_of_mk (pmk_kw (k := 1) ic.T ic.init ic.ty F1 bnd hr pass0 hg hm (pk_cons (he W tk) pk_nil) rfl hdb)) fun σ H Q ⟨env, L, Pn, Pe, hl, r, w, k, x⟩ => ?_
  refine ⟨env, L, _, Pe, hl, r, w, fun v H1 t e' hl1 r1 ⟨d, hd, hq⟩ => ⟨v, rfl, fun a ha => ⟨a, v, rfl, upd_same, fun dx n1 n2 => ⟨rfl, dx, [(at_, v)], upd_same, by rw [upd_ne n2, upd_same], ?_, fun b hb => ?_⟩⟩⟩, x⟩
  · rw [upd_ne n2] at n1; exact n1
  · rw [upd_ne n2] at n1
    rw [mk_end2 ha n1 n2] at hb ⊢
    exact k _ _ _ e' hl1 (R.newX ⟨c, [at_], [d], C, rfl, rfl, by rw [hmg]; exact hm, .inr ⟨dx, ⟨rfl, by simp⟩, R.newXd (r1.frz hd) n1⟩⟩ hb) hq
end
end FW
set_option Elab.async false
set_option linter.all false
set_option maxRecDepth 100000
set_option maxHeartbeats 4000000
namespace FW
open PySem PySem.Spec PyProof.Rows L2
section
variable {G : GC} {X : Cx}
/-! ### repr of any datum -/
theorem reads_sc {B : Hp} {h : Heap} {v : V} {d : D} {u : Value} (s : Sh G B v d) (p : d.pl 0 = true) (r : RelV v u) : Reads h u d.py [] := by
  cases s with
  | non => obtain rfl : u = Value.none := r; exact .none
  | bl b => obtain rfl : u = Value.bool b := r; exact .bool b
  | int i => obtain ⟨t, rfl⟩ := r; exact .int i t
  | str x => obtain ⟨t, rfl⟩ := r; exact .str x t
  | tup _ _ => simp [D.pl] at p
  | lst _ _ => simp [D.pl] at p
  | scr _ => simp [D.pl] at p
  | dic _ _ _ => simp [D.pl] at p
  | fn _ => simp [D.pl] at p
  | ty _ => simp [D.pl] at p
  | exc _ _ _ _ _ => simp [D.pl] at p
  | clo _ _ => simp [D.pl] at p
theorem reads_dic {B : Hp} {h : Heap} {P : Program} {w : World} : ∀ (ks : List Key) (xs : List V) (ds : List D) (es : List DictEntry) (vs : List (Key × Value)), ks.length = xs.length → KV (ks.zip xs) vs → Pairs (mixKind P w) es vs → ShL G B xs ds → D.plL ds 0 = true →
    ReadsAll h (es.map (·.key)) (ks.map keyPy) [] ∧ ReadsAll h (es.map (·.val)) (D.pyL ds) []
  | [], [], ds, es, vs, _, kv, pr, sh, _ => by
    cases sh
    cases kv
    cases pr
    exact ⟨.nil, .nil⟩
  | k :: ks, x :: xs, ds, es, vs, hl, kv, pr, sh, pl => by
    have kv : KV ((k, x) :: ks.zip xs) vs := kv
    cases sh with
    | @cons _ _ d ds a t =>
      cases kv with
      | @cons _ q _ qs e1 e2 =>
        cases pr with
        | @cons e _ es _ i1 i2 i3 =>
          simp only [D.plL, Bool.and_eq_true] at pl
          obtain ⟨r1, r2⟩ := reads_dic (h := h) ks xs ds es qs (Nat.succ.inj hl) e2 i3 t pl.2
          obtain ⟨e3, e4⟩ := e1
          refine ⟨.cons (as := []) (bs := []) ?_ r1, .cons (as := []) (bs := []) ?_ r2⟩
          · have i1 : keyIs q.1 e.key = true := i1
            rw [← e3] at i1
            rcases keyIs_shape i1 with ⟨i, tk, z1, z2⟩ | ⟨y, tk, z1, z2⟩
            · have z1 : k = Sum.inl i := z1
              show Reads h e.key (keyPy k) []
              rw [z1, z2]; exact .int i tk
            · have z1 : k = Sum.inr y := z1
              show Reads h e.key (keyPy k) []
              rw [z1, z2]; exact .str y tk
          · show Reads h e.val d.py []
            rw [i2]
            exact reads_sc a pl.1 e4
  | [], _ :: _, _, _, _, hl, _, _, _, _ => by simp at hl
  | _ :: _, [], _, _, _, hl, _, _, _, _ => by simp at hl
theorem c_repA (e : G.K = X.K) (hg : X.A.guards = some []) (hu : X.A.units + 128 < cLine) : CallR X (.builtin "repr") (rB G .repA) := by
  intro pins s σ H vs us Q I rv h
  obtain ⟨L, ds, P, r, m, hs, k⟩ := h
  match ds, hs with
  | [x], ⟨⟨h1, h2, h3⟩, hp⟩ =>
    obtain ⟨v, t, rfl, m1, e1⟩ := memV1 m
    obtain ⟨u, rfl, ru⟩ : ∃ u, us = [u] ∧ RelV v u := by
      cases rv with
      | cons a b => cases b; exact ⟨_, rfl, a⟩
    have fin : ∀ h' tk0 tk, (∀ b o, s.heap.get? b = some o → h'.get? b = some o) → EP X pins σ Q (.str x.pyd.shown tk0) { s with heap := h', toks := tk } := fun h' tk0 tk hk => ⟨.str x.pyd.shown, H, I.kept (t' := tk) hk, ⟨_, rfl⟩, k _ _ _ (r.push fun _ _ => .str _) hp⟩
    have seq : ∀ p, v = .ref p → x.pl 20 = true → x.pyd = x.py → wpAny (model X.prog X.w) X.A (call (.builtin "repr") [u]) (EP X pins σ Q) X.xe s := fun p ev h1 ey => by
      have dp := r.dp e m1 e1 h1
      subst ev
      obtain rfl : u = Value.ref p := ru
      rw [ey] at fin h2 h3
      obtain ⟨as, rd⟩ := Dp.reads I x.py _ _ dp rfl
      have hd : x.py.depth ≤ 64 := by
        have z := shaped_of_pl h1
        unfold SeqAt.shaped at z
        simp only [Bool.and_eq_true, decide_eq_true_eq] at z
        exact z.2
      exact repr_of_reads' rd h2 (fun z => by rw [py_noDict] at z; cases z) hg (by omega) (fun _ _ z => z) (fun h' u tk hk => fin h' u tk hk) h3
    cases x with
    | non =>
      have := r.non m1 e1; subst this
      obtain rfl : u = Value.none := ru
      exact PySem.P.repr_of_none (fin s.heap _ _ fun _ _ z => z)
    | bl b =>
      have := r.bl m1 e1; subst this
      obtain rfl : u = Value.bool b := ru
      exact PySem.P.repr_of_bool (fin s.heap _ _ fun _ _ z => z)
    | int i =>
      have := r.int m1 e1; subst this
      obtain ⟨tk, rfl⟩ := ru
      exact PySem.P.repr_of_int (by simpa [D.pyd, D.py, PyData.showable] using h2) (fin s.heap _ _ fun _ _ z => z)
    | str y =>
      have := r.str m1 e1; subst this
      obtain ⟨tk, rfl⟩ := ru
      exact PySem.P.repr_of_str (fin s.heap _ _ fun _ _ z => z) (by simpa [D.pyd, D.py, PyData.shown] using h3)
    | tup ds =>
      obtain ⟨p, _, z, _⟩ := r.tupV m1 e1
      exact seq p z h1 rfl
    | lst ds =>
      obtain ⟨p, _, z, _⟩ := r.lstV m1 e1
      exact seq p z h1 rfl
    | dic ks ds =>
      cases r.vw m1 e1 with
      | val z =>
        obtain ⟨B, fp, rs, sh⟩ := z
        cases sh with
        | @dic p _ xs _ q1 q2 q3 =>
          obtain rfl : u = Value.ref p := ru
          simp only [D.rok, Bool.and_eq_true, decide_eq_true_eq] at h1
          obtain ⟨g1, g2, vs', g3, o, es, ep, g4, g5, g6, g7, g8, g9⟩ := I.hok p _ (rs.sub _ _ q1)
          obtain ⟨ra, rb⟩ := reads_dic (h := s.heap) ks xs ds es.toList vs' q2 g3 g8 q3 h1.2
          have lk : (ks.map keyPy).length = (D.pyL ds).length := by rw [List.length_map, pyL_map, List.length_map]; exact h1.1
          have rd : Reads s.heap (.ref p) (D.dic ks ds).pyd (p :: [] ++ []) := .dict g4 g5.1 g6 (by rw [List.map_fst_zip (Nat.le_of_eq lk)]; exact ra) (by rw [List.map_snd_zip (Nat.le_of_eq lk.symm)]; exact rb)
          have dep : (D.dic ks ds).pyd.depth ≤ 64 := by
            have key : ∀ (ks : List PyData) (ds : List D), (∀ k ∈ ks, k.depth = 0) → D.plL ds 0 = true → PyData.depthKv (ks.zip (D.pyL ds)) ≤ 0 := by
              intro ks
              induction ks with
              | nil => intro ds _ _; simp [PyData.depthKv]
              | cons k ks ih =>
                intro ds hk hd
                cases ds with
                | nil => simp [D.pyL, PyData.depthKv]
                | cons d ds =>
                  simp only [D.plL, Bool.and_eq_true] at hd
                  have h0 := ih ds (fun k hk' => hk k (List.mem_cons_of_mem _ hk')) hd.2
                  have h1 := hk k List.mem_cons_self
                  have h2 : d.py.depth = 0 := by
                    have hz := hd.1
                    cases d <;> simp [D.pl] at hz <;> simp [D.py, PyData.depth]
                  simp only [D.pyL, List.zip_cons_cons, PyData.depthKv]
                  omega
            have := key (ks.map keyPy) ds (fun k hk => by
              obtain ⟨k', _, rfl⟩ := List.mem_map.mp hk
              cases k' <;> simp [keyPy, PyData.depth]) h1.2
            simp only [D.pyd, PyData.depth]
            omega
          exact repr_of_reads' rd h2 (fun _ z => by
            simp at z
            rw [← z] at g2
            simp at g2) hg (by omega) (fun _ _ z => z) (fun h' u tk hk => fin h' u tk hk) h3
    | _ => simp [D.rok, D.pl] at h1
end
end FW
set_option Elab.async false
set_option linter.all false
set_option maxRecDepth 100000
set_option maxHeartbeats 4000000
namespace FW
open PySem PySem.Spec PyProof.Rows L2
/-! ## does the code say just this: looked by a program -/
structure Cs where
  N : List Str
  sc : Scope
  fnb : Str → Bool
  excs : List Str
  nums : List (Str × Int)
  defs : List Str
  gd : Bool := false
  lam : Bool := false
  cau : Str := ""
  net : Str := ""
  nets : List Str := []
  isx : List (Str × List (Str × Bool)) := []
  inis : List (Str × Str) := []
  fil : Str := ""
  rai : Bool := false
def Cs.dp (c : Cs) : Nat := if c.lam || c.rai then 2 else 0
def nameOk (x : Str) : Bool := !decide (x = "__debug__") && !decide (x = "__classdict__") && !decide (x = "__name__")
def isGl (c : Cs) (x : Str) : Bool := decide (c.sc.names.lookup x = some .globalImplicit) && nameOk x
def isVar (c : Cs) (i : Nat) (x : Str) : Bool := decide (c.N[i]? = some x) && nameOk x && (decide (c.sc.names.lookup x = some .local) || decide (c.sc.names.lookup x = some .cell) || decide (c.sc.names.lookup x = some .free))
def isTgt (c : Cs) (i : Nat) (x : Str) : Bool := decide (c.N[i]? = some x) && (decide (c.sc.names.lookup x = some .local) || (decide (c.sc.names.lookup x = some .cell) && c.fnb x))
def notStar : Expr → Bool
  | .Starred .. => false
  | _ => true
def notSl : Expr → Bool
  | .Slice .. => false
  | _ => true
def notSet : Expr → Bool
  | .Set .. => false
  | _ => true
def notComp : Expr → Bool
  | .ListComp .. => false
  | .SetComp .. => false
  | .DictComp .. => false
  | _ => true
def plainT : Expr → Bool
  | .Name .. => true
  | .Call .. => true
  | .Subscript .. => true
  | .Attribute .. => true
  | .BinOp .. => true
  | .ListComp .. => true
  | .Tuple .. => true
  | .List .. => true
  | .Constant .. => true
  | _ => false
def binO : Op2 → Option Operator
  | .add => some .Add
  | .sub => some .Sub
  | .mod => some .Mod
  | .fdiv => some .FloorDiv
  | .pow => some .Pow
  | .xor => some .BitXor
  | .band => some .BitAnd
  | .bor => some .BitOr
  | .mul => some .Mult
  | _ => none
def cmpO : Op2 → Option CmpOp
  | .eq => some .Eq
  | .ne => some .NotEq
  | .lt => some .Lt
  | .le => some .LtE
  | .gt => some .Gt
  | .ge => some .GtE
  | .isN => some .Is
  | .notN => some .IsNot
  | .isB => some .Is
  | .notB => some .IsNot
  | .isin => some .In
  | .notin => some .NotIn
  | _ => none
/-- what stands behind in is no set display -/
def okIn (o : Op2) (y : Expr) : Bool := !(decide (o = .isin) || decide (o = .notin)) || notSet y
def bfN : Bf → Str
  | .len => "len"
  | .isi => "isinstance"
  | .tupl => "tuple"
  | .list => "list"
  | .abs => "abs"
  | .int => "int"
  | .min2 => "min"
  | .max2 => "max"
  | .sum => "sum"
  | .all => "all"
  | .any => "any"
  | .repr => "repr"
  | .repA => "repr"
  | .minL => "min"
  | .maxL => "max"
def tyOk (n : String) (y : Str) : Bool := (decide (n = "int") && decide (y = "int")) || (decide (n = "bool") && decide (y = "bool")) || (decide (n = "str") && decide (y = "str")) || (decide (n = "tuple") && decide (y = "tuple")) || (decide (n = "list") && decide (y = "list"))
def ownOk (c : Cs) : List Nat → List (Str × Nat) → Bool
  | [], [] => true
  | i :: is, (x, j) :: r => decide (i = j) && decide (c.N[i]? = some x) && ownOk c is r
  | _, _ => false
def ownOf (c : Cs) (is : List Nat) : List (Str × Nat) := is.map fun i => ((c.N[i]?).getD "", i)
def sub (c : Cs) (scope : Scope) : Cs := { c with lam := false, rai := false, sc := relS scope c.sc, fnb := fun x => decide (scope.names.lookup x = some .cell) }
def lamC (c : Cs) (scope : Scope) : Cs := { c with sc := scope, fnb := fun _ => false, gd := false, lam := false, rai := false }
def chkTs (c : Cs) : List Nat → List Expr → Bool
  | [], [] => true
  | i :: is, .Name x _ :: es => isTgt c i x && chkTs c is es
  | _, _ => false
def chkG (c : Cs) : I → Expr → Bool
  | .gname i, .Name x _ => isTgt c i x
  | .gtup is, .Tuple es _ _ => chkTs c is es
  | _, _ => false
def noDup : List Nat → Bool
  | [] => true
  | i :: is => !is.contains i && noDup is
def keysOk : List Str → List (Option Expr) → Bool
  | [], keys => keys.isEmpty
  | k :: ks, keys => (match keys with | some (.Constant (.str y) _ _) :: r => decide (k = y) && keysOk ks r | _ => false)
theorem keysOk_cons {k : Str} {ks : List Str} {keys : List (Option Expr)} (h : keysOk (k :: ks) keys = true) : ∃ j p r, keys = some (.Constant (.str k) j p) :: r ∧ keysOk ks r = true := by
  simp only [keysOk] at h
  split at h
  · rw [Bool.and_eq_true, decide_eq_true_eq] at h
    obtain ⟨rfl, h⟩ := h
    exact ⟨_, _, _, rfl, h⟩
  · cases h
def isTT : I → Bool
  | .tt => true
  | _ => false
mutual
def chkE : I → Cs → Expr → Bool
  | .con d, c, e => (match d, e with
    | .non, .Constant .none _ _ => true
    | .bl b, .Constant (.bool b') _ _ => b == b'
    | .int i, .Constant (.int j) _ _ => decide (i = j)
    | .str x, .Constant (.str y) _ _ => decide (x = y)
    | .ty n, .Name y _ => tyOk n y && isGl c y
    | _, _ => false)
  | .var i, c, e => (match e with | .Name x _ => isVar c i x | _ => false)
  | .mv i, c, e => (match e with | .Name x _ => isVar c i x | _ => false)
  | .glob x i, c, e => (match e with | .Name y _ => decide (x = y) && isGl c y && decide ((x, i) ∈ c.nums) | _ => false)
  | .fnv x, c, e => (match e with | .Name y _ => decide (x = y) && isGl c y && decide (x ∈ c.defs) | _ => false)
  | .op2 o a b, c, e => (match e with
    | .BinOp x op y _ => decide (binO o = some op) && chkE a c x && chkE b c y
    | .Compare x [op] [y] _ => decide (cmpO o = some op) && okIn o y && chkE a c x && chkE b c y
    | .Subscript x y _ => decide (o = .idx) && notSl y && chkE a c x && chkE b c y
    | _ => false)
  | .op1 o a, c, e => (match e with | .UnaryOp op x _ => decide (op = .USub) && chkE a c x | _ => false)
  | .chain o o' a b d, c, e => (match e with | .Compare x [op, op'] [y, z] _ => decide (cmpO o = some op) && decide (cmpO o' = some op') && okIn o' z && chkE a c x && chkE b c y && chkE d c z | _ => false)
  | .tup as, c, e => (match e with | .Tuple es _ _ => decide (refs as = []) && chkA as c es | _ => false)
  | .lst as, c, e => (match e with | .List es _ => decide (refs as = []) && chkA as c es | _ => false)
  | .slc a lo hi, c, e => (match e with | .Subscript x (.Slice l h none _) _ => chkE a c x && chkB lo c l && chkB hi c h | _ => false)
  | .andv a b, c, e => (match e with | .BoolOp .And (x :: y :: r) pos => chkE a c x && (match r with | [] => chkE b c y | _ => chkE b c (.BoolOp .And (y :: r) pos)) | _ => false)
  | .orv a b, c, e => (match e with | .BoolOp .Or (x :: y :: r) pos => chkE a c x && (match r with | [] => chkE b c y | _ => chkE b c (.BoolOp .Or (y :: r) pos)) | _ => false)
  | .notv a, c, e => (match e with | .UnaryOp .Not x _ => chkE a c x | _ => false)
  | .ite d a b, c, e => (match e with | .IfExp x y z _ => chkT d c x && chkE a c y && chkE b c z | _ => false)
  | .blt f as, c, e => (match e with | .Call (.Name y _) (e :: es) [] _ => decide (y = bfN f) && isGl c y && (!(decide (f = .repr) || decide (f = .repA)) || c.gd) && chkOs as c (e :: es) | _ => false)
  | .call x cn as, c, e => (match e with | .Call (.Name y _) (e :: es) [] _ => decide (x = y) && isGl c y && decide (cn.io = mask as) && (!cn.gd || c.gd) && chkA as c (e :: es) | _ => false)
  | .comp g it cond elt, c, e => (match e with | .ListComp e [⟨tg, iter, ifs, 0⟩] scope _ => blkC c.N c.sc scope (ownOf c (tgs g)) && notSet iter && chkG (sub c scope) g tg && chkI it c iter &&
      (match ifs with | [] => isTT cond | [x] => chkT cond (sub c scope) x | _ => false) && chkE elt (sub c scope) e | _ => false)
  | .pop i, c, e => (match e with | .Call (.Attribute (.Name x _) m ap) [] [] cp => decide (m = "pop") && isVar c i x && (ap.endLine == cp.line) | _ => false)
  | .revs a, c, e => (match e with | .Subscript x (.Slice none none (some (.UnaryOp .USub (.Constant (.int 1) _ _) _)) _) _ => chkE a c x | _ => false)
  | .dict ks as, c, e => (match e with | .Dict keys values _ => keysOk ks keys && decide ks.Nodup && decide (ks.length ≤ 15) && decide (refs as = []) && decide ((mask as).length = ks.length) && chkA as c values && decide (values.length = ks.length) | _ => false)
  | .dgetI i k, c, e => (match e with | .Subscript (.Name x _) (.Constant (.str y) _ _) _ => decide (k = y) && isVar c i x | _ => false)
  | .dpop0 i k, c, e => (match e with | .Call (.Attribute (.Subscript (.Name x _) (.Constant (.str y) _ _) _) m ap) [.Constant (.int 0) _ _] [] cp => decide (m = "pop") && decide (k = y) && isVar c i x && (ap.endLine == cp.line) | _ => false)
  | .callK x cn as ks pm, c, e => (match e with | .Call (.Name y _) [] kws _ => decide (x = y) && isGl c y && (!cn.gd || c.gd) && cn.io.all (fun b => !b) && decide ((ks, pm) ∈ cn.kws) && decide (refs as = []) && decide ((mask as).length = ks.length) && decide (kws.map (·.arg) = ks.map some) && chkA as c (kws.map (·.value)) | _ => false)
  | .caught nets e, c, ex => (match ex with | .Call (.Name y _) [.Lambda params body scope _] [] _ => decide (y = c.cau) && isGl c y && c.lam && nets.all (fun n => decide (n ∈ c.nets)) && noArgs params && LamX.lamSB c.sc scope && chkE e (lamC c scope) body | _ => false)
  | .mkM x e, c, ex => (match ex with | .Call (.Name y _) [e1] [] _ => decide (x = y) && isGl c y && decide (x ∈ c.excs) && notStar e1 && chkE e c e1 | _ => false)
  | .mkX x n e, c, ex => (match ex with | .Call (.Name y _) [e1] [] _ => decide (x = y) && isGl c y && c.rai && decide ((x, n) ∈ c.inis) && notStar e1 && chkE e c e1 | _ => false)
  | .mkK x n e, c, ex => (match ex with | .Call (.Name y _) [] [⟨some m, e1, _⟩] _ => decide (x = y) && isGl c y && c.rai && decide ((x, n) ∈ c.inis) && decide (n = m) && chkE e c e1 | _ => false)
  | .cntT a, c, ex => (match ex with | .Call (.Attribute (.Call f (a0 :: as) ks cp0) m ap) [.Constant (.bool true) _ _] [] cp => decide (m = "count") && (ap.endLine == cp.line) && chkE a c (.Call f (a0 :: as) ks cp0) | _ => false)
  | .idxT a, c, ex => (match ex with | .Call (.Attribute (.Call f (a0 :: as) ks cp0) m ap) [.Constant (.bool true) _ _] [] cp => decide (m = "index") && (ap.endLine == cp.line) && chkE a c (.Call f (a0 :: as) ks cp0) | _ => false)
  | .ldict a, c, ex => (match ex with | .Call (.Name y _) [.Call (.Name z _) [e1] [] _] [] _ => decide (y = "len") && isGl c y && decide (z = "dict") && isGl c z && notStar e1 && chkE a c e1 | _ => false)
  | .mulS x n, _, ex => (match ex with | .BinOp (.Constant (.str y) _ _) .Mult (.Constant (.int m) _ _) _ => decide (x = y) && decide (m = (n : Nat)) | _ => false)
  | .isX cls tab e, c, ex => (match ex with | .Call (.Name y _) [e1, .Name z _] [] _ => decide (y = "isinstance") && isGl c y && decide (z = cls) && isGl c z && notStar e1 && decide ((cls, tab) ∈ c.isx) && chkE e c e1 | _ => false)
  | .attrX cs e n, c, ex => (match ex with | .Attribute (.Name z pz) m _ => decide (m = n) && cs.all (fun q => decide (q ∈ c.inis)) && chkE e c (.Name z pz) | _ => false)
  | .callL i tab as, c, e => (match e with | .Call (.Name y _) (e :: es) [] _ => isVar c i y && tab.all (fun p => decide (p.2.io = mask as) && (!p.2.gd || c.gd)) && decide (refs as = []) && chkA as c (e :: es) | _ => false)
  | .lamV _ _ e, c, ex => (match ex with | .Lambda params body scope _ => c.lam && noArgs params && LamX.lamSB c.sc scope && chkE e (lamC c scope) body | _ => false)
  | .caughtV nets _ w _, c, ex => (match ex with | .Call (.Name y _) [.Name z _] [] _ => decide (y = c.cau) && isGl c y && c.lam && nets.all (fun n => decide (n ∈ c.nets)) && isVar c w z | _ => false)
  | .compW nets _ i w cls xt _, c, ex => (match ex with
    | .ListComp (.Constant (.int 1) _ _) [⟨.Name tg _, .Name it _, [.UnaryOp .Not (.Call (.Name isn _) [.Call (.Name y _) [.Name z _] [] _, .Name cl _] [] _) _], 0⟩] scope _ =>
      c.lam && decide (y = c.cau) && nets.all (fun n => decide (n ∈ c.nets)) && blkC c.N c.sc scope (ownOf c [w]) && isTgt (sub c scope) w tg && isVar c i it && isGl (sub c scope) y && isVar (sub c scope) w z && decide (isn = "isinstance") && isGl (sub c scope) isn && decide (cl = cls) && isGl (sub c scope) cl && decide ((cls, xt) ∈ c.isx)
    | _ => false)
  | _, _, _ => false
def chkA : I → Cs → List Expr → Bool
  | .anil, _, es => (match es with | [] => true | _ => false)
  | .acons a r, c, es => (match es with | e :: es => notStar e && chkE a c e && chkA r c es | _ => false)
  | .aref i r, c, es => (match es with | .Name x _ :: es => isVar c i x && chkA r c es | _ => false)
  | _, _, _ => false
def chkOs : I → Cs → List Expr → Bool
  | .anil, _, es => (match es with | [] => true | _ => false)
  | .acons a r, c, es => (match es with | e :: es => notStar e && chkE a c e && chkOs r c es | _ => false)
  | _, _, _ => false
def chkB : I → Cs → Option Expr → Bool
  | .onone, _, o => (match o with | none => true | _ => false)
  | .osome a, c, o => (match o with | some e => chkE a c e | _ => false)
  | _, _, _ => false
def chkT : I → Cs → Expr → Bool
  | .tand a b, c, e => (match e with | .BoolOp .And (x :: y :: r) pos => chkT a c x && (match r with | [] => chkT b c y | _ => chkT b c (.BoolOp .And (y :: r) pos)) | _ => false)
  | .tor a b, c, e => (match e with | .BoolOp .Or (x :: y :: r) pos => chkT a c x && (match r with | [] => chkT b c y | _ => chkT b c (.BoolOp .Or (y :: r) pos)) | _ => false)
  | .tnot a, c, e => (match e with | .UnaryOp .Not x _ => chkT a c x | _ => false)
  | .tcmp o a b, c, e => (match e with | .Compare x [op] [y] _ => decide (cmpO o = some op) && okIn o y && chkE a c x && chkE b c y | _ => false)
  | .tchain o o' a b d, c, e => (match e with | .Compare x [op, op'] [y, z] _ => decide (cmpO o = some op) && decide (cmpO o' = some op') && okIn o' z && chkE a c x && chkE b c y && chkE d c z | _ => false)
  | .tdne i k, c, e => (match e with | .Compare (.Subscript (.Name x _) (.Constant (.str y) _ _) _) [.NotEq] [.List [] _] _ => decide (k = y) && isVar c i x | _ => false)
  | .tval a, c, e => plainT e && chkE a c e
  | _, _, _ => false
def chkI : I → Cs → Expr → Bool
  | .irng1 a, c, e => (match e with | .Call (.Name y _) [e] [] _ => decide (y = "range") && isGl c y && notStar e && chkE a c e | _ => false)
  | .irng2 a b, c, e => (match e with | .Call (.Name y _) [e, e'] [] _ => decide (y = "range") && isGl c y && notStar e && notStar e' && chkE a c e && chkE b c e' | _ => false)
  | .irev a, c, e => (match e with | .Call (.Name y _) [e] [] _ => decide (y = "reversed") && isGl c y && notStar e && chkE a c e | _ => false)
  | .iseq a, c, e => chkE a c e
  | _, _, _ => false
end
def incOk (o : Op2) (op : Operator) : Bool := (decide (o = .add) && decide (op = .Add)) || (decide (o = .sub) && decide (op = .Sub))
def isLc : Expr → Bool
  | .ListComp .. => true
  | _ => false
def isCmp : I → Bool
  | .comp .. => true
  | _ => false
def notTup : Expr → Bool
  | .Tuple .. => false
  | _ => true
def locs (c : Cs) : List Nat → List Str → Bool
  | i :: is, x :: xs => decide (c.N[i]? = some x) && decide (c.sc.names.lookup x = some .local) && !is.contains i && locs c is xs
  | [], [] => true
  | _, _ => false
def swName (c : Cs) (line : Nat) : Expr → Option Str
  | .Name id pos => if c.sc.names.lookup id == some .local && pos.line == line then some id else none
  | _ => none
def swD (c : Cs) (ts vs : List Expr) : Option (Option (List Str)) :=
  if !(ts.length == 2 || ts.length == 3) || vs.length != ts.length then some none
  else if (vs.any fun | .Starred .. => true | _ => false) then some none
  else
    let names := ts.filterMap (swName c ((ts.head?.map (·.pos.line)).getD 0))
    if names.length != ts.length || names.eraseDups.length != names.length then some none
    else if vs.all (foldedForSure 8) then some none
    else if vs.all (constantsAlone 8) then none
    else some (some names)
def parOk (c : Cs) (is : List Nat) (ts vs : List Expr) (ns : List Str) : Bool :=
  match is, ts, vs with
  | [i, j], [.Name x _, .Name y _], [_, _] => decide (ns = [x, y]) && locs c [i, j] [x, y]
  | [i, j, l], [.Name x _, .Name y _, .Name z _], [_, _, _] => decide (ns = [x, y, z]) && locs c [i, j, l] [x, y, z]
  | _, _, _ => false
mutual
def chkS : I → Cs → Stmt → Bool
  | .asg i e, c, st => (match st with | .Assign [.Name x _] v _ => isTgt c i x && (notComp v || (isLc v && isCmp e)) && chkE e c v | _ => false)
  | .par is as, c, st => (match st with | .Assign [.Tuple ts _ _] (.Tuple vs _ _) _ => decide (refs as = []) && chkTs c is ts && chkA as c vs && (match swD c ts vs with | some none => decide (is.length ≤ 1000) | some (some ns) => parOk c is ts vs ns | none => false) | _ => false)
  | .asgT is e, c, st => (match st with | .Assign [.Tuple ts _ _] v _ => notTup v && notComp v && chkTs c is ts && chkE e c v | _ => false)
  | .ife t a b, c, st => (match st with | .If x y z _ => chkT t c x && chkSs a c y && chkSs b c z | _ => false)
  | .forS g it b, c, st => (match st with | .For tg iter body [] _ => notSet iter && chkG c g tg && chkI it c iter && chkSs b c body | _ => false)
  | .whileS t b, c, st => (match st with | .While x body [] _ => chkT t c x && chkSs b c body | _ => false)
  | .ret e, c, st => (match st with | .Return (some v) _ => chkE e c v | _ => false)
  | .retN, _, st => (match st with | .Return none _ => true | _ => false)
  | .raiseM x, c, st => (match st with | .Raise (some (.Call (.Name y _) [.Constant (.str _) _ _] [] _)) none _ => decide (x = y) && isGl c y && decide (x ∈ c.excs) | _ => false)
  | .raiseI x n e, c, st => (match st with | .Raise (some (.Call (.Name y _) [e1] [] _)) none _ => decide (x = y) && isGl c y && c.rai && decide ((x, n) ∈ c.inis) && notStar e1 && chkE e c e1 | _ => false)
  | .brk, _, st => (match st with | .Break _ => true | _ => false)
  | .cont, _, st => (match st with | .Continue _ => true | _ => false)
  | .pass, _, st => (match st with | .Pass _ => true | _ => false)
  | .expr e, c, st => (match st with | .Expr v _ => notComp v && chkE e c v | _ => false)
  | .app i e, c, st => (match st with | .Expr (.Call (.Attribute (.Name x _) m ap) [v] [] cp) _ => decide (m = "append") && isVar c i x && (ap.endLine == cp.line) && notStar v && chkE e c v | _ => false)
  | .augS i o k e, c, st => (match st with | .AugAssign (.Subscript (.Name x _) y _) op v _ => isVar c i x && notSl y && incOk o op && chkE k c y && chkE e c v | _ => false)
  | .augI i o e, c, st => (match st with | .AugAssign (.Name x _) op v _ => isTgt c i x && incOk o op && chkE e c v | _ => false)
  | .dsetS i k e, c, st => (match st with | .Assign [.Subscript (.Name x _) (.Constant (.str y) _ _) _] v _ => decide (k = y) && isVar c i x && notComp v && chkE e c v | _ => false)
  | .setS i k e, c, st => (match st with | .Assign [.Subscript (.Name x _) y _] v _ => isVar c i x && notSl y && notComp v && chkE k c y && chkE e c v | _ => false)
  | .swapS i e k l, c, st => (match st with
    | .Assign [.Tuple [.Subscript (.Name x _) a _, .Subscript (.Name y _) b _] _ _] (.Tuple vs kt pt) _ => isVar c i x && isVar c i y && notSl a && notSl b && chkE k c a && chkE l c b && chkE e c (.Tuple vs kt pt) && decide (swD c [.Subscript (.Name x ⟨0, 0, 0, 0⟩) a ⟨0, 0, 0, 0⟩, .Subscript (.Name y ⟨0, 0, 0, 0⟩) b ⟨0, 0, 0, 0⟩] vs = some none)
    | _ => false)
  | _, _, _ => false
def chkSs : I → Cs → List Stmt → Bool
  | .snil, _, sts => (match sts with | [] => true | _ => false)
  | .scons s r, c, sts => (match sts with | st :: rest => chkS s c st && chkSs r c rest | _ => false)
  | _, _, _ => false
end
end FW
set_option Elab.async false
set_option linter.all false
set_option maxRecDepth 100000
set_option maxHeartbeats 4000000
namespace FW
open PySem PySem.Spec PyProof.Rows L2
/-- the defs that are known; the frame's own closures -/
structure Fx where
  cn : Str → Con → Prop
  clo : CF
  bod : Nat → I
def okI (F : Fx) : I → Prop
  | .op2 _ a b => okI F a ∧ okI F b
  | .op1 _ a => okI F a
  | .chain _ _ a b c => okI F a ∧ okI F b ∧ okI F c
  | .tup as => okI F as
  | .lst as => okI F as
  | .slc a l h => okI F a ∧ okI F l ∧ okI F h
  | .osome a => okI F a
  | .andv a b => okI F a ∧ okI F b
  | .orv a b => okI F a ∧ okI F b
  | .notv a => okI F a
  | .ite a b c => okI F a ∧ okI F b ∧ okI F c
  | .blt _ as => okI F as
  | .call x c as => F.cn x c ∧ okI F as
  | .callK x c as _ _ => F.cn x c ∧ okI F as
  | .callL _ tab as => (∀ p ∈ tab, F.cn p.1 p.2) ∧ okI F as
  | .revs a => okI F a
  | .caught _ e => okI F e
  | .isX _ _ e => okI F e
  | .mkM _ e => okI F e
  | .mkX _ _ e => okI F e
  | .mkK _ _ e => okI F e
  | .cntT e => okI F e
  | .idxT e => okI F e
  | .ldict e => okI F e
  | .attrX _ e _ => okI F e
  | .raiseI _ _ e => okI F e
  | .lamV f j e => F.clo = f ∧ F.bod j = e ∧ okI F e
  | .caughtV _ f _ tab => F.clo = f ∧ tabOk F.bod 0 tab
  | .compW _ f _ _ _ _ tab => F.clo = f ∧ tabOk F.bod 0 tab
  | .swapS _ e k l => okI F e ∧ okI F k ∧ okI F l
  | .dict _ as => okI F as
  | .dsetS _ _ e => okI F e
  | .comp _ it cond elt => okI F it ∧ okI F cond ∧ okI F elt
  | .acons a r => okI F a ∧ okI F r
  | .aref _ r => okI F r
  | .tand a b => okI F a ∧ okI F b
  | .tor a b => okI F a ∧ okI F b
  | .tnot a => okI F a
  | .tval a => okI F a
  | .tcmp _ a b => okI F a ∧ okI F b
  | .tchain _ _ a b c => okI F a ∧ okI F b ∧ okI F c
  | .iseq a => okI F a
  | .irng1 a => okI F a
  | .irng2 a b => okI F a ∧ okI F b
  | .irev a => okI F a
  | .scons s r => okI F s ∧ okI F r
  | .asg _ e => okI F e
  | .par _ as => okI F as
  | .asgT _ e => okI F e
  | .augI _ _ e => okI F e
  | .augS _ _ k e => okI F k ∧ okI F e
  | .setS _ k e => okI F k ∧ okI F e
  | .app _ e => okI F e
  | .expr e => okI F e
  | .ife c a b => okI F c ∧ okI F a ∧ okI F b
  | .forS _ it b => okI F it ∧ okI F b
  | .whileS c b => okI F c ∧ okI F b
  | .ret e => okI F e
  | _ => True
/-- what the written part says of an own exception class without an __init__ -/
structure ExcOk (K : PySem.W.Frag) (mg : Str → Option Value) (x : Str) : Prop where
  ex : ∃ C, mg x = some (.ref C) ∧ PySem.W.excIn K C [.type "ValueError", .type "Exception", .type "BaseException", .type "object"] "ValueError.__new__" = true ∧ PySem.W.keepIn K (.ref C) = true ∧ PySem.W.subIn K (.ref C) (.type "BaseException") = some true ∧ PySem.W.typeIn K (.ref C) = some (.type "type")
/-- a class that isinstance asks for: an own one, or ValueError -/
def ClsOk (mg : Str → Option Value) (x : Str) (cu : Value) : Prop := (∃ C, cu = .ref C ∧ mg x = some cu) ∨ (x = "ValueError" ∧ cu = .type "ValueError" ∧ mg x = none)
structure Good (G : GC) (F : Fx) (k : Nat) (c : Cs) (X : Cx) : Prop where
  K : G.K = X.K
  mg : G.mg = X.mg
  N : X.N = c.N
  nd : c.N.Nodup
  sc : X.env.scope = c.sc
  fnb : ∀ x, X.fn x = c.fnb x
  calm : X.calm = true
  room : Room (k + c.dp) X.A
  gd : c.gd = true → X.A.guards = some []
  free : ∀ x, x ∈ frees → X.mg x = none
  nums : ∀ x i, (x, i) ∈ c.nums → ∃ t, X.mg x = some (.int i t)
  defs : ∀ x, x ∈ c.defs → ∃ a, X.mg x = some (.ref a)
  excs : ∀ x, x ∈ c.excs → ExcOk X.K X.mg x
  fns : ∀ x cn, F.cn x cn → Fok X.prog X.w X.K X.mg X.base G k x cn
  tab : c.lam = true → ∃ cd P, X.env.code = .ref cd ∧ LamX.TabB X.base X.mg cd P ∧ (P, X.env.qual ++ "<lambda>") ∈ G.tabs ∧ ∀ p ∈ G.tabs, p.1 = P → p.2 = X.env.qual ++ "<lambda>"
  cau : c.lam = true → CauOk X.K X.mg c.cau c.net
  clo : c.lam = true → F.clo = cfOf X G k F.bod
  nets : ∀ n ∈ c.nets, ∃ C, X.mg n = some (.ref C) ∧ ∀ NE, X.mg c.net = some (.ref NE) → PySem.W.exmOne X.K (.ref C) (.ref NE) = some true
  isx : ∀ q ∈ c.isx, ∃ cu, ClsOk X.mg q.1 cu ∧ PySem.W.kitOne X.K (.type "NoneType") cu = some false ∧ ∀ p ∈ q.2, ∃ C, X.mg p.1 = some (.ref C) ∧ ExcC X.K C ∧ PySem.W.kitOne X.K (.ref C) cu = some p.2
  inis : ∀ q ∈ c.inis, ∃ C fI, X.mg q.1 = some (.ref C) ∧ IniC c.fil X.K C fI q.2 ∧ XfC X.K C
  fil : c.rai = true → (X.prog.main.file : Str) = c.fil ∧ (X.prog.main.scope.names.lookup ("super" : Str)).isSome = false
theorem Good.rm {G : GC} {F : Fx} {k : Nat} {c : Cs} {X : Cx} (g : Good G F k c X) : Room k X.A := g.room.mono (Nat.le_add_right _ _)
section
variable {G : GC} {F : Fx} {k : Nat} {c : Cs} {X : Cx}
theorem nameOk_ne {x : Str} (h : nameOk x = true) : (x == ("__debug__" : Str)) = false ∧ (x == ("__classdict__" : Str)) = false ∧ x ≠ "__name__" := by
  unfold nameOk at h
  simp only [Bool.and_eq_true, Bool.not_eq_true', decide_eq_false_iff_not] at h
  exact ⟨beq_eq_false_iff_ne.mpr h.1.1, beq_eq_false_iff_ne.mpr h.1.2, h.2⟩
theorem Good.var (g : Good G F k c X) {i : Nat} {x : Str} {pos : Pos} (h : isVar c i x = true) : PE X (.Name x pos) (tVar i) := by
  unfold isVar at h
  simp only [Bool.and_eq_true, Bool.or_eq_true, decide_eq_true_eq] at h
  obtain ⟨⟨h1, h2⟩, h3⟩ := h
  obtain ⟨n1, n2, _⟩ := nameOk_ne h2
  refine pe_var (by rw [g.N]; exact h1) ?_ n1 n2
  unfold Vis
  rw [g.sc]
  rcases h3 with (h | h) | h
  · exact .inl h
  · exact .inr (.inl h)
  · exact .inr (.inr h)
theorem Good.gl (g : Good G F k c X) {x : Str} (h : isGl c x = true) : Gl X x ∧ (x == ("__debug__" : Str)) = false ∧ x ≠ "__name__" := by
  unfold isGl at h
  simp only [Bool.and_eq_true, decide_eq_true_eq] at h
  obtain ⟨n1, _, n3⟩ := nameOk_ne h.2
  refine ⟨?_, n1, n3⟩
  show X.env.scope.names.lookup x = some .globalImplicit
  rw [g.sc]; exact h.1
theorem Good.tgt (g : Good G F k c X) {i : Nat} {x : Str} {pos : Pos} (h : isTgt c i x = true) : PG X (.Name x pos) (gName i) := by
  unfold isTgt at h
  simp only [Bool.and_eq_true, Bool.or_eq_true, decide_eq_true_eq] at h
  obtain ⟨h1, h2⟩ := h
  refine pg_name (by rw [g.N]; exact g.nd) (by rw [g.N]; exact h1) ?_ ?_
  · unfold L2.Loc
    rw [g.sc]
    rcases h2 with h | h
    · exact .inl h
    · exact .inr h.1
  · rw [g.sc]
    rcases h2 with h | h
    · exact .inr h
    · exact .inl (by rw [g.fnb]; exact h.2)
theorem star_of {e : Expr} {es : List Expr} {env : Env} (h : notStar e = true) : starEach (e :: es) env = (false, eval e env) :: starEach es env := by
  cases e <;> first | rfl | simp [notStar] at h
theorem behind_of {e : Expr} {op : CmpOp} (h : notSet e = true) : behindInMarks op e = false := by
  cases e <;> first | rfl | simp [notSet] at h
theorem folded_of {e : Expr} {env : Env} (h : notSet e = true) (x : Value) : foldedSetIterable e env x = pure x := by
  cases e <;> first | rfl | simp [notSet] at h
theorem plainIx_of {e : Expr} (h : notSl e = true) : PlainIx e := fun o i => by
  cases e <;> first | rfl | simp [notSl] at h
theorem isTrue_of {e : Expr} {env : Env} (h : plainT e = true) (whole : Sem Value) : isTrue e env whole = (do let v ← whole; standAt e.pos; holding [v] (truthy v)) := by
  cases e <;> first | rfl | simp [plainT] at h
theorem swaps_none {e : Expr} {t : Option Expr} {l : Nat} {env : Env} (h : notComp e = true) : swapsWith e t l env = pure false := by
  cases e <;> first | rfl | simp [notComp] at h
theorem so_from {e : Expr} {ia : I} (h : SE X G e ia) (hv : ∀ i, ia = .var i → PE X e (tVar i)) : SO X G e ia := by
  by_cases q : ∃ i, ia = .var i
  · obtain ⟨i, rfl⟩ := q
    exact so_var (hv i rfl)
  · exact so_of h fun i z => q ⟨i, z⟩
theorem Good.varE (g : Good G F k c X) {e : Expr} {ia : I} (h : chkE ia c e = true) : ∀ i, ia = .var i → PE X e (tVar i) := by
  rintro i rfl
  simp only [chkE] at h
  split at h
  · exact g.var h
  · cases h
theorem Good.binR (g : Good G F k c X) {o : Op2} {op : Operator} (h : binO o = some op) (hm : o ≠ .mul) : OpR X (binaryOp op) (r2 G o) := by
  cases o <;> simp only [binO, Option.some.injEq, reduceCtorEq] at h <;> subst h
  · exact opR_add g.K
  · exact opR_sub
  · exact absurd rfl hm
  · exact opR_mod
  · exact opR_fdiv
  · exact opR_pow
  · exact opR_xor
  · exact opR_band
  · exact opR_bor
theorem Good.cmpR (g : Good G F k c X) {o : Op2} {op : CmpOp} (h : cmpO o = some op) : OpR X (compareOp op) (r2 G o) := by
  cases o <;> simp only [cmpO, Option.some.injEq, reduceCtorEq] at h <;> subst h
  · exact opR_eq g.K g.rm.units
  · exact opR_ne g.K g.rm.units
  · exact opR_lt
  · exact opR_le
  · exact opR_gt
  · exact opR_ge
  · exact opR_isN
  · exact opR_notN
  · exact opR_isB
  · exact opR_notB
  · exact opR_isin g.K (by have := g.rm.un; omega)
  · exact opR_notin g.K (by have := g.rm.un; omega)
theorem cmp_mark {o : Op2} {op : CmpOp} {e : Expr} (h : cmpO o = some op) (hy : okIn o e = true) : behindInMarks op e = false := by
  by_cases q : (decide (o = .isin) || decide (o = .notin)) = true
  · unfold okIn at hy
    rw [q] at hy
    exact behind_of hy
  · cases o <;> simp only [cmpO, Option.some.injEq, reduceCtorEq] at h <;> first | (subst h; exact nomark e) | (simp at q)
theorem cmp_marks {o : Op2} {op op1 : CmpOp} {e e1 : Expr} (h : cmpO o = some op) (hy : okIn o e = true) : lastMarks [op1, op] [e1, e] = false := by
  show behindInMarks op e = false
  exact cmp_mark h hy
theorem shL_app {B : Hp} : ∀ {xs ys : List V} {ds es : List D}, ShL G B xs ds → ShL G B ys es → ShL G B (xs ++ ys) (ds ++ es)
  | [], _, [], _, _, h2 => h2
  | _ :: _, _, _ :: _, _, .cons a t, h2 => .cons a (shL_app t h2)
  | [], _, _ :: _, _, h, _ => nomatch h
  | _ :: _, _, [], _, h, _ => nomatch h
theorem shL_rep {B : Hp} {xs : List V} {ds : List D} (h : ShL G B xs ds) : ∀ n : Nat, ShL G B (List.replicate n xs).flatten (List.replicate n ds).flatten
  | 0 => .nil
  | n + 1 => by
    rw [List.replicate_succ, List.replicate_succ, List.flatten_cons, List.flatten_cons]
    exact shL_app h (shL_rep h n)
theorem opR_mul (hK : G.K = X.K) : OpR X (binaryOp .Mult) (r2 G .mul) := by
  intro pins s σ H x y v u Q I rx ry h
  obtain ⟨L, tx, ty, dx, dy, P, r, mx, vx, my, vy, hs, k⟩ := h
  cases dx with
  | int i =>
    cases dy with
    | int j =>
      have e1 := r.int mx vx
      have e2 := r.int my vy
      subst e1 e2
      exact op_mul pins s σ H _ _ v u Q I rx ry ⟨i, j, rfl, rfl, hs.1, k _ _ _ (r.pInt _) hs.2⟩
    | _ => exact hs.elim
  | tup a =>
    cases dy with
    | int j =>
      have e2 := r.int my vy
      subst e2
      obtain ⟨p, xs, rfl, q1, l1, z1⟩ := r.tupV mx vx
      obtain ⟨⟨b1, b2, b3⟩, hp⟩ := hs
      have q2 : SqT X.K H p xs := sqt_of hK q1
      have r' : R G H ((some (.ref p), some (.val (.tup a))) :: L) := by
        cases r.vw mx vx with
        | val z => exact R.pushB z
      by_cases j1 : xs = [] ∨ j = 1
      · refine op_repT1 pins s σ H _ _ v u Q I rx ry ⟨p, j, xs, rfl, rfl, q2, j1, b1, b2, ?_⟩
        have e1 : (List.replicate j.toNat a).flatten = a := by
          rcases j1 with e | e
          · have : a = [] := List.eq_nil_of_length_eq_zero (by rw [← l1, e]; rfl)
            rw [this]; simp
          · rw [e]; simp
        rw [e1] at hp
        exact k _ _ _ r' hp
      · obtain ⟨B, fp, rs, sl⟩ := z1
        have key : ∀ n : Nat, ShL G B (List.replicate n xs).flatten (List.replicate n a).flatten := fun n => shL_rep sl n
        refine op_repT pins s σ H _ _ v u Q I rx ry ⟨p, j, xs, rfl, rfl, q2, fun e => j1 (.inl e), by have : j ≠ 1 := fun e => j1 (.inr e); omega, b2, by rw [l1]; exact b3, fun np hn => ?_⟩
        exact k _ _ _ (R.newT (R.pushLB ⟨B, fp, rs, key _⟩) (key _).length hn) hp
    | _ => exact hs.elim
  | lst a =>
    cases dy with
    | int j =>
      have e2 := r.int my vy
      subst e2
      obtain ⟨p, xs, rfl, q1, l1, z1⟩ := r.lstV mx vx
      obtain ⟨b1, b2, b3, hp⟩ := hs
      have hL : (Lim : Int) = 1000000 := rfl
      refine op_rep pins s σ H _ _ v u Q I rx ry ⟨p, j, xs, rfl, rfl, q1, by rw [hL] at b2; omega, by rw [hL] at b1; omega, lim_line (by rw [l1]; exact b3), fun np hn => ?_⟩
      obtain ⟨B, fp, rs, sl⟩ := z1
      have key : ∀ n : Nat, ShL G B (List.replicate n xs).flatten (List.replicate n a).flatten := by
        have app : ∀ {xs ys : List V} {ds es : List D}, ShL G B xs ds → ShL G B ys es → ShL G B (xs ++ ys) (ds ++ es) := by
          intro xs ys ds es h1 h2
          induction ds generalizing xs with
          | nil => cases h1; exact h2
          | cons d ds ih =>
            cases h1 with
            | cons a t => exact .cons a (ih t)
        intro n
        induction n with
        | zero => exact .nil
        | succ n ih => rw [List.replicate_succ, List.replicate_succ, List.flatten_cons, List.flatten_cons]; exact app sl ih
      exact k _ _ _ (R.newL (R.pushLB ⟨B, fp, rs, key _⟩) (by rw [vals_len]; exact (key _).length) hn) hp
    | _ => exact hs.elim
  | _ => exact hs.elim
theorem Good.binR' (g : Good G F k c X) {o : Op2} {op : Operator} (h : binO o = some op) : OpR X (binaryOp op) (r2 G o) := by
  by_cases hm : o = .mul
  · subst hm
    simp only [binO, Option.some.injEq] at h
    subst h
    exact opR_mul g.K
  · exact g.binR h hm
theorem Good.blk (g : Good G F k c X) {scope : Scope} {s : Shared} {H : Hp} {C : Addr} {cl : List (Str × Addr)} {fp : List Addr} : Good G F k (sub c scope) (X.blk s H scope (compEnvC scope cl C X.env) fp) where
  K := g.K
  mg := g.mg
  N := g.N
  nd := g.nd
  sc := by
    show relabel scope X.env = relS scope c.sc
    rw [← g.sc] <;> rfl
  fnb := fun x => by
    show (scope.names.lookup x == some .cell) = decide (scope.names.lookup x = some .cell)
    rw [Bool.beq_eq_decide_eq]
  calm := g.calm
  room := g.rm
  gd := g.gd
  free := g.free
  nums := g.nums
  defs := g.defs
  excs := g.excs
  fns := g.fns
  tab := fun z => Bool.noConfusion (show false = true from z)
  cau := fun z => Bool.noConfusion (show false = true from z)
  clo := fun z => Bool.noConfusion (show false = true from z)
  nets := g.nets
  isx := g.isx
  inis := g.inis
  fil := fun z => Bool.noConfusion (show false = true from z)
theorem ownOf_snd (c : Cs) (is : List Nat) : (ownOf c is).map (·.2) = is := by
  unfold ownOf
  induction is with
  | nil => rfl
  | cons i is ih => simp [ih]
theorem Good.tgs (g : Good G F k c X) : ∀ {is : List Nat} {es : List Expr}, chkTs c is es = true → PGs X es (gNames is) ∧ (assignEach es X.env).length = is.length ∧ (assignEach es X.env).findIdx? (·.1) = none
  | [], [], _ => ⟨pgs_nil, rfl, rfl⟩
  | i :: is, .Name x p :: es, h => by
    have h : (isTgt c i x && chkTs c is es) = true := h
    rw [Bool.and_eq_true] at h
    obtain ⟨a, b, d⟩ := Good.tgs g h.2
    refine ⟨pgs_cons (g.tgt h.1) a rfl, congrArg (· + 1) b, ?_⟩
    show List.findIdx? (·.1) ((false, assign (.Name x p) X.env) :: assignEach es X.env) = none
    rw [List.findIdx?_cons]
    simp [d]
  | [], _ :: _, h => by simp [chkTs] at h
  | i :: is, [], h => by simp [chkTs] at h
theorem Good.chkG (g : Good G F k c X) {t : I} {e : Expr} (h : chkG c t e = true) : PG X e (tgR X.K t) := by
  match t, e, h with
  | .gname i, .Name x _, h => exact g.tgt h
  | .gtup is, .Tuple es _ _, h =>
    obtain ⟨a, b, d⟩ := g.tgs h
    exact pg_tup g.calm a b d
theorem Good.bltP (g : Good G F k c X) {f : Bf} {e : Expr} {es : List Expr} {p pos : Pos} {ta : TA} (hg : isGl c (bfN f) = true) (ha : PA X (e :: es) ta) (h1 : notStar e = true) (h2 : (backTo pos (starEach es X.env)).any (·.1) = false) (hf : (f = .repr ∨ f = .repA) → X.A.guards = some []) : PE X (.Call (.Name (bfN f) p) (e :: es) [] pos) (tCB (rB G f) ta) := by
  obtain ⟨gl, db, nn⟩ := g.gl hg
  have fr : X.mg (bfN f) = none := g.free _ (by cases f <;> decide)
  cases f with
  | len => exact pe_callB (c_len g.K) gl fr PySem.boot_len ha nn db (star_of h1) h2
  | isi => exact pe_callB (c_isi g.K) gl fr boot_isinstance ha nn db (star_of h1) h2
  | tupl => exact pe_callTy (c_tuple g.K) gl fr (by decide +kernel) ha nn db (star_of h1) h2
  | list => exact pe_callTy (c_list g.K) gl fr (by decide +kernel) ha nn db (star_of h1) h2
  | abs => exact pe_callB c_abs gl fr (by decide +kernel) ha nn db (star_of h1) h2
  | int => exact pe_callTy c_int gl fr (by decide +kernel) ha nn db (star_of h1) h2
  | min2 => exact pe_callB (c_min2 g.calm) gl fr (by decide +kernel) ha nn db (star_of h1) h2
  | max2 => exact pe_callB (c_max2 g.calm) gl fr (by decide +kernel) ha nn db (star_of h1) h2
  | sum => exact pe_callB (c_sum g.calm) gl fr (by decide +kernel) ha nn db (star_of h1) h2
  | all => exact pe_callB (c_all g.calm) gl fr (by decide +kernel) ha nn db (star_of h1) h2
  | minL => exact pe_callB (c_minL g.calm g.K (by have := g.rm.un; omega)) gl fr (by decide +kernel) ha nn db (star_of h1) h2
  | maxL => exact pe_callB (c_maxL g.calm) gl fr (by decide +kernel) ha nn db (star_of h1) h2
  | any => exact pe_callB (c_any g.calm) gl fr (by decide +kernel) ha nn db (star_of h1) h2
  | repr => exact pe_callB (c_repr g.K (hf (.inl rfl)) (by have := g.rm.un; omega)) gl fr (by decide +kernel) ha nn db (star_of h1) h2
  | repA => exact pe_callB (c_repA g.K (hf (.inr rfl)) (by have := g.rm.un; omega)) gl fr (by decide +kernel) ha nn db (star_of h1) h2
theorem noStars {pos : Pos} {env : Env} {es : List Expr} (h : ∀ e ∈ es, notStar e = true) : (backTo pos (starEach es env)).any (·.1) = false := by
  induction es with
  | nil => rfl
  | cons e es ih =>
    rw [star_of (h e List.mem_cons_self)]
    show (backTo pos (starEach es env)).any (·.1) = false
    exact ih fun x hx => h x (List.mem_cons_of_mem _ hx)
theorem chkA_stars : ∀ {a : I} {es : List Expr}, chkA a c es = true → ∀ e ∈ es, notStar e = true := by
  intro a
  induction a with
  | anil =>
    intro es h
    cases es with
    | nil => intro x hx; simp at hx
    | cons e es => simp [chkA] at h
  | acons a r _ ih =>
    intro es h
    cases es with
    | nil => simp [chkA] at h
    | cons e es =>
      simp only [chkA, Bool.and_eq_true] at h
      intro x hx
      rcases List.mem_cons.mp hx with z | z
      · rw [z]; exact h.1.1
      · exact ih h.2 x z
  | aref i r ih =>
    intro es h
    simp only [chkA] at h
    split at h
    · rw [Bool.and_eq_true] at h
      intro x hx
      rcases List.mem_cons.mp hx with z | z
      · rw [z]; rfl
      · exact ih h.2 x z
    · cases h
  | _ => intro es h; simp [chkA] at h
theorem chkOs_stars : ∀ {a : I} {es : List Expr}, chkOs a c es = true → ∀ e ∈ es, notStar e = true := by
  intro a
  induction a with
  | anil =>
    intro es h
    cases es with
    | nil => intro x hx; simp at hx
    | cons e es => simp [chkOs] at h
  | acons a r _ ih =>
    intro es h
    cases es with
    | nil => simp [chkOs] at h
    | cons e es =>
      simp only [chkOs, Bool.and_eq_true] at h
      intro x hx
      rcases List.mem_cons.mp hx with z | z
      · rw [z]; exact h.1.1
      · exact ih h.2 x z
  | _ => intro es h; simp [chkOs] at h
end
end FW
set_option Elab.async false
set_option linter.all false
set_option maxRecDepth 100000
set_option maxHeartbeats 4000000
namespace FW
open PySem PySem.Spec PyProof.Rows L2
section
variable {G : GC} {F : Fx} {k : Nat}
theorem nope {b : Bool} {P : Prop} (h : b = false) (z : b = true) : P := by rw [h] at z; cases z
structure Mot (G : GC) (F : Fx) (k : Nat) (i : I) : Prop where
  E : ∀ {c : Cs} {X : Cx} {e : Expr}, Good G F k c X → okI F i → chkE i c e = true → SE X G e i
  A : ∀ {c : Cs} {X : Cx} {es : List Expr}, Good G F k c X → okI F i → chkA i c es = true → SA X G es i ∧ (refs i = [] → SP' X G es i ∧ (∀ kws : List Keyword, kws.map (·.value) = es → SK X G kws i) ∧ ∀ W, Takes X W → ∀ (ks : List Str) (keys : List (Option Expr)) (pos : Pos), keysOk ks keys = true → es.length = ks.length → PPs X pos keys es (prT G W ks i))
  Os : ∀ {c : Cs} {X : Cx} {es : List Expr}, Good G F k c X → okI F i → chkOs i c es = true → SOs X G es i
  B : ∀ {c : Cs} {X : Cx} {o : Option Expr}, Good G F k c X → okI F i → chkB i c o = true → SB X G o i
  T : ∀ {c : Cs} {X : Cx} {e : Expr}, Good G F k c X → okI F i → chkT i c e = true → STe X G e i ∧ ((∃ op es pos, e = .BoolOp op es pos) → ∀ W, Takes X W → PW X e (TofT G i W))
  It : ∀ {c : Cs} {X : Cx} {tg e : Expr}, Good G F k c X → okI F i → chkI i c e = true → SI X G tg e i
theorem Mot.onE {i : I} (h : ∀ {c : Cs} {X : Cx} {e : Expr}, Good G F k c X → okI F i → chkE i c e = true → SE X G e i)
    (nA : ∀ c es, chkA i c es = false := by intros; rfl) (nO : ∀ c es, chkOs i c es = false := by intros; rfl) (nB : ∀ c o, chkB i c o = false := by intros; rfl) (nT : ∀ c e, chkT i c e = false := by intros; rfl) (nI : ∀ c e, chkI i c e = false := by intros; rfl) : Mot G F k i :=
  ⟨h, fun _ _ z => nope (nA _ _) z, fun _ _ z => nope (nO _ _) z, fun _ _ z => nope (nB _ _) z, fun _ _ z => nope (nT _ _) z, fun _ _ z => nope (nI _ _) z⟩
theorem Mot.onT {i : I} (h : ∀ {c : Cs} {X : Cx} {e : Expr}, Good G F k c X → okI F i → chkT i c e = true → STe X G e i ∧ ((∃ op es pos, e = .BoolOp op es pos) → ∀ W, Takes X W → PW X e (TofT G i W)))
    (nA : ∀ c es, chkA i c es = false := by intros; rfl) (nO : ∀ c es, chkOs i c es = false := by intros; rfl) (nB : ∀ c o, chkB i c o = false := by intros; rfl) (nE : ∀ c e, chkE i c e = false := by intros; rfl) (nI : ∀ c e, chkI i c e = false := by intros; rfl) : Mot G F k i :=
  ⟨fun _ _ z => nope (nE _ _) z, fun _ _ z => nope (nA _ _) z, fun _ _ z => nope (nO _ _) z, fun _ _ z => nope (nB _ _) z, h, fun _ _ z => nope (nI _ _) z⟩
theorem Mot.onI {i : I} (h : ∀ {c : Cs} {X : Cx} {tg e : Expr}, Good G F k c X → okI F i → chkI i c e = true → SI X G tg e i)
    (nA : ∀ c es, chkA i c es = false := by intros; rfl) (nO : ∀ c es, chkOs i c es = false := by intros; rfl) (nB : ∀ c o, chkB i c o = false := by intros; rfl) (nE : ∀ c e, chkE i c e = false := by intros; rfl) (nT : ∀ c e, chkT i c e = false := by intros; rfl) : Mot G F k i :=
  ⟨fun _ _ z => nope (nE _ _) z, fun _ _ z => nope (nA _ _) z, fun _ _ z => nope (nO _ _) z, fun _ _ z => nope (nB _ _) z, fun _ _ z => nope (nT _ _) z, h⟩
theorem Mot.onB {i : I} (h : ∀ {c : Cs} {X : Cx} {o : Option Expr}, Good G F k c X → okI F i → chkB i c o = true → SB X G o i)
    (nA : ∀ c es, chkA i c es = false := by intros; rfl) (nO : ∀ c es, chkOs i c es = false := by intros; rfl) (nE : ∀ c e, chkE i c e = false := by intros; rfl) (nT : ∀ c e, chkT i c e = false := by intros; rfl) (nI : ∀ c e, chkI i c e = false := by intros; rfl) : Mot G F k i :=
  ⟨fun _ _ z => nope (nE _ _) z, fun _ _ z => nope (nA _ _) z, fun _ _ z => nope (nO _ _) z, h, fun _ _ z => nope (nT _ _) z, fun _ _ z => nope (nI _ _) z⟩
theorem Mot.no {i : I} (nE : ∀ c e, chkE i c e = false := by intros; rfl)
    (nA : ∀ c es, chkA i c es = false := by intros; rfl) (nO : ∀ c es, chkOs i c es = false := by intros; rfl) (nB : ∀ c o, chkB i c o = false := by intros; rfl) (nT : ∀ c e, chkT i c e = false := by intros; rfl) (nI : ∀ c e, chkI i c e = false := by intros; rfl) : Mot G F k i :=
  ⟨fun _ _ z => nope (nE _ _) z, fun _ _ z => nope (nA _ _) z, fun _ _ z => nope (nO _ _) z, fun _ _ z => nope (nB _ _) z, fun _ _ z => nope (nT _ _) z, fun _ _ z => nope (nI _ _) z⟩
theorem Mot.SO {i : I} (m : Mot G F k i) {c : Cs} {X : Cx} {e : Expr} (g : Good G F k c X) (o : okI F i) (h : chkE i c e = true) : SO X G e i := so_from (m.E g o h) (g.varE h)
theorem mot_con (d : D) : Mot G F k (.con d) := .onE fun g _ h => by
  simp only [chkE] at h
  split at h
  · exact snd_const pe_non fun B => .non
  · rw [beq_iff_eq] at h; subst h; exact snd_const pe_bl fun B => .bl _
  · rw [decide_eq_true_eq] at h; subst h; exact snd_const pe_int fun B => .int _
  · rw [decide_eq_true_eq] at h; subst h; exact snd_const pe_str fun B => .str _
  · rw [Bool.and_eq_true] at h
    obtain ⟨gl, db, nn⟩ := g.gl h.2
    have h1 := h.1
    unfold tyOk at h1
    simp only [Bool.or_eq_true, Bool.and_eq_true, decide_eq_true_eq] at h1
    rcases h1 with (((⟨rfl, rfl⟩ | ⟨rfl, rfl⟩) | ⟨rfl, rfl⟩) | ⟨rfl, rfl⟩) | ⟨rfl, rfl⟩ <;>
      first
        | exact snd_const (v := .ty "int") (pe_bltn (u := .type "int") gl (g.free _ (by decide)) (by decide +kernel) rfl nn db) fun B => .ty _
        | exact snd_const (v := .ty "bool") (pe_bltn (u := .type "bool") gl (g.free _ (by decide)) (by decide +kernel) rfl nn db) fun B => .ty _
        | exact snd_const (v := .ty "str") (pe_bltn (u := .type "str") gl (g.free _ (by decide)) (by decide +kernel) rfl nn db) fun B => .ty _
        | exact snd_const (v := .ty "tuple") (pe_bltn (u := .type "tuple") gl (g.free _ (by decide)) (by decide +kernel) rfl nn db) fun B => .ty _
        | exact snd_const (v := .ty "list") (pe_bltn (u := .type "list") gl (g.free _ (by decide)) (by decide +kernel) rfl nn db) fun B => .ty _
  · cases h
theorem mot_var (i : Nat) : Mot G F k (.var i) := .onE fun {c X e} g _ h => by
  simp only [chkE] at h
  split at h
  · exact snd_var (g.var h)
  · cases h
theorem mot_mv (i : Nat) : Mot G F k (.mv i) := .onE fun {c X e} g _ h => by
  simp only [chkE] at h
  split at h
  · exact snd_mv (g.var h)
  · cases h
theorem mot_glob (x : Str) (i : Int) : Mot G F k (.glob x i) := .onE fun {c X e} g _ h => by
  simp only [chkE] at h
  split at h
  · simp only [Bool.and_eq_true, decide_eq_true_eq] at h
    obtain ⟨⟨rfl, h2⟩, h3⟩ := h
    obtain ⟨gl, db, nn⟩ := g.gl h2
    obtain ⟨t, ht⟩ := g.nums _ _ h3
    exact snd_glob (pe_glob gl ht ⟨t, rfl⟩ db)
  · cases h
theorem mot_fnv (x : Str) : Mot G F k (.fnv x) := .onE fun {c X e} g _ h => by
  simp only [chkE] at h
  split at h
  · simp only [Bool.and_eq_true, decide_eq_true_eq] at h
    obtain ⟨⟨rfl, h2⟩, h3⟩ := h
    obtain ⟨gl, db, nn⟩ := g.gl h2
    obtain ⟨a, ha⟩ := g.defs _ h3
    exact snd_fnv (by rw [g.mg]; exact ha) (pe_glob gl ha rfl db)
  · cases h
theorem mot_op2 {o : Op2} {a b : I} (ma : Mot G F k a) (mb : Mot G F k b) : Mot G F k (.op2 o a b) := .onE fun {c X e} g q h => by
  obtain ⟨qa, qb⟩ : okI F a ∧ okI F b := q
  simp only [chkE] at h
  split at h
  · simp only [Bool.and_eq_true, decide_eq_true_eq] at h
    exact snd_op2 (ma.SO g qa h.1.2) (mb.SO g qb h.2) fun ta tb p1 p2 => pe_op (g.binR' h.1.1) p1 p2
  · simp only [Bool.and_eq_true, decide_eq_true_eq] at h
    exact snd_op2 (ma.SO g qa h.1.2) (mb.SO g qb h.2) fun ta tb p1 p2 => pe_cmpR (g.cmpR h.1.1.1) p1 p2 (cmp_mark h.1.1.1 h.1.1.2)
  · simp only [Bool.and_eq_true, decide_eq_true_eq] at h
    obtain ⟨⟨⟨rfl, h1⟩, h2⟩, h3⟩ := h
    exact snd_op2 (ma.SO g qa h2) (mb.SO g qb h3) fun ta tb p1 p2 => pe_ix (ixR_idx g.K) p1 p2 (plainIx_of h1)
  · cases h
theorem mot_tup {a : I} (ma : Mot G F k a) : Mot G F k (.tup a) := .onE fun {c X e} g q h => by
  simp only [chkE] at h
  split at h
  · simp only [Bool.and_eq_true, decide_eq_true_eq] at h
    exact snd_tup h.1 (ma.A g q h.2).1 fun ta p => pe_tup p
  · cases h
theorem mot_lst {a : I} (ma : Mot G F k a) : Mot G F k (.lst a) := .onE fun {c X e} g q h => by
  simp only [chkE] at h
  split at h
  · simp only [Bool.and_eq_true, decide_eq_true_eq] at h
    exact snd_lst h.1 (ma.A g q h.2).1 fun ta p => pe_lst p
  · cases h
theorem mot_chain {o o' : Op2} {a b d : I} (ma : Mot G F k a) (mb : Mot G F k b) (md : Mot G F k d) : Mot G F k (.chain o o' a b d) := .onE fun {c X e} g q h => by
  obtain ⟨qa, qb, qd⟩ : okI F a ∧ okI F b ∧ okI F d := q
  simp only [chkE] at h
  split at h
  · simp only [Bool.and_eq_true, decide_eq_true_eq] at h
    obtain ⟨⟨⟨⟨⟨h1, h2⟩, hy⟩, h3⟩, h4⟩, h5⟩ := h
    exact snd_chain (ma.SO g qa h3) (mb.SO g qb h4) (md.SO g qd h5) fun ta tb tc p1 p2 p3 => pe_chain (g.cmpR h1) (g.cmpR h2) p1 p2 p3 (cmp_marks h2 hy)
  · cases h
theorem mot_slc {a l u : I} (ma : Mot G F k a) (ml : Mot G F k l) (mu : Mot G F k u) : Mot G F k (.slc a l u) := .onE fun {c X e} g q h => by
  obtain ⟨qa, qb, qd⟩ : okI F a ∧ okI F l ∧ okI F u := q
  simp only [chkE] at h
  split at h
  · simp only [Bool.and_eq_true] at h
    exact snd_slc (ma.SO g qa h.1.1) (ml.B g qb h.1.2) (mu.B g qd h.2) fun ta tl th p1 p2 p3 => pe_slice (slR_all g.K) p1 p2 p3
  · cases h
theorem mot_andv {a b : I} (ma : Mot G F k a) (mb : Mot G F k b) : Mot G F k (.andv a b) := .onE fun {c X e} g q h => by
  obtain ⟨qa, qb⟩ : okI F a ∧ okI F b := q
  simp only [chkE] at h
  split at h
  · rename_i x y r pos
    rw [Bool.and_eq_true] at h
    obtain ⟨h1, h2⟩ := h
    cases r with
    | nil => exact snd_and (ma.E g qa h1) (mb.E g qb h2) fun ta tb p1 p2 => pe_and p1 (pe_one p2)
    | cons z r => exact snd_and (ma.E g qa h1) (mb.E g qb h2) fun ta tb p1 p2 => pe_and p1 p2
  · cases h
theorem mot_orv {a b : I} (ma : Mot G F k a) (mb : Mot G F k b) : Mot G F k (.orv a b) := .onE fun {c X e} g q h => by
  obtain ⟨qa, qb⟩ : okI F a ∧ okI F b := q
  simp only [chkE] at h
  split at h
  · rename_i x y r pos
    rw [Bool.and_eq_true] at h
    obtain ⟨h1, h2⟩ := h
    cases r with
    | nil => exact snd_or (ma.E g qa h1) (mb.E g qb h2) fun ta tb p1 p2 => pe_or p1 (pe_one p2)
    | cons z r => exact snd_or (ma.E g qa h1) (mb.E g qb h2) fun ta tb p1 p2 => pe_or p1 p2
  · cases h
theorem mot_notv {a : I} (ma : Mot G F k a) : Mot G F k (.notv a) := .onE fun {c X e} g q h => by
  simp only [chkE] at h
  split at h
  · exact snd_not (ma.E g q h) fun ta p => pe_not p
  · cases h
theorem mot_ite {d a b : I} (md : Mot G F k d) (ma : Mot G F k a) (mb : Mot G F k b) : Mot G F k (.ite d a b) := .onE fun {c X e} g q h => by
  obtain ⟨qd, qa, qb⟩ : okI F d ∧ okI F a ∧ okI F b := q
  simp only [chkE] at h
  split at h
  · simp only [Bool.and_eq_true] at h
    exact snd_ite (md.T g qd h.1.1).1 (ma.E g qa h.1.2) (mb.E g qb h.2) fun tc ta tb p1 p2 p3 => pe_ifExp p1 p2 p3
  · cases h
theorem mot_blt {f : Bf} {a : I} (ma : Mot G F k a) : Mot G F k (.blt f a) := .onE fun {c X e} g q h => by
  simp only [chkE] at h
  split at h
  · simp only [Bool.and_eq_true, decide_eq_true_eq] at h
    obtain ⟨⟨⟨rfl, h2⟩, h3⟩, h4⟩ := h
    have h3 : (f = .repr ∨ f = .repA) → X.A.guards = some [] := fun z => by rcases z with z | z <;> subst z <;> exact g.gd (by simpa using h3)
    have st := chkOs_stars h4
    exact snd_blt (ma.Os g q h4) fun ta p => g.bltP h2 p (st _ List.mem_cons_self) (noStars fun e he => st e (List.mem_cons_of_mem _ he)) h3
  · cases h
theorem mot_call {x : Str} {cn : Con} {a : I} (ma : Mot G F k a) : Mot G F k (.call x cn a) := .onE fun {c X e} g q h => by
  obtain ⟨qx, qa⟩ : F.cn x cn ∧ okI F a := q
  simp only [chkE] at h
  split at h
  · simp only [Bool.and_eq_true, decide_eq_true_eq] at h
    obtain ⟨⟨⟨⟨rfl, h2⟩, h3⟩, h5⟩, h4⟩ := h
    have hgd : cn.gd = true → X.A.guards = some [] := fun z => g.gd (by simpa [z] using h5)
    have st := chkA_stars h4
    obtain ⟨gl, db, nn⟩ := g.gl h2
    refine snd_call (g.fns _ _ qx) g.rm hgd h3 (ma.A g qa h4).1 rfl gl db ⟨_, _, rfl⟩ (fun a r e => ?_) (fun a r e => ?_)
    · cases e; exact star_of (st _ List.mem_cons_self)
    · cases e; exact noStars fun e he => st e (List.mem_cons_of_mem _ he)
  · cases h
theorem mot_pop {i : Nat} : Mot G F k (.pop i) := .onE fun {c X e} g q h => by
  simp only [chkE] at h
  split at h
  · simp only [Bool.and_eq_true, decide_eq_true_eq] at h
    obtain ⟨⟨rfl, h2⟩, h3⟩ := h
    exact snd_pop (g.var h2) fun ta p => pe_bm0 PySem.F.plainAttrs_list PySem.F.slot_list_pop PySem.F.type_list_pop mt_pop p rfl h3
  · cases h
theorem mot_comp {gg it cond elt : I} (mi : Mot G F k it) (mc : Mot G F k cond) (me : Mot G F k elt) : Mot G F k (.comp gg it cond elt) := .onE fun {c X e} g q h => by
  obtain ⟨qi, qc, qe⟩ : okI F it ∧ okI F cond ∧ okI F elt := q
  simp only [chkE] at h
  split at h
  · rename_i e tg iter ifs scope pos
    simp only [Bool.and_eq_true] at h
    obtain ⟨⟨⟨⟨⟨h1, h2⟩, h3⟩, h4⟩, h5⟩, h6⟩ := h
    refine snd_comp g.K g.calm (by rw [g.N]; exact g.nd) (mi.It g qi h4) (own := ownOf c (tgs gg)) (by rw [g.N, g.sc]; exact blkOk_by h1) (ownOf_snd c _) (fun s H C cl fp => (g.blk (s := s) (H := H) (C := C) (cl := cl) (fp := fp)).chkG h3) (fun s H C cl fp => ?_) (fun s H C cl fp => me.E g.blk qe h6) (fun x => folded_of h2 x)
    split at h5
    · have : cond = .tt := by cases cond <;> first | rfl | cases h5
      subst this
      exact sc_none
    · exact sc_one (mc.T g.blk qc h5).1
    · cases h5
  · cases h
/-! arguments, operands -/
theorem Mot.onA {i : I} (h : ∀ {c : Cs} {X : Cx} {es : List Expr}, Good G F k c X → okI F i → chkA i c es = true → SA X G es i ∧ (refs i = [] → SP' X G es i ∧ (∀ kws : List Keyword, kws.map (·.value) = es → SK X G kws i) ∧ ∀ W, Takes X W → ∀ (ks : List Str) (keys : List (Option Expr)) (pos : Pos), keysOk ks keys = true → es.length = ks.length → PPs X pos keys es (prT G W ks i)))
    (hO : ∀ {c : Cs} {X : Cx} {es : List Expr}, Good G F k c X → okI F i → chkOs i c es = true → SOs X G es i)
    (nE : ∀ c e, chkE i c e = false := by intros; rfl) (nB : ∀ c o, chkB i c o = false := by intros; rfl) (nT : ∀ c e, chkT i c e = false := by intros; rfl) (nI : ∀ c e, chkI i c e = false := by intros; rfl) : Mot G F k i :=
  ⟨fun _ _ z => nope (nE _ _) z, h, hO, fun _ _ z => nope (nB _ _) z, fun _ _ z => nope (nT _ _) z, fun _ _ z => nope (nI _ _) z⟩
theorem mot_anil : Mot G F k .anil := .onA (fun {c X es} g q h => by
    cases es with
    | nil =>
      refine ⟨sa_nil, fun _ => ⟨sp_nil, fun kws hk => ?_, fun W tk ks keys pos hk hl => ?_⟩⟩
      · cases kws with
        | nil => exact sk_nil
        | cons _ _ => cases hk
      · cases ks with
        | nil =>
          cases keys with
          | nil => exact pps_nil
          | cons _ _ => simp [keysOk] at hk
        | cons _ _ => simp at hl
    | cons e es => simp [chkA] at h) (fun {c X es} g q h => by
    cases es with
    | nil => exact sos_nil
    | cons e es => simp [chkOs] at h)
theorem mot_acons {a r : I} (ma : Mot G F k a) (mr : Mot G F k r) : Mot G F k (.acons a r) := .onA (fun {c X es} g q h => by
    obtain ⟨qa, qr⟩ : okI F a ∧ okI F r := q
    cases es with
    | nil => simp [chkA] at h
    | cons e es =>
      simp only [chkA, Bool.and_eq_true] at h
      refine ⟨sa_cons (ma.E g qa h.1.2) (mr.A g qr h.2).1 (star_of h.1.1), fun z => ⟨sp_cons (ma.E g qa h.1.2) ((mr.A g qr h.2).2 z).1 (star_of h.1.1), fun kws hk => ?_, fun W tk ks keys pos hk hl => ?_⟩⟩
      · cases kws with
        | nil => cases hk
        | cons kw kws =>
          obtain ⟨nm, v, kp⟩ := kw
          injection hk with k1 k2
          have k1 : v = e := k1
          subst k1
          exact sk_cons (ma.E g qa h.1.2) (((mr.A g qr h.2).2 z).2.1 kws k2)
      · cases ks with
        | nil => simp at hl
        | cons y ks =>
          obtain ⟨_, _, r, rfl, hk2⟩ := keysOk_cons hk
          exact pps_cons pe_str (ma.E g qa h.1.2 W tk) (((mr.A g qr h.2).2 z).2.2 W tk _ _ pos hk2 (Nat.succ.inj hl))) (fun {c X es} g q h => by
    obtain ⟨qa, qr⟩ : okI F a ∧ okI F r := q
    cases es with
    | nil => simp [chkOs] at h
    | cons e es =>
      simp only [chkOs, Bool.and_eq_true] at h
      exact sos_cons (ma.SO g qa h.1.2) (mr.Os g qr h.2) (star_of h.1.1))
theorem mot_aref {i : Nat} {r : I} (mr : Mot G F k r) : Mot G F k (.aref i r) := .onA (fun {c X es} g q h => by
    simp only [chkA] at h
    split at h
    · rw [Bool.and_eq_true] at h
      exact ⟨sa_ref (g.var h.1) (mr.A g q h.2).1 (star_of (e := Expr.Name _ _) rfl), fun z => by simp [refs] at z⟩
    · cases h) (fun {c X es} g q h => by simp [chkOs] at h)
theorem mot_onone : Mot G F k .onone := .onB fun {c X o} g q h => by
  cases o with
  | none => exact sb_none
  | some e => cases h
theorem mot_osome {a : I} (ma : Mot G F k a) : Mot G F k (.osome a) := .onB fun {c X o} g q h => by
  cases o with
  | none => cases h
  | some e => exact sb_some (ma.E g q h)
/-! tests -/
theorem noBool {e : Expr} (h : plainT e = true) : ¬ ∃ op es pos, e = .BoolOp op es pos := by
  rintro ⟨op, es, pos, rfl⟩
  cases h
theorem mot_tt : Mot G F k .tt := .no
theorem mot_tnot {a : I} (ma : Mot G F k a) : Mot G F k (.tnot a) := .onT fun {c X e} g q h => by
  simp only [chkT] at h
  split at h
  · exact ⟨snd_tnot (ma.T g q h).1 fun ta p => pt_not p, fun ⟨_, _, _, z⟩ => by cases z⟩
  · cases h
theorem PW_to {X : Cx} {e : Expr} {t t' : TT} (h : PW X e t) (k : ∀ σ H Q, t' σ H Q → t σ H Q) : PW X e t' := ⟨fun wh pins s σ H Q I q => h.run wh pins s σ H Q I (k σ H Q q)⟩
theorem tand_read {ia ib : I} {W : WX} (σ : L2.St) (H : Hp) (Q : Bool → Hp → Prop) : TofT G (.tand ia ib) W σ H Q → tAnd (TofT G ia W) (TofT G ib W) σ H Q := fun ⟨env, L, Pn, Pe, hl, r, w, k, x⟩ => by
  refine ⟨env, L, _, Pe, hl, r, w, fun q H1 e1 hl1 r1 w1 => ?_, x⟩
  cases q with
  | true =>
    rw [if_pos rfl] at w1 ⊢
    exact ⟨e1, L, _, Pe, hl1, r1, w1, k, x⟩
  | false =>
    rw [if_neg Bool.false_ne_true] at w1 ⊢
    exact k _ H1 e1 hl1 r1 w1
theorem tor_read {ia ib : I} {W : WX} (σ : L2.St) (H : Hp) (Q : Bool → Hp → Prop) : TofT G (.tor ia ib) W σ H Q → tOr (TofT G ia W) (TofT G ib W) σ H Q := fun ⟨env, L, Pn, Pe, hl, r, w, k, x⟩ => by
  refine ⟨env, L, _, Pe, hl, r, w, fun q H1 e1 hl1 r1 w1 => ?_, x⟩
  cases q with
  | true =>
    rw [if_pos rfl] at w1 ⊢
    exact k _ H1 e1 hl1 r1 w1
  | false =>
    rw [if_neg Bool.false_ne_true] at w1 ⊢
    exact ⟨e1, L, _, Pe, hl1, r1, w1, k, x⟩
theorem mot_tand {a b : I} (ma : Mot G F k a) (mb : Mot G F k b) : Mot G F k (.tand a b) := .onT fun {c X e} g q h => by
  obtain ⟨qa, qb⟩ : okI F a ∧ okI F b := q
  simp only [chkT] at h
  split at h
  · rename_i x y r pos
    rw [Bool.and_eq_true] at h
    obtain ⟨h1, h2⟩ := h
    have key : ∀ W, Takes X W → PW X (.BoolOp .And (x :: y :: r) pos) (TofT G (.tand a b) W) := fun W tk => by
      cases r with
      | nil => exact PW_to (pw_and ((ma.T g qa h1).1 W tk) (pw_and1 ((mb.T g qb h2).1 W tk))) tand_read
      | cons z r => exact PW_to (pw_and ((ma.T g qa h1).1 W tk) ((mb.T g qb h2).2 ⟨_, _, _, rfl⟩ W tk)) tand_read
    exact ⟨fun W tk => (key W tk).pt, fun _ => key⟩
  · cases h
theorem mot_tor {a b : I} (ma : Mot G F k a) (mb : Mot G F k b) : Mot G F k (.tor a b) := .onT fun {c X e} g q h => by
  obtain ⟨qa, qb⟩ : okI F a ∧ okI F b := q
  simp only [chkT] at h
  split at h
  · rename_i x y r pos
    rw [Bool.and_eq_true] at h
    obtain ⟨h1, h2⟩ := h
    have key : ∀ W, Takes X W → PW X (.BoolOp .Or (x :: y :: r) pos) (TofT G (.tor a b) W) := fun W tk => by
      cases r with
      | nil => exact PW_to (pw_or ((ma.T g qa h1).1 W tk) (pw_or1 ((mb.T g qb h2).1 W tk))) tor_read
      | cons z r => exact PW_to (pw_or ((ma.T g qa h1).1 W tk) ((mb.T g qb h2).2 ⟨_, _, _, rfl⟩ W tk)) tor_read
    exact ⟨fun W tk => (key W tk).pt, fun _ => key⟩
  · cases h
theorem mot_tcmp {o : Op2} {a b : I} (ma : Mot G F k a) (mb : Mot G F k b) : Mot G F k (.tcmp o a b) := .onT fun {c X e} g q h => by
  obtain ⟨qa, qb⟩ : okI F a ∧ okI F b := q
  simp only [chkT] at h
  split at h
  · simp only [Bool.and_eq_true, decide_eq_true_eq] at h
    exact ⟨snd_tcmp (ma.SO g qa h.1.2) (mb.SO g qb h.2) fun ta tb p1 p2 => pt_cmpR (g.cmpR h.1.1.1) p1 p2 (cmp_mark h.1.1.1 h.1.1.2), fun ⟨_, _, _, z⟩ => by cases z⟩
  · cases h
theorem mot_tchain {o o' : Op2} {a b d : I} (ma : Mot G F k a) (mb : Mot G F k b) (md : Mot G F k d) : Mot G F k (.tchain o o' a b d) := .onT fun {c X e} g q h => by
  obtain ⟨qa, qb, qd⟩ : okI F a ∧ okI F b ∧ okI F d := q
  simp only [chkT] at h
  split at h
  · simp only [Bool.and_eq_true, decide_eq_true_eq] at h
    obtain ⟨⟨⟨⟨⟨h1, h2⟩, hy⟩, h3⟩, h4⟩, h5⟩ := h
    exact ⟨snd_tchain (ma.SO g qa h3) (mb.SO g qb h4) (md.SO g qd h5) fun ta tb tc p1 p2 p3 => pt_chain (g.cmpR h1) (g.cmpR h2) p1 p2 p3 (cmp_marks h2 hy), fun ⟨_, _, _, z⟩ => by cases z⟩
  · cases h
theorem pt_tru {X : Cx} {e : Expr} {ta : TE} (hp : plainT e = true) (h : PE X e ta) : PT X e (fun σ H Q => ta σ H fun x H1 => ∃ k, TruV X.K x H1 k ∧ Q k H1) := by
  refine ⟨fun pins s σ H Q I hw => ?_⟩
  refine isTrue_plain (thn (h.run pins s σ H _ I hw) fun v s1 ⟨x, H1, I1, r1, q, tv, q1⟩ => ?_) (isTrue_of hp _)
  exact tru_ok pins s1 _ H1 x v Q I1 r1 ⟨q, tv, q1⟩
theorem mot_tval {a : I} (ma : Mot G F k a) : Mot G F k (.tval a) := .onT fun {c X e} g q h => by
  have h : (plainT e && chkE a c e) = true := h
  rw [Bool.and_eq_true] at h
  exact ⟨snd_tval g.K (ma.SO g q h.2) fun ta p => pt_tru h.1 p, fun z => (noBool h.1 z).elim⟩
/-! what is walked -/
theorem mot_iseq {a : I} (ma : Mot G F k a) : Mot G F k (.iseq a) := .onI fun {c X tg e} g q h => si_seq g.K (ma.SO g q h)
theorem mot_irng1 {a : I} (ma : Mot G F k a) : Mot G F k (.irng1 a) := .onI fun {c X tg e} g q h => by
  simp only [chkI] at h
  split at h <;> first | cases h | skip
  simp only [Bool.and_eq_true, decide_eq_true_eq] at h
  obtain ⟨⟨⟨rfl, h2⟩, h3⟩, h4⟩ := h
  exact si_rng1 (ma.E g q h4) (star_of h3) fun ta p => pi_range1 (g.gl h2).1 (g.free _ (by decide)) p (star_of h3)
theorem mot_irng2 {a b : I} (ma : Mot G F k a) (mb : Mot G F k b) : Mot G F k (.irng2 a b) := .onI fun {c X tg e} g q h => by
  obtain ⟨qa, qb⟩ : okI F a ∧ okI F b := q
  simp only [chkI] at h
  split at h <;> first | cases h | skip
  simp only [Bool.and_eq_true, decide_eq_true_eq] at h
  obtain ⟨⟨⟨⟨⟨rfl, h2⟩, h3⟩, h3'⟩, h4⟩, h5⟩ := h
  exact si_rng2 (ma.E g qa h4) (mb.E g qb h5) (star_of h3) (star_of h3') fun ta p => pi_range2 (g.gl h2).1 (g.free _ (by decide)) p (by rw [star_of h3, star_of h3']; rfl) (star_of h3')
theorem mot_irev {a : I} (ma : Mot G F k a) : Mot G F k (.irev a) := .onI fun {c X tg e} g q h => by
  simp only [chkI] at h
  split at h <;> first | cases h | skip
  simp only [Bool.and_eq_true, decide_eq_true_eq] at h
  obtain ⟨⟨⟨rfl, h2⟩, h3⟩, h4⟩ := h
  exact si_rev g.K (ma.SO g q h4) fun ta p => RT.pi_revA (g.gl h2).1 (g.free _ (by decide)) p (star_of h3)
theorem snd_op1 {X : Cx} {e a : Expr} {ia : I} {o : Op1} (ha : SO X G a ia) (hp : ∀ ta, PE X a ta → PE X e (tUn (rU fun i => .int (-i)) ta)) : SE X G e (.op1 o ia) := fun W tk =>
  PE_to (hp _ (ha W tk)) fun σ H Q ⟨env, L, Pn, Pe, hl, r, w, k, x⟩ => by
    refine ⟨env, L, _, Pe, hl, r, w, fun v1 H1 k1 e1 hl1 t1 w1 => ?_, x⟩
    obtain ⟨d, vd, hs⟩ := w1
    obtain ⟨t, m, et⟩ := t1.isIn.mem hl1 t1.r vd
    cases o with
    | neg =>
      cases d with
      | int i =>
        have := t1.r.int m et
        subst this
        exact ⟨i, rfl, k _ H1 _ e1 hl1 ((R.cut t1.r).pInt _) hs⟩
      | _ => exact hs.elim
theorem mot_op1 {o : Op1} {a : I} (ma : Mot G F k a) : Mot G F k (.op1 o a) := .onE fun {c X e} g q h => by
  simp only [chkE] at h
  split at h
  · simp only [Bool.and_eq_true, decide_eq_true_eq] at h
    obtain ⟨rfl, h2⟩ := h
    exact snd_op1 (ma.SO g q h2) fun ta p => pe_un un_neg p
  · cases h
theorem mot_revs {a : I} (ma : Mot G F k a) : Mot G F k (.revs a) := .onE fun {c X e} g q h => by
  simp only [chkE] at h
  split at h
  · exact snd_revs g.K (ma.SO g q h) fun ta p => pe_rev p
  · cases h
theorem mot_dict {ks : List Str} {a : I} (ma : Mot G F k a) : Mot G F k (.dict ks a) := .onE fun {c X e} g q h => by
  simp only [chkE] at h
  split at h
  · rename_i keys values pos
    simp only [Bool.and_eq_true, decide_eq_true_eq] at h
    obtain ⟨⟨⟨⟨⟨⟨h1, h2⟩, h3⟩, h4⟩, h5⟩, h6⟩, h7⟩ := h
    cases ks with
    | nil =>
      cases keys with
      | cons _ _ => simp [keysOk] at h1
      | nil =>
        cases values with
        | cons _ _ => simp at h7
        | nil =>
          cases a <;> first | (simp [chkA] at h6; done) | skip
          exact snd_dict0 pe_dnewK
    | cons y ks =>
      have hl : keys.length = values.length ∧ keys.all (·.isSome) = true ∧ keys ≠ [] := by
        have key : ∀ (ks : List Str) (keys : List (Option Expr)), keysOk ks keys = true → keys.length = ks.length ∧ keys.all (·.isSome) = true := by
          intro ks
          induction ks with
          | nil =>
            intro keys hk
            cases keys with
            | nil => exact ⟨rfl, rfl⟩
            | cons _ _ => simp [keysOk] at hk
          | cons y ks ih =>
            intro keys hk
            obtain ⟨_, _, r, rfl, hk2⟩ := keysOk_cons hk
            obtain ⟨a, b⟩ := ih _ hk2
            exact ⟨congrArg (· + 1) a, by rw [List.all_cons, b]; rfl⟩
        obtain ⟨a, b⟩ := key _ _ h1
        exact ⟨a.trans h7.symm, b, fun z => by rw [z] at a; simp at a⟩
      exact snd_dict h2 h3 h5 h4 fun W tk => pe_disp (((ma.A g q h6).2 h4).2.2 W tk _ _ pos h1 h7) hl.2.1 hl.1 hl.2.2 (by rw [hl.1, h7]; exact h3)
  · cases h
theorem mot_dgetI {i : Nat} {y : Str} : Mot G F k (.dgetI i y) := .onE fun {c X e} g q h => by
  simp only [chkE] at h
  split at h
  · simp only [Bool.and_eq_true, decide_eq_true_eq] at h
    obtain ⟨rfl, h2⟩ := h
    exact snd_dgetI (g.var h2) fun to p => pe_dget (by have := g.rm.un; omega) p pe_str fun _ _ => rfl
  · cases h
theorem mot_dpop0 {i : Nat} {y : Str} : Mot G F k (.dpop0 i y) := .onE fun {c X e} g q h => by
  simp only [chkE] at h
  split at h
  · simp only [Bool.and_eq_true, decide_eq_true_eq] at h
    obtain ⟨⟨⟨rfl, rfl⟩, h2⟩, h3⟩ := h
    exact snd_dpop0 (g.var h2) fun to p => pe_bm PySem.F.plainAttrs_list PySem.F.slot_list_pop PySem.F.type_list_pop mt_popAt (pe_dget (by have := g.rm.un; omega) p pe_str fun _ _ => rfl) (pa_cons pe_int pa_nil) rfl rfl h3
  · cases h
theorem mot_tdne {i : Nat} {y : Str} : Mot G F k (.tdne i y) := .onT fun {c X e} g q h => by
  simp only [chkT] at h
  split at h
  · simp only [Bool.and_eq_true, decide_eq_true_eq] at h
    obtain ⟨rfl, h2⟩ := h
    exact ⟨ste_tdne g.K (g.var h2) fun to p => pt_cmpR (op_neD g.rm.units) (pe_dget (by have := g.rm.un; omega) p pe_str fun _ _ => rfl) (pe_lst pa_nil) (nomark _), fun ⟨_, _, _, z⟩ => by cases z⟩
  · cases h
theorem mot_callK {x : Str} {cn : Con} {a : I} {ks : List Str} {pm : List Nat} (ma : Mot G F k a) : Mot G F k (.callK x cn a ks pm) := .onE fun {c X e} g q h => by
  obtain ⟨qx, qa⟩ : F.cn x cn ∧ okI F a := q
  simp only [chkE] at h
  split at h
  · simp only [Bool.and_eq_true, decide_eq_true_eq, List.all_eq_true, Bool.not_eq_true'] at h
    obtain ⟨⟨⟨⟨⟨⟨⟨⟨rfl, h2⟩, h3⟩, h4⟩, h5⟩, h6⟩, h7⟩, h8⟩, h9⟩ := h
    obtain ⟨gl, db, nn⟩ := g.gl h2
    exact snd_callK (g.fns _ _ qx) g.rm (fun z => g.gd (by simpa [z] using h3)) h4 h5 h6 h7 (((ma.A g qa h9).2 h6).2.1 _ rfl) rfl h8 gl db
  · cases h
theorem mot_callL {i : Nat} {tab : List (Str × Con)} {a : I} (ma : Mot G F k a) : Mot G F k (.callL i tab a) := .onE fun {c X e} g q h => by
  obtain ⟨qx, qa⟩ : (∀ p ∈ tab, F.cn p.1 p.2) ∧ okI F a := q
  simp only [chkE] at h
  split at h
  · simp only [Bool.and_eq_true, decide_eq_true_eq, List.all_eq_true] at h
    obtain ⟨⟨⟨h1, h2⟩, h3⟩, h4⟩ := h
    have st := chkA_stars h4
    refine snd_callL g.mg (fun p hp => g.fns _ _ (qx p hp)) g.rm (fun p hp z => g.gd (by simpa [z] using (h2 p hp).2)) (fun p hp => (h2 p hp).1) h3 (ma.A g qa h4).1 rfl (g.var h1) ⟨_, _, rfl⟩ (fun a r e => ?_) (fun a r e => ?_)
    · cases e; exact star_of (st _ List.mem_cons_self)
    · cases e; exact noStars fun e he => st e (List.mem_cons_of_mem _ he)
  · cases h
theorem mot_caught {nets : List Str} {ie : I} (me : Mot G F k ie) : Mot G F k (.caught nets ie) := .onE fun {c X e} g q h => by
  simp only [chkE] at h
  split at h
  · rename_i y p params body scope lpos pos
    simp only [Bool.and_eq_true, decide_eq_true_eq, List.all_eq_true] at h
    obtain ⟨⟨⟨⟨⟨⟨rfl, h2⟩, h3⟩, h4⟩, h5⟩, h6⟩, h7⟩ := h
    obtain ⟨gl, db, nn⟩ := g.gl h2
    have hd : c.dp = 2 := by unfold Cs.dp; rw [h3]; rfl
    refine snd_caught (k := k) (g.cau h3) g.mg gl db (by have := g.room; rw [hd] at this; exact this) h5 (LamX.lamS_by (by rw [g.sc]; exact h6)) (g.tab h3) (fun n hn => g.nets n (h4 n hn)) fun A outer s H E f c' hr => ?_
    exact me.E (c := lamC c scope) {
      K := g.K, mg := g.mg, N := g.N, nd := g.nd, sc := rfl, fnb := fun _ => rfl, calm := rfl, room := hr, gd := fun z => Bool.noConfusion (show false = true from z)
      free := g.free, nums := g.nums, defs := g.defs, excs := g.excs, fns := g.fns, tab := fun z => Bool.noConfusion (show false = true from z), cau := fun z => Bool.noConfusion (show false = true from z), clo := fun z => Bool.noConfusion (show false = true from z), nets := g.nets, isx := g.isx, inis := g.inis, fil := fun z => Bool.noConfusion (show false = true from z) } q h7
  · cases h
theorem mot_lamV {f : CF} {j : Nat} {ie : I} (me : Mot G F k ie) : Mot G F k (.lamV f j ie) := .onE fun {c X e} g q h => by
  obtain ⟨q1, q2, q3⟩ : F.clo = f ∧ F.bod j = ie ∧ okI F ie := q
  simp only [chkE] at h
  split at h
  · rename_i params body scope pos
    simp only [Bool.and_eq_true] at h
    obtain ⟨⟨⟨h3, h5⟩, h6⟩, h7⟩ := h
    refine snd_lamV (q1.symm.trans (g.clo h3)) q2 h5 (LamX.lamS_by (by rw [g.sc]; exact h6)) (g.tab h3) fun A outer s H E f c' hr => ?_
    exact me.E (c := lamC c scope) {
      K := g.K, mg := g.mg, N := g.N, nd := g.nd, sc := rfl, fnb := fun _ => rfl, calm := rfl, room := hr, gd := fun z => Bool.noConfusion (show false = true from z)
      free := g.free, nums := g.nums, defs := g.defs, excs := g.excs, fns := g.fns, tab := fun z => Bool.noConfusion (show false = true from z), cau := fun z => Bool.noConfusion (show false = true from z), clo := fun z => Bool.noConfusion (show false = true from z), nets := g.nets, isx := g.isx, inis := g.inis, fil := fun z => Bool.noConfusion (show false = true from z) } q3 h7
  · cases h
theorem mot_caughtV {nets : List Str} {f : CF} {w : Nat} {tab : I} : Mot G F k (.caughtV nets f w tab) := .onE fun {c X e} g q h => by
  obtain ⟨q1, q2⟩ : F.clo = f ∧ tabOk F.bod 0 tab := q
  simp only [chkE] at h
  split at h
  · simp only [Bool.and_eq_true, decide_eq_true_eq, List.all_eq_true] at h
    obtain ⟨⟨⟨⟨rfl, h2⟩, h3⟩, h4⟩, h5⟩ := h
    obtain ⟨gl, db, nn⟩ := g.gl h2
    have hd : c.dp = 2 := by unfold Cs.dp; rw [h3]; rfl
    exact snd_caughtV (k := k) (g.cau h3) g.mg gl db (by have := g.room; rw [hd] at this; exact this) (g.var h5) (fun n hn => g.nets n (h4 n hn)) (q1.symm.trans (g.clo h3)) q2
  · cases h
theorem mot_compW {nets : List Str} {f : CF} {i w : Nat} {cls : Str} {xt : List (Str × Bool)} {tab : I} : Mot G F k (.compW nets f i w cls xt tab) := .onE fun {c X e} g q h => by
  obtain ⟨q1, q2⟩ : F.clo = f ∧ tabOk F.bod 0 tab := q
  simp only [chkE] at h
  split at h
  · rename_i jj p5 tg ptg it pit isn p1 y p pz z0 p0 cl p2 p3 p4 scope pos
    simp only [Bool.and_eq_true, decide_eq_true_eq, List.all_eq_true] at h
    obtain ⟨⟨⟨⟨⟨⟨⟨⟨⟨⟨⟨⟨h1, rfl⟩, h3⟩, h4⟩, h5⟩, h6⟩, h7⟩, h8⟩, rfl⟩, h10⟩, rfl⟩, h12⟩, h13⟩ := h
    have hd : c.dp = 2 := by unfold Cs.dp; rw [h1]; rfl
    have room : Room (k + 2) X.A := by have := g.room; rw [hd] at this; exact this
    have gb : ∀ s H C cl fp, Good G F k (sub c scope) (BlkOf X scope s H C cl fp) := fun s H C cl fp => g.blk
    obtain ⟨cu, ck, i2, i3⟩ := g.isx _ h13
    have hi : SI X G (.Name tg ptg) (.Name it pit) (.iseq (.var i)) := si_seq g.K (so_var (g.var h6))
    have go : ∀ {cv : V}, ClsV cv cu → (∀ s H C cl' fp, PE (BlkOf X scope s H C cl' fp) (.Name cl p2) (tC cv)) → SE X G (.ListComp (.Constant (.int 1) jj p5) [⟨.Name tg ptg, .Name it pit, [.UnaryOp .Not (.Call (.Name "isinstance" p1) [.Call (.Name c.cau p) [.Name pz z0] [] p0, .Name cl p2] [] p3) p4], 0⟩] scope pos) (.compW nets f i w cl xt tab) := fun {cv} kc pc =>
      snd_compW (elt := .Name "" pos) (pc := pos) (own := ownOf c [w]) g.K (g.cau h1) g.mg g.calm (by rw [g.N]; exact g.nd) room (fun n hn => g.nets n (h3 n hn)) kc i2 i3 (q1.symm.trans (g.clo h1)) q2 hi (by rw [g.N, g.sc]; exact blkOk_by h4) (ownOf_snd c _)
        (fun s H C cl fp => (gb s H C cl fp).tgt h5) (fun x => folded_of rfl x) (fun s H C cl fp => ((gb s H C cl fp).gl h7).1) ((gb X.s_0 X.H_0 0 [] []).gl h7).2.1 (fun s H C cl fp => (gb s H C cl fp).var h8)
        fun s H C cl fp r te hc hp => pe_callB hc ((gb s H C cl fp).gl h10).1 (g.free _ (by decide)) boot_isinstance (pa_cons hp (pa_cons (pc s H C cl fp) pa_nil rfl) rfl) ((gb s H C cl fp).gl h10).2.2 ((gb s H C cl fp).gl h10).2.1 rfl rfl
    rcases ck with ⟨C', rfl, i1⟩ | ⟨ez, rfl, i1⟩
    · exact go (.own C') fun s H C cl' fp => pe_glob ((gb s H C cl' fp).gl h12).1 i1 rfl ((gb s H C cl' fp).gl h12).2.1
    · have ez : _ = ("ValueError" : Str) := ez
      subst ez
      exact go (.ty "ValueError") fun s H C cl' fp => pe_bltn (v := .ty "ValueError") (u := .type "ValueError") ((gb s H C cl' fp).gl h12).1 i1 (by decide +kernel) rfl ((gb s H C cl' fp).gl h12).2.2 ((gb s H C cl' fp).gl h12).2.1
  · cases h
theorem mot_isX {cls : Str} {tab : List (Str × Bool)} {ie : I} (me : Mot G F k ie) : Mot G F k (.isX cls tab ie) := .onE fun {c X e} g q h => by
  simp only [chkE] at h
  split at h
  · simp only [Bool.and_eq_true, decide_eq_true_eq] at h
    obtain ⟨⟨⟨⟨⟨⟨rfl, h2⟩, rfl⟩, h4⟩, h5⟩, h6⟩, h7⟩ := h
    obtain ⟨gl, db, nn⟩ := g.gl h2
    obtain ⟨gl2, db2, nn2⟩ := g.gl h4
    obtain ⟨cu, ck, i2, i3⟩ := g.isx _ h6
    rcases ck with ⟨C', rfl, i1⟩ | ⟨ez, rfl, i1⟩
    · exact snd_isX (.own C') g.mg i2 i3 (me.E g q h7) fun r te hc hp => pe_callB hc gl (g.free _ (by decide)) boot_isinstance (pa_cons hp (pa_cons (pe_glob gl2 i1 rfl db2) pa_nil rfl) (star_of h5)) nn db (star_of h5) rfl
    · have ez : _ = ("ValueError" : Str) := ez
      subst ez
      exact snd_isX (.ty "ValueError") g.mg i2 i3 (me.E g q h7) fun r te hc hp => pe_callB hc gl (g.free _ (by decide)) boot_isinstance (pa_cons hp (pa_cons (pe_bltn (v := .ty "ValueError") (u := .type "ValueError") gl2 i1 (by decide +kernel) rfl nn2 db2) pa_nil rfl) (star_of h5)) nn db (star_of h5) rfl
  · cases h
theorem mot_attrX {cs : List (Str × Str)} {ie : I} {n : Str} (me : Mot G F k ie) : Mot G F k (.attrX cs ie n) := .onE fun {c X e} g q h => by
  simp only [chkE] at h
  split at h
  · simp only [Bool.and_eq_true, decide_eq_true_eq, List.all_eq_true] at h
    obtain ⟨⟨rfl, h2⟩, h3⟩ := h
    exact snd_attrX g.mg (fun q hq => by
      obtain ⟨C, fI, a, b, d⟩ := g.inis q (h2 q hq)
      exact ⟨C, a, d, b.no⟩) (me.E g q h3) rfl
  · cases h
theorem mot_mkM {x : Str} {ie : I} (me : Mot G F k ie) : Mot G F k (.mkM x ie) := .onE fun {c X e} g q h => by
  simp only [chkE] at h
  split at h
  · simp only [Bool.and_eq_true, decide_eq_true_eq] at h
    obtain ⟨⟨⟨⟨rfl, h2⟩, h3⟩, h4⟩, h5⟩ := h
    obtain ⟨gl, db, nn⟩ := g.gl h2
    obtain ⟨C, e1, e2, e3, e4, e5⟩ := (g.excs _ h3).ex
    exact snd_mkM g.mg e1 (me.E g q h5) fun te p => SkE.pmk_own1 PySem.F.excBase_ValueError e2 e1 e3 (raises_own e4 e5) gl p (star_of h4) db
  · cases h
theorem mot_mkX {x n : Str} {ie : I} (me : Mot G F k ie) : Mot G F k (.mkX x n ie) := .onE fun {c X e} g q h => by
  simp only [chkE] at h
  split at h
  · simp only [Bool.and_eq_true, decide_eq_true_eq] at h
    obtain ⟨⟨⟨⟨⟨rfl, h2⟩, h3⟩, h4⟩, h5⟩, h6⟩ := h
    obtain ⟨gl, db, nn⟩ := g.gl h2
    obtain ⟨C, fI, a, b, d⟩ := g.inis _ h4
    obtain ⟨f1, f2⟩ := g.fil h3
    have hr : Room 2 X.A := by
      have z := g.room
      have hd : c.dp = 2 := by unfold Cs.dp; rw [h3]; simp
      rw [hd] at z
      exact z.mono (by omega)
    exact snd_mkX f1 f2 g.mg a b hr gl db (me.E g q h6) (star_of h5)
  · cases h
theorem mot_mkK {x n : Str} {ie : I} (me : Mot G F k ie) : Mot G F k (.mkK x n ie) := .onE fun {c X e} g q h => by
  simp only [chkE] at h
  split at h
  · simp only [Bool.and_eq_true, decide_eq_true_eq] at h
    obtain ⟨⟨⟨⟨⟨rfl, h2⟩, h3⟩, h4⟩, rfl⟩, h6⟩ := h
    obtain ⟨gl, db, nn⟩ := g.gl h2
    obtain ⟨C, fI, a, b, d⟩ := g.inis _ h4
    obtain ⟨f1, f2⟩ := g.fil h3
    have hr : Room 2 X.A := by
      have z := g.room
      have hd : c.dp = 2 := by unfold Cs.dp; rw [h3]; simp
      rw [hd] at z
      exact z.mono (by omega)
    exact snd_mkK f1 f2 g.mg a b hr gl db (me.E g q h6)
  · cases h
theorem abase {f a0 : Expr} {as : List Expr} {ks : List Keyword} {cp : Pos} {n : Str} {env : Env} {w : Sem Value} : attributeBase (.Call f (a0 :: as) ks cp) n env w = w := by
  unfold attributeBase
  cases f <;> rfl
theorem mot_cntT {ie : I} (me : Mot G F k ie) : Mot G F k (.cntT ie) := .onE fun {c X e} g q h => by
  simp only [chkE] at h
  split at h
  · simp only [Bool.and_eq_true, decide_eq_true_eq] at h
    obtain ⟨⟨rfl, h2⟩, h3⟩ := h
    exact snd_cntT g.K (me.E g q h3) fun ta p => pe_bm PySem.F.plainAttrs_list PySem.F.slot_list_count PySem.F.type_list_count (mt_cntD (by have := g.rm.un; omega)) p (pa_cons pe_bl pa_nil) abase rfl h2
  · cases h
theorem mot_idxT {ie : I} (me : Mot G F k ie) : Mot G F k (.idxT ie) := .onE fun {c X e} g q h => by
  simp only [chkE] at h
  split at h
  · simp only [Bool.and_eq_true, decide_eq_true_eq] at h
    obtain ⟨⟨rfl, h2⟩, h3⟩ := h
    exact snd_idxT g.K (me.E g q h3) fun ta p => pe_bm PySem.F.plainAttrs_list PySem.F.slot_list_index PySem.F.type_list_index (mt_indexD (by have := g.rm.un; omega)) p (pa_cons pe_bl pa_nil) abase rfl h2
  · cases h
theorem mot_ldict {ie : I} (me : Mot G F k ie) : Mot G F k (.ldict ie) := .onE fun {c X e} g q h => by
  simp only [chkE] at h
  split at h
  · simp only [Bool.and_eq_true, decide_eq_true_eq] at h
    obtain ⟨⟨⟨⟨⟨rfl, h2⟩, rfl⟩, h4⟩, h5⟩, h6⟩ := h
    obtain ⟨gl, db, nn⟩ := g.gl h2
    obtain ⟨gl2, db2, nn2⟩ := g.gl h4
    exact snd_ldict g.K (me.E g q h6) fun ta p => pe_callB call_lenD gl (g.free _ (by decide)) PySem.boot_len (pa_cons (pe_callTy (call_dictP g.calm) gl2 (g.free _ (by decide)) (by decide +kernel) (pa_cons p pa_nil (star_of h5)) nn2 db2 (star_of h5)) pa_nil rfl) nn db rfl
  · cases h
theorem mot_mulS {x : Str} {n : Nat} : Mot G F k (.mulS x n) := .onE fun {c X e} g q h => by
  simp only [chkE] at h
  split at h
  · simp only [Bool.and_eq_true, decide_eq_true_eq] at h
    obtain ⟨rfl, rfl⟩ := h
    exact snd_mulS (pe_op op_mulS pe_str pe_int)
  · cases h
theorem mot : ∀ i : I, Mot G F k i := by
  intro i
  induction i with
  | con d => exact mot_con d
  | var i => exact mot_var i
  | mv i => exact mot_mv i
  | glob x i => exact mot_glob x i
  | fnv x => exact mot_fnv x
  | op2 o a b ma mb => exact mot_op2 ma mb
  | op1 o a ma => exact mot_op1 ma
  | chain o o' a b c ma mb mc => exact mot_chain ma mb mc
  | tup a ma => exact mot_tup ma
  | lst a ma => exact mot_lst ma
  | slc a l h ma ml mh => exact mot_slc ma ml mh
  | onone => exact mot_onone
  | osome a ma => exact mot_osome ma
  | andv a b ma mb => exact mot_andv ma mb
  | orv a b ma mb => exact mot_orv ma mb
  | notv a ma => exact mot_notv ma
  | ite c a b mc ma mb => exact mot_ite mc ma mb
  | blt f a ma => exact mot_blt ma
  | call x c a ma => exact mot_call ma
  | comp g it cond elt _ mi mc me => exact mot_comp mi mc me
  | pop i => exact mot_pop
  | revs a ma => exact mot_revs ma
  | dict ks a ma => exact mot_dict ma
  | dgetI i y => exact mot_dgetI
  | dpop0 i y => exact mot_dpop0
  | callK x c a ks pm ma => exact mot_callK ma
  | callL i tab a ma => exact mot_callL ma
  | tdne i y => exact mot_tdne
  | caught nets e me => exact mot_caught me
  | lamV f j e me => exact mot_lamV me
  | caughtV nets f w tab _ => exact mot_caughtV
  | compW nets f i w cls xt tab _ => exact mot_compW
  | isX cls tab e me => exact mot_isX me
  | mkM x e me => exact mot_mkM me
  | mkX x n e me => exact mot_mkX me
  | mkK x n e me => exact mot_mkK me
  | cntT e me => exact mot_cntT me
  | idxT e me => exact mot_idxT me
  | ldict e me => exact mot_ldict me
  | mulS x n => exact mot_mulS
  | attrX cs e n me => exact mot_attrX me
  | anil => exact mot_anil
  | acons a r ma mr => exact mot_acons ma mr
  | aref i r mr => exact mot_aref mr
  | tt => exact mot_tt
  | tand a b ma mb => exact mot_tand ma mb
  | tor a b ma mb => exact mot_tor ma mb
  | tnot a ma => exact mot_tnot ma
  | tval a ma => exact mot_tval ma
  | tcmp o a b ma mb => exact mot_tcmp ma mb
  | tchain o o' a b c ma mb mc => exact mot_tchain ma mb mc
  | iseq a ma => exact mot_iseq ma
  | irng1 a ma => exact mot_irng1 ma
  | irng2 a b ma mb => exact mot_irng2 ma mb
  | irev a ma => exact mot_irev ma
  | _ => exact .no
end
end FW
set_option Elab.async false
set_option linter.all false
set_option maxRecDepth 100000
set_option maxHeartbeats 4000000
namespace FW
open PySem PySem.Spec PyProof.Rows L2
section
variable {G : GC} {F : Fx} {k : Nat} {c : Cs} {X : Cx}
structure GoodS (G : GC) (F : Fx) (k : Nat) (c : Cs) (X : Cx) : Prop extends Good G F k c X where
  po : PassesOwn (model X.prog X.w) X.A X.env X.xe
  bk : X.env.blockKind = .function
/-! ## what lies on which line -/
theorem swapped_no {ts : List Expr} {v : Expr} {env : Env} (h : match ts, v with | [.Tuple _ _ _], .Tuple _ _ _ => False | [.List _ _], .Tuple _ _ _ => False | _, _ => True) : swappedStores ts v env = pure none := by
  unfold swappedStores
  split at h
  · exact h.elim
  · exact h.elim
  · rename_i n1 n2
    split
    · rename_i q
      split at q
      · exact (n1 _ _ _ _ _ _ rfl rfl).elim
      · exact (n2 _ _ _ _ _ rfl rfl).elim
      · cases q
    · rfl
theorem swD_ok (g : GoodS G F k c X) {ts vs : List Expr} {k1 k2 : Nat} {p1 p2 : Pos} {r : Option (List Str)} (h : swD c ts vs = some r) : swappedStores [.Tuple ts k1 p1] (.Tuple vs k2 p2) X.env = pure r := by
  have hn : ∀ line, (ts.filterMap fun | .Name id pos => if X.env.kindOf id == some .local && pos.line == line then some id else none | _ => none) = ts.filterMap (swName c line) := fun line => by
    congr 1
    funext e
    unfold swName
    cases e <;> first | rfl | (show (if X.env.scope.names.lookup _ == some .local && _ then _ else _) = _; rw [g.sc])
  unfold swD at h
  unfold swappedStores
  simp only [hn]
  have hb : (X.env.blockKind != .function) = false := by rw [g.bk]; rfl
  simp only [hb, Bool.or_false]
  split at h
  · rename_i q
    cases h
    exact if_pos q
  · rename_i q
    refine (if_neg q).trans ?_
    split at h
    · rename_i q2
      cases h
      exact if_pos q2
    · rename_i q2
      refine (if_neg q2).trans ?_
      dsimp only at h
      rw [← hn] at h
      split at h
      · rename_i q3
        cases h
        exact if_pos q3
      · rename_i q3
        refine (if_neg q3).trans ?_
        split at h
        · rename_i q4
          cases h
          exact if_pos q4
        · rename_i q4
          refine (if_neg q4).trans ?_
          split at h
          · cases h
          · rename_i q5
            cases h
            exact if_neg q5
theorem swapsSole {t v : Expr} {l : Nat} {env : Env} : swapsWithSole [t] v l env = swapsWith v (some t) l env := rfl
theorem sole_none {t v : Expr} {l : Nat} {env : Env} (h : notComp v = true) : swapsWithSole [t] v l env = pure false := swaps_none h
theorem asg1 {x : Str} {p : Pos} {v : Expr} {env : Env} : swappedStores [.Name x p] v env = pure none := swapped_no trivial
theorem ss_asgLc {st : Stmt} {i : Nat} {g it cond ie : I} (hK : G.K = X.K) (h : ∀ W, Takes X W → PS X st (tAsg (tLc (TofI G it (fun _ _ _ _ => False)) (tgR X.K g) (TofT G cond (fun _ _ _ _ => False)) (TofE G ie (fun _ _ _ _ => False)) (tgs g)) (gName i))) : SS X G st (.asg i (.comp g it cond ie)) := fun W tk =>
  PS_to (h W tk) fun D σ H ⟨env, L, P, hl, r, w, f⟩ => by
    refine lc_read (J0 := Itr 0 0) (W := W) hK ⟨env, L, _, P.ex, hl, r, w, fun v H' t e' l r' p => ?_, f.exc⟩
    exact f.nx _ H' _ (keep_set (by simp [asgd])) (by simp [l]) (r'.store l) p
theorem lc_parts {gg it cond elt : I} {e tg iter : Expr} {ifs : List Expr} {scope : Scope} {pos : Pos} (g : Good G F k c X) (q : okI F (.comp gg it cond elt)) (h : chkE (.comp gg it cond elt) c (.ListComp e [⟨tg, iter, ifs, 0⟩] scope pos) = true) :
    PI X tg iter (TofI G it (fun _ _ _ _ => False)) ∧ BlkOk X.N X.env.scope scope (ownOf c (tgs gg)) ∧
    (∀ (s : Shared) (H : Hp) (C : Addr) (cl : List (Str × Addr)) (fp : List Addr), PG (X.blk s H scope (compEnvC scope cl C X.env) fp) tg (tgR X.K gg)) ∧
    (∀ (s : Shared) (H : Hp) (C : Addr) (cl : List (Str × Addr)) (fp : List Addr), PTs (X.blk s H scope (compEnvC scope cl C X.env) fp) ifs (TofT G cond (fun _ _ _ _ => False))) ∧
    (∀ (s : Shared) (H : Hp) (C : Addr) (cl : List (Str × Addr)) (fp : List Addr), PE (X.blk s H scope (compEnvC scope cl C X.env) fp) e (TofE G elt (fun _ _ _ _ => False))) ∧ ∀ x, foldedSetIterable iter X.env x = pure x := by
  obtain ⟨qi, qc, qe⟩ : okI F it ∧ okI F cond ∧ okI F elt := q
  simp only [chkE, Bool.and_eq_true] at h
  obtain ⟨⟨⟨⟨⟨h1, h2⟩, h3⟩, h4⟩, h5⟩, h6⟩ := h
  refine ⟨(mot it).It g qi h4 _ takesF, by rw [g.N, g.sc]; exact blkOk_by h1, fun s H C cl fp => (g.blk (s := s) (H := H) (C := C) (cl := cl) (fp := fp)).chkG h3, fun s H C cl fp => ?_, fun s H C cl fp => (mot elt).E g.blk qe h6 _ takesF, fun x => folded_of h2 x⟩
  split at h5
  · have : cond = .tt := by cases cond <;> first | rfl | cases h5
    subst this
    exact sc_none _ takesF
  · exact sc_one ((mot cond).T g.blk qc h5).1 _ takesF
  · cases h5
theorem lc_shape {e : I} {elt : Expr} {gs : List Comprehension} {scope : Scope} {pos : Pos} (hi : isCmp e = true) (h : chkE e c (.ListComp elt gs scope pos) = true) : ∃ gg it cond ie tg iter ifs, e = .comp gg it cond ie ∧ gs = [⟨tg, iter, ifs, 0⟩] := by
  cases e with
  | comp gg it cond ie =>
    simp only [chkE] at h
    split at h
    · rename_i z
      injection z with z1 z2 z3 z4
      exact ⟨_, _, _, _, _, _, _, rfl, z2⟩
    · cases h
  | con d => cases d <;> cases h
  | compW => simp [isCmp] at hi
  | _ => simp [chkE] at h
structure MotS (G : GC) (F : Fx) (k : Nat) (i : I) : Prop where
  S : ∀ {c : Cs} {X : Cx} {st : Stmt}, GoodS G F k c X → okI F i → chkS i c st = true → SS X G st i
  Ss : ∀ {c : Cs} {X : Cx} {st : List Stmt}, GoodS G F k c X → okI F i → chkSs i c st = true → SSs X G st i
theorem MotS.onS {i : I} (h : ∀ {c : Cs} {X : Cx} {st : Stmt}, GoodS G F k c X → okI F i → chkS i c st = true → SS X G st i) (n : ∀ c st, chkSs i c st = false := by intros; rfl) : MotS G F k i := ⟨h, fun _ _ z => nope (n _ _) z⟩
theorem MotS.no {i : I} (n : ∀ c st, chkSs i c st = false := by intros; rfl) (n' : ∀ c st, chkS i c st = false := by intros; rfl) : MotS G F k i := ⟨fun _ _ z => nope (n' _ _) z, fun _ _ z => nope (n _ _) z⟩
theorem ms_asg {i : Nat} {e : I} : MotS G F k (.asg i e) := .onS fun {c X st} g q h => by
  simp only [chkS] at h
  split at h
  · rename_i x p v pos
    simp only [Bool.and_eq_true, Bool.or_eq_true] at h
    obtain ⟨⟨h1, h2⟩, h3⟩ := h
    by_cases hn : notComp v = true
    · exact ss_asg ((mot e).E g.toGood q h3) fun te pe => ps_asg pe (g.toGood.tgt h1) (sole_none hn) asg1 rfl
    · obtain ⟨hl, hcm⟩ : isLc v = true ∧ isCmp e = true := h2.resolve_left hn
      cases v <;> first | cases hl | skip
      rename_i elt gs scope vp
      obtain ⟨gg, it, cond, ie, tg, iter, ifs, rfl, rfl⟩ := lc_shape hcm h3
      obtain ⟨p1, p2, p3, p4, p5, p6⟩ := lc_parts g.toGood q h3
      by_cases hs : (X.env.kindOf x == some .local && p.line == vp.line && !(scope.names.any fun (n, k) => n == x && (k == .local || k == .cell))) = true
      · have hs' := hs
        simp only [Bool.and_eq_true, Bool.not_eq_true'] at hs'
        have hx : X.env.scope.names.lookup x = some .local := eq_of_beq hs'.1.1
        refine ss_asgLc g.K fun W tk => ?_
        have hi : X.N[i]? = some x := by
          unfold isTgt at h1
          simp only [Bool.and_eq_true, decide_eq_true_eq] at h1
          rw [g.N]; exact h1.1
        have z := ps_setLc (spos := pos) g.calm (by rw [g.N]; exact g.nd) hi hx (py := p) (elt := elt) (pos := vp) (by
          show swapsWith (.ListComp elt [⟨tg, iter, ifs, 0⟩] scope vp) (some (.Name x p)) pos.line X.env = pure true
          unfold swapsWith
          show (pure (X.env.blockKind == .function && X.env.kindOf x == some .local && p.line == vp.line && !(scope.names.any fun (n, k) => n == x && (k == .local || k == .cell))) : Sem Bool) = pure true
          rw [g.bk]
          simp only [beq_self_eq_true, Bool.true_and]
          rw [hs]) p1 p2 p3 p4 p5 p6
        rw [ownOf_snd] at z
        exact z
      · refine ss_asg ((mot _).E g.toGood q h3) fun te pe => ps_asg pe (g.toGood.tgt h1) ?_ asg1 rfl
        show swapsWith (.ListComp elt [⟨tg, iter, ifs, 0⟩] scope vp) (some (.Name x p)) pos.line X.env = pure false
        unfold swapsWith
        show (pure (X.env.blockKind == .function && X.env.kindOf x == some .local && p.line == vp.line && !(scope.names.any fun (n, k) => n == x && (k == .local || k == .cell))) : Sem Bool) = pure false
        rw [g.bk]
        simp only [beq_self_eq_true, Bool.true_and]
        rw [Bool.not_eq_true] at hs
        rw [hs]
  · cases h
theorem ms_asgT {is : List Nat} {e : I} : MotS G F k (.asgT is e) := .onS fun {c X st} g q h => by
  simp only [chkS] at h
  split at h
  · rename_i ts kk p v pos
    simp only [Bool.and_eq_true] at h
    obtain ⟨⟨⟨h1, h2⟩, h3⟩, h4⟩ := h
    obtain ⟨t1, t2, t3⟩ := g.toGood.tgs h3
    refine ss_asgT g.K ((mot e).E g.toGood q h4) fun te pe => ps_asg pe (pg_tup g.calm t1 t2 t3) (sole_none h2) (swapped_no ?_) rfl
    cases v <;> first | trivial | cases h1
  · cases h
theorem ms_par {is : List Nat} {a : I} : MotS G F k (.par is a) := .onS fun {c X st} g q h => by
  simp only [chkS] at h
  split at h
  · rename_i ts kk p vs k2 p2 pos
    simp only [Bool.and_eq_true, decide_eq_true_eq] at h
    obtain ⟨⟨⟨h1, h2⟩, h3⟩, h4⟩ := h
    obtain ⟨t1, t2, t3⟩ := g.toGood.tgs h2
    have sp := (((mot a).A g.toGood q h3).2 h1).1
    split at h4
    · rename_i sw
      exact ss_parT (Nat.le_trans (of_decide_eq_true h4) (by decide)) sp fun ta pa => ps_asg (pe_tup pa) (pg_tup g.calm t1 t2 t3) rfl (swD_ok g sw) rfl
    · rename_i ns sw
      have hw := swD_ok (k1 := kk) (k2 := k2) (p1 := p) (p2 := p2) g sw
      have nd : X.N.Nodup := by rw [g.N]; exact g.nd
      unfold parOk at h4
      split at h4
      · simp only [locs, Bool.and_eq_true, decide_eq_true_eq, Bool.not_eq_true', Bool.and_true] at h4
        obtain ⟨rfl, ⟨⟨n1, l1⟩, c1⟩, ⟨⟨n2, l2⟩, c2⟩⟩ := h4
        rw [← g.N] at n1 n2
        rw [← g.sc] at l1 l2
        exact ss_par2 sp fun ta pa => ps_par g.calm nd n1 n2 (by simpa using c1) l1 l2 pa hw rfl
      · simp only [locs, Bool.and_eq_true, decide_eq_true_eq, Bool.not_eq_true', Bool.and_true] at h4
        obtain ⟨rfl, ⟨⟨n1, l1⟩, c1⟩, ⟨⟨⟨n2, l2⟩, c2⟩, ⟨⟨n3, l3⟩, c3⟩⟩⟩ := h4
        rw [← g.N] at n1 n2 n3
        rw [← g.sc] at l1 l2 l3
        simp at c1 c2
        exact ss_par3 sp fun ta pa => ps_par3 g.calm nd n1 n2 n3 c1.1 c1.2 c2 l1 l2 l3 pa hw rfl
      · cases h4
    · cases h4
  · cases h
theorem inc_add {o : Op2} {op : Operator} (h : incOk o op = true) : (o = .add ∧ op = .Add) ∨ (o = .sub ∧ op = .Sub) := by
  unfold incOk at h
  simpa using h
theorem aug_plain {y : Expr} (h : notSl y = true) (ov iv new : Value) : augStore y ov iv new = (do holding [new, ov, iv] (setItem ov iv new); release [new, ov, iv] []; pure .next) := by
  cases y <;> first | rfl | simp [notSl] at h
theorem asg_plain {o i : Expr} {pos : Pos} {env : Env} (h : notSl i = true) (v : Value) : assign (.Subscript o i pos) env v = (do
      let ov ← holding [v] (eval o env)
      let iv ← holding [v, ov] (eval i env)
      standAt pos
      holding [v, ov, iv] (setItem ov iv v)
      release [v, ov, iv] []) := by
  cases i <;> first | rfl | simp [notSl] at h
theorem ms_augI {i : Nat} {o : Op2} {e : I} : MotS G F k (.augI i o e) := .onS fun {c X st} g q h => by
  simp only [chkS] at h
  split at h
  · simp only [Bool.and_eq_true] at h
    obtain ⟨⟨h1, h2⟩, h3⟩ := h
    have nd : X.N.Nodup := by rw [g.N]; exact g.nd
    unfold isTgt at h1
    simp only [Bool.and_eq_true, Bool.or_eq_true, decide_eq_true_eq] at h1
    obtain ⟨n1, l1⟩ := h1
    rw [← g.N] at n1
    rw [← g.sc] at l1
    have hl : Loc X.env.scope _ := l1.imp id And.left
    have hf := Or.symm (l1.imp id fun z => (g.fnb _).trans z.2)
    rcases inc_add h2 with ⟨rfl, rfl⟩ | ⟨rfl, rfl⟩
    · exact ss_augI (f := fun i j => i + j) ((mot e).E g.toGood q h3) (fun te pe => ps_aug nd n1 hl pe ip_add hf) fun x y P z => z
    · exact ss_augI (f := fun i j => i - j) ((mot e).E g.toGood q h3) (fun te pe => ps_aug nd n1 hl pe ip_sub hf) fun x y P z => z
  · cases h
theorem ms_augS {i : Nat} {o : Op2} {kk e : I} : MotS G F k (.augS i o kk e) := .onS fun {c X st} g q h => by
  obtain ⟨q1, q2⟩ : okI F kk ∧ okI F e := q
  simp only [chkS] at h
  split at h
  · simp only [Bool.and_eq_true] at h
    obtain ⟨⟨⟨⟨h1, h2⟩, h3⟩, h4⟩, h5⟩ := h
    have hp : ∀ {pos : Pos} {o' i' e' : Expr}, notSl i' = true → True := fun _ => trivial
    rcases inc_add h3 with ⟨rfl, rfl⟩ | ⟨rfl, rfl⟩
    · exact ss_augS (g := fun i j => i + j) (g.toGood.var h1) ((mot e).E g.toGood q2 h5) ((mot kk).E g.toGood q1 h4) (fun te to tk p1 p2 p3 => ps_augS p2 p3 get_list p1 ip_add set_list (aug_plain h2)) fun x y P z => z
    · exact ss_augS (g := fun i j => i - j) (g.toGood.var h1) ((mot e).E g.toGood q2 h5) ((mot kk).E g.toGood q1 h4) (fun te to tk p1 p2 p3 => ps_augS p2 p3 get_list p1 ip_sub set_list (aug_plain h2)) fun x y P z => z
  · cases h
theorem ms_setS {i : Nat} {kk e : I} : MotS G F k (.setS i kk e) := .onS fun {c X st} g q h => by
  obtain ⟨q1, q2⟩ : okI F kk ∧ okI F e := q
  simp only [chkS] at h
  split at h
  · simp only [Bool.and_eq_true] at h
    obtain ⟨⟨⟨⟨h1, h2⟩, h3⟩, h4⟩, h5⟩ := h
    exact ss_setS (g.toGood.var h1) ((mot e).E g.toGood q2 h5) ((mot kk).E g.toGood q1 h4) fun te to tk p1 p2 p3 => ps_asg p1 (pg_sub p2 p3 set_list (asg_plain h2)) (sole_none h3) (swapped_no trivial) rfl
  · cases h
theorem ms_swapS {i : Nat} {e kk l : I} : MotS G F k (.swapS i e kk l) := .onS fun {c X st} g q h => by
  obtain ⟨q1, q2, q3⟩ : okI F e ∧ okI F kk ∧ okI F l := q
  simp only [chkS] at h
  split at h
  · simp only [Bool.and_eq_true, decide_eq_true_eq] at h
    obtain ⟨⟨⟨⟨⟨⟨⟨h1, h2⟩, h3⟩, h4⟩, h5⟩, h6⟩, h7⟩, h8⟩ := h
    exact ss_swapS g.K ((mot e).E g.toGood q1 h7) ((mot kk).E g.toGood q2 h5) ((mot l).E g.toGood q3 h6) fun te tk tl p1 p2 p3 =>
      ps_asg p1 (pg_tup g.calm (pgs_cons (pg_sub (g.toGood.var h1) p2 set_list (asg_plain h3)) (pgs_cons (pg_sub (g.toGood.var h2) p3 set_list (asg_plain h4)) pgs_nil)) rfl rfl) rfl (swD_ok g (r := none) h8) rfl
  · cases h
theorem ms_dsetS {i : Nat} {y : Str} {e : I} : MotS G F k (.dsetS i y e) := .onS fun {c X st} g q h => by
  simp only [chkS] at h
  split at h
  · simp only [Bool.and_eq_true, decide_eq_true_eq] at h
    obtain ⟨⟨⟨rfl, h2⟩, h3⟩, h4⟩ := h
    exact ss_dsetS (g.toGood.var h2) ((mot e).E g.toGood q h4) fun te to p1 p2 => ps_dput (by have := g.rm.un; omega) p2 pe_str p1 (swaps_none h3)
  · cases h
theorem ms_app {i : Nat} {e : I} : MotS G F k (.app i e) := .onS fun {c X st} g q h => by
  simp only [chkS] at h
  split at h
  · simp only [Bool.and_eq_true, decide_eq_true_eq] at h
    obtain ⟨⟨⟨⟨rfl, h2⟩, h3⟩, h4⟩, h5⟩ := h
    refine ss_app (g.toGood.var h2) ((mot e).E g.toGood q h5) (star_of h4) fun te ta p1 p2 => ps_expr (pe_bm PySem.F.plainAttrs_list PySem.F.slot_list_append PySem.F.type_list_append mt_append p1 p2 rfl ?_ h3 (star_of h4) rfl) rfl
    rw [star_of h4]
    rfl
  · cases h
theorem ms_raiseI {x n : Str} {ie : I} : MotS G F k (.raiseI x n ie) := .onS fun {c X st} g q h => by
  simp only [chkS] at h
  split at h
  · simp only [Bool.and_eq_true, decide_eq_true_eq] at h
    obtain ⟨⟨⟨⟨⟨rfl, h2⟩, h3⟩, h4⟩, h5⟩, h6⟩ := h
    obtain ⟨gl, db, nn⟩ := g.toGood.gl h2
    obtain ⟨C, fI, a, b, d⟩ := g.inis _ h4
    obtain ⟨f1, f2⟩ := g.fil h3
    have hr : Room 2 X.A := by
      have := g.room
      have e : c.dp = 2 := by unfold Cs.dp; rw [h3]; simp
      rw [e] at this
      exact this.mono (by omega)
    exact ss_raiseI f1 f2 g.mg a b g.calm hr gl db ((mot ie).E g.toGood q h6) (star_of h5)
  · cases h
theorem ms_raiseM {x : Str} : MotS G F k (.raiseM x) := .onS fun {c X st} g q h => by
  simp only [chkS] at h
  split at h
  · simp only [Bool.and_eq_true, decide_eq_true_eq] at h
    obtain ⟨⟨rfl, h2⟩, h3⟩ := h
    obtain ⟨gl, db, nn⟩ := g.toGood.gl h2
    obtain ⟨C, e1, e2, e3, e4, e5⟩ := (g.excs _ h3).ex
    exact ss_raiseM (by rw [g.mg]; exact e1) fun W tk => ps_raise g.calm tk (pmk_own PySem.F.excBase_ValueError e2 e1 e3 (raises_own e4 e5) gl db)
  · cases h
theorem motS : ∀ i : I, MotS G F k i := by
  intro i
  induction i with
  | snil => exact ⟨fun _ _ z => nope rfl z, fun {c X st} g q h => by
      cases st with
      | nil => exact ss_nil
      | cons _ _ => simp [chkSs] at h⟩
  | scons s r ms mr => exact ⟨fun _ _ z => nope rfl z, fun {c X st} g q h => by
      obtain ⟨q1, q2⟩ : okI F s ∧ okI F r := q
      cases st with
      | nil => simp [chkSs] at h
      | cons _ _ =>
        simp only [chkSs, Bool.and_eq_true] at h
        exact ss_cons (ms.S g q1 h.1) (mr.Ss g q2 h.2)⟩
  | asg i e => exact ms_asg
  | par is a => exact ms_par
  | asgT is e => exact ms_asgT
  | augI i o e => exact ms_augI
  | augS i o kk e => exact ms_augS
  | setS i kk e => exact ms_setS
  | swapS i e kk l => exact ms_swapS
  | app i e => exact ms_app
  | dsetS i y e => exact ms_dsetS
  | expr e => exact .onS (fun {c X st} g q h => by
      simp only [chkS] at h
      split at h
      · rw [Bool.and_eq_true] at h
        exact ss_expr ((mot e).E g.toGood q h.2) fun te p => ps_expr p (swaps_none h.1)
      · cases h)
  | ife t a b _ ma mb => exact .onS (fun {c X st} g q h => by
      obtain ⟨q1, q2, q3⟩ : okI F t ∧ okI F a ∧ okI F b := q
      simp only [chkS] at h
      split at h
      · simp only [Bool.and_eq_true] at h
        exact ss_ife ((mot t).T g.toGood q1 h.1.1).1 (ma.Ss g q2 h.1.2) (mb.Ss g q3 h.2) fun tc ta tb p1 p2 p3 => ps_if p1 p2 p3
      · cases h)
  | forS gg it b _ _ mb => exact .onS (fun {c X st} g q h => by
      obtain ⟨q1, q2⟩ : okI F it ∧ okI F b := q
      simp only [chkS] at h
      split at h
      · simp only [Bool.and_eq_true] at h
        exact ss_for g.K ((mot it).It g.toGood q1 h.1.2) (g.toGood.chkG h.1.1.2) (mb.Ss g q2 h.2) fun wi t tb p1 p2 p3 => ps_for g.po g.calm p1 p2 p3 fun x => folded_of h.1.1.1 x
      · cases h)
  | whileS t b _ mb => exact .onS (fun {c X st} g q h => by
      obtain ⟨q1, q2⟩ : okI F t ∧ okI F b := q
      simp only [chkS] at h
      split at h
      · rw [Bool.and_eq_true] at h
        exact ss_while ((mot t).T g.toGood q1 h.1).1 (mb.Ss g q2 h.2) fun tc tb p1 p2 => ps_while g.po p1 p2
      · cases h)
  | ret e => exact .onS (fun {c X st} g q h => by
      simp only [chkS] at h
      split at h
      · exact ss_ret ((mot e).E g.toGood q h) fun te p => ps_ret p
      · cases h)
  | retN => exact .onS (fun {c X st} g q h => by
      simp only [chkS] at h
      split at h
      · exact ss_retN ps_retN
      · cases h)
  | raiseM x => exact ms_raiseM
  | raiseI x n e => exact ms_raiseI
  | brk => exact .onS (fun {c X st} g q h => by
      simp only [chkS] at h
      split at h
      · exact ss_brk ps_break
      · cases h)
  | cont => exact .onS (fun {c X st} g q h => by
      simp only [chkS] at h
      split at h
      · exact ss_cont ps_continue
      · cases h)
  | pass => exact .onS (fun {c X st} g q h => by
      simp only [chkS] at h
      split at h
      · exact ss_pass ps_pass
      · cases h)
  | _ => exact .no
end
end FW
set_option Elab.async false
set_option linter.all false
set_option maxRecDepth 100000
set_option maxHeartbeats 4000000
namespace FW
open PySem PySem.Spec PyProof.Rows L2
/-- the trees of the handed slots, at the end -/
def ioE : List Bool → Env' → Option (List T)
  | [], _ => some []
  | true :: m, some t :: e => (ioE m e).map (t :: ·)
  | false :: m, _ :: e => ioE m e
  | _, _ => none
/-- which slots are handed are not stored -/
def ioFree (b : I) : Nat → List Bool → Bool
  | _, [] => true
  | n, true :: m => !asgd b n && ioFree b (n + 1) m
  | n, false :: m => ioFree b (n + 1) m
def env0 (as : List T) (n : Nat) : Env' := as.map some ++ List.replicate n none
/-- a def's body, as its contract has it -/
def wpD (b : I) (io : List Bool) (n : Nat) (as : List T) (Pn : T → List T → Prop) (Pe : D → List T → Prop) : Prop :=
  wpS b (env0 as n) { nx := fun e => ∃ ts, ioE io e = some ts ∧ Pn (.val .non) ts, rt := fun t e => ∃ ts, ioE io e = some ts ∧ Pn t ts, ex := fun x e => ∃ ts, ioE io e = some ts ∧ Pe x ts }
section
variable {G : GC}
theorem R.rot {H : Hp} {A : List Pr} {q : Pr} {L : List Pr} (h : R G H (A ++ (q :: L))) : R G H ((A ++ [q]) ++ L) := by
  rw [List.append_assoc]; exact h
theorem io_out {H : Hp} {L : List Pr} : ∀ {io : List Bool} {vs : List V} {A : List Pr} {σ : L2.St} {e : Env'} {ts : List T}, io.length = vs.length → (∀ i : Nat, io[i]? = some true → ∀ v, vs[i]? = some v → σ[i]? = some (some v)) → ioE io e = some ts → σ.length = e.length →
    R G H (A ++ (σ.zip e ++ L)) → ts.length = (ioV io vs).length ∧ R G H (A ++ (prs (ioV io vs) ts ++ L))
  | [], [], A, σ, e, ts, _, _, h, hl, r => by
    simp only [ioE, Option.some.injEq] at h
    subst h
    exact ⟨by unfold ioV; rfl, by unfold ioV; exact R.cut r⟩
  | true :: m, v :: vs, A, o :: σ, some t :: e, ts, hl0, hk, h, hl, r => by
    simp only [ioE, Option.map_eq_some_iff] at h
    obtain ⟨ts', h1, rfl⟩ := h
    have h0 : o = some v := by have := hk 0 rfl v rfl; simpa using this
    subst h0
    have r1 : R G H ((A ++ [(some v, some t)]) ++ (σ.zip e ++ L)) := R.rot (L := σ.zip e ++ L) r
    obtain ⟨a, b⟩ := io_out (A := A ++ [(some v, some t)]) (Nat.succ.inj hl0) (fun i hi w hw => by have := hk (i + 1) (by simpa using hi) w (by simpa using hw); simpa using this) h1 (Nat.succ.inj hl) r1
    refine ⟨congrArg (· + 1) a, ?_⟩
    rw [List.append_assoc] at b
    exact b
  | false :: m, v :: vs, A, o :: σ, t :: e, ts, hl0, hk, h, hl, r => by
    have h1 : ioE m e = some ts := by simpa only [ioE] using h
    have r1 : R G H (A ++ (σ.zip e ++ L)) := R.cut (A := A) (C := [(o, t)]) r
    exact io_out (vs := vs) (Nat.succ.inj hl0) (fun i hi w hw => by have := hk (i + 1) (by simpa using hi) w (by simpa using hw); simpa using this) h1 (Nat.succ.inj hl) r1
  | true :: m, _ :: _, _, _, [], _, _, _, h, _, _ => by simp [ioE] at h
  | true :: m, _ :: _, _, _, none :: _, _, _, _, h, _, _ => by simp [ioE] at h
  | false :: m, _ :: _, _, _, [], _, _, _, h, _, _ => by simp [ioE] at h
  | _ :: _, _ :: _, _, [], _ :: _, _, _, _, _, hl, _ => by simp at hl
  | [], _ :: _, _, _, _, _, hl0, _, _, _, _ => by simp at hl0
  | _ :: _, [], _, _, _, _, hl0, _, _, _, _ => by simp at hl0
theorem argE_len : ∀ {m : List Bool} {ds : List D} {ts as : List T}, argE m ds ts = some as → as.length = m.length
  | [], [], [], as, h => by simp [argE] at h; subst h; rfl
  | true :: m, ds, t :: ts, as, h => by
    simp only [argE, Option.map_eq_some_iff] at h
    obtain ⟨as', h1, rfl⟩ := h
    exact congrArg (· + 1) (argE_len h1)
  | false :: m, d :: ds, ts, as, h => by
    simp only [argE, Option.map_eq_some_iff] at h
    obtain ⟨as', h1, rfl⟩ := h
    exact congrArg (· + 1) (argE_len h1)
  | true :: _, _, [], _, h => by simp [argE] at h
  | false :: _, [], _, _, h => by simp [argE] at h
  | [], _ :: _, _, _, h => by simp [argE] at h
  | [], [], _ :: _, _, h => by simp [argE] at h
theorem ioE_len : ∀ {m : List Bool} {ds : List D} {ts as : List T}, argE m ds ts = some as → ∀ {vs : List V}, vs.length = m.length → ts.length = (ioV m vs).length
  | [], [], [], as, h, vs, _ => by unfold ioV; rfl
  | true :: m, ds, t :: ts, as, h, v :: vs, hl => by
    simp only [argE, Option.map_eq_some_iff] at h
    obtain ⟨as', h1, rfl⟩ := h
    exact congrArg (· + 1) (ioE_len h1 (Nat.succ.inj hl))
  | false :: m, d :: ds, ts, as, h, v :: vs, hl => by
    simp only [argE, Option.map_eq_some_iff] at h
    obtain ⟨as', h1, rfl⟩ := h
    exact ioE_len h1 (vs := vs) (Nat.succ.inj hl)
  | true :: _, _, [], _, h, _, _ => by simp [argE] at h
  | false :: _, [], _, _, h, _, _ => by simp [argE] at h
  | [], _ :: _, _, _, h, _, _ => by simp [argE] at h
  | [], [], _ :: _, _, h, _, _ => by simp [argE] at h
  | _ :: _, _, _, _, _, [], hl => by simp at hl
theorem R.deads {H : Hp} {L : List Pr} (h : R G H L) : ∀ n, R G H ((List.replicate n (none : Option V)).zip (List.replicate n (none : Option T)) ++ L)
  | 0 => h
  | n + 1 => (R.deads h n).dead
theorem ioFree_at {b : I} : ∀ {m : List Bool} {n i : Nat}, ioFree b n m = true → m[i]? = some true → asgd b (n + i) = false
  | true :: m, n, 0, h, _ => by
    simp only [ioFree, Bool.and_eq_true, Bool.not_eq_true'] at h
    exact h.1
  | true :: m, n, i + 1, h, e => by
    simp only [ioFree, Bool.and_eq_true] at h
    have := ioFree_at (i := i) h.2 (by simpa using e)
    rw [Nat.add_assoc, Nat.add_comm 1] at this
    exact this
  | false :: m, n, 0, h, e => by simp at e
  | false :: m, n, i + 1, h, e => by
    simp only [ioFree] at h
    have := ioFree_at (i := i) h (by simpa using e)
    rw [Nat.add_assoc, Nat.add_comm 1] at this
    exact this
  | [], _, _, _, e => by simp at e
/-- what a module tells of itself -/
structure Mdl (K : PySem.W.Frag) (mg : Str → Option Value) (c : Cs) : Prop where
  free : ∀ x, x ∈ frees → mg x = none
  nums : ∀ x i, (x, i) ∈ c.nums → ∃ t, mg x = some (.int i t)
  defs : ∀ x, x ∈ c.defs → ∃ a, mg x = some (.ref a)
  excs : ∀ x, x ∈ c.excs → ExcOk K mg x
  cau : c.lam = true → CauOk K mg c.cau c.net
  nets : ∀ n ∈ c.nets, ∃ C, mg n = some (.ref C) ∧ ∀ NE, mg c.net = some (.ref NE) → PySem.W.exmOne K (.ref C) (.ref NE) = some true
  isx : ∀ q ∈ c.isx, ∃ cu, ClsOk mg q.1 cu ∧ PySem.W.kitOne K (.type "NoneType") cu = some false ∧ ∀ p ∈ q.2, ∃ C, mg p.1 = some (.ref C) ∧ ExcC K C ∧ PySem.W.kitOne K (.ref C) cu = some p.2
  inis : ∀ q ∈ c.inis, ∃ C fI, mg q.1 = some (.ref C) ∧ IniC c.fil K C fI q.2 ∧ XfC K C
structure Fun' (K : PySem.W.Frag) (mg : Str → Option Value) (x qual : Str) (params : Arguments) (ps : List Str) (body : List Stmt) (scope : Scope) : Prop where
  ex : ∃ f fd, mg x = some (.ref f) ∧ FunD K x qual params body scope [] [] f fd ∧ Binds K fd ps [] ∧ ∀ (args : Args) (binds : List (Str × Value)), (∀ (kV doc pm : Value) (an : Option Addr) (cdv ct : Value), bindArgs (PySem.W.fnOf x qual params body scope .none kV doc pm an cdv ct) args = pure binds) → ∀ s, BindsTo s fd args binds
/-- the name of a lambda in the def of that name -/
def lamQ (qual : Str) : Str := qual ++ ".<locals>." ++ "<lambda>"
/-- what a def's own context is -/
structure TopX (P : Program) (w : World) (K : PySem.W.Frag) (mg : Str → Option Value) (base : Heap) (X : Cx) : Prop where
  prog : X.prog = P
  w : X.w = w
  K : X.K = K
  mg : X.mg = mg
  base : X.base = base
  st : X.stack = X.env :: X.outer
  fr : X.env.frame = some X.env.locals
  ex : X.ex = []
/-- THE RULE for a def, its closures known by the frame -/
theorem fok_ofL {P : Program} {w : World} {K : PySem.W.Frag} {mg : Str → Option Value} {base : Heap} {F : Str → Con → Prop} {bod : Nat → I} {k : Nat} {x qual : Str} {params : Arguments} {ps N : List Str} {body : List Stmt} {scope : Scope} {cn : Con} {b : CF → I} {c : Cs}
    (hK : G.K = K) (hmg : G.mg = mg) (fu : Fun' K mg x qual params ps body scope) (S : FnScope N ps scope) (m : Mdl K mg c) (hc : c.N = N ∧ c.sc = scope ∧ c.fnb = fun _ => true) (hgd : c.gd = true → cn.gd = true) (hfil : c.rai = true → (P.main.file : Str) = c.fil ∧ (P.main.scope.names.lookup ("super" : Str)).isSome = false)
    (htab : c.lam = true → ∀ (f : Addr) (oc : Value) (od : Option Addr) (dV kV doc pm : Value) (an : Option Addr) (cdv ct : Value) (osl : Array (Option Value)), mg x = some (.ref f) → K.lookup f = some ⟨oc, od, .func (PySem.W.fnOf x qual params body scope dV kV doc pm an cdv ct), osl⟩ →
      ∃ cd P, cdv = .ref cd ∧ LamX.TabB base mg cd P ∧ (P, lamQ qual) ∈ G.tabs ∧ ∀ p ∈ G.tabs, p.1 = P → p.2 = lamQ qual) (hio : ps.length = cn.io.length) (hkw : ∀ ks pm, (ks, pm) ∈ cn.kws → pm.length = ps.length ∧ (∀ j ∈ pm, j < ks.length) ∧ ∀ (kV doc pmv : Value) (an : Option Addr) (cdv ct : Value) (ws : List Value), ws.length = ks.length → bindArgs (PySem.W.fnOf x qual params body scope .none kV doc pmv an cdv ct) ⟨[], ks.zip ws⟩ = pure (ps.zip (pmL pm ws))) (hfr : ∀ f, ioFree (b f) 0 cn.io = true)
    (hF : ∀ y cy, F y cy → Fok P w K mg base G k y cy) (hss : ∀ (X : Cx) (f : CF), TopX P w K mg base X → GoodS G ⟨F, f, bod⟩ k c X → SSs X G body (b f))
    (wp : ∀ f ds ts as Pn Pe, argE cn.io ds ts = some as → cn.run ds ts Pn Pe → wpD (b f) cn.io (N.length - ps.length) as Pn Pe) : Fok P w K mg base G (k + c.dp + 1) x cn := by
  obtain ⟨f, fd, hm, hf, hb, hbk⟩ := fu.ex
  refine ⟨f, fd, ps, hm, hf.kp, hb, hio, fun ks pm hk => ⟨(hkw ks pm hk).1, (hkw ks pm hk).2.1, fun s ws hw => hbk _ _ (fun kV doc pmv an cdv ct => (hkw ks pm hk).2.2 kV doc pmv an cdv ct ws hw) s⟩, fun A outer s H args us vs Q E hr hg2 e0 hbt rv sp => ?_⟩
  obtain ⟨oc, od, dV, kV, doc, pm, an, cdv, ct, osl, rfl, lk, hcd, _, _⟩ := hf.ex
  obtain ⟨L, ds, ts, as, Pn, Pe, hvl, harg, r, hrun, kn, ke⟩ := sp
  refine LamX.run_ofS (N := N) (ps := ps) lk hcd S hr e0 hbt rv (hvl.trans hio.symm) fun hr' => ?_
  have ht : Takes (cxOf (L2.CX P w) P w K mg base N qual scope f cdv A outer s H E) (fun cls d _ H => E cls d H) := takes_of rfl rfl rfl rfl
  obtain ⟨cf, ecf⟩ : ∃ cf, cf = cfOf (cxOf (L2.CX P w) P w K mg base N qual scope f cdv A outer s H E) G k bod := ⟨_, rfl⟩
  have g : GoodS G ⟨F, cf, bod⟩ k c (cxOf (L2.CX P w) P w K mg base N qual scope f cdv A outer s H E) := {
    K := hK, mg := hmg, N := hc.1.symm, nd := by rw [hc.1]; exact S.nd, sc := hc.2.1.symm, fnb := fun x => by rw [hc.2.2]; rfl, calm := rfl, room := hr', gd := fun z => (show A.guards = some [] from hg2 (hgd z))
    free := m.free, nums := m.nums, defs := m.defs, excs := m.excs, fns := hF, cau := m.cau, clo := fun _ => ecf, nets := m.nets, isx := m.isx, inis := m.inis, fil := hfil, tab := fun z => htab z f oc od dV kV doc pm an cdv ct osl hm lk, po := passes_of rfl
    bk := by show (envOfC qual scope s.heap.objs.size f cdv).blockKind = .function; unfold Env.blockKind; rw [show (envOfC qual scope s.heap.objs.size f cdv).scope.kind = .function from S.kind]; rfl }
  refine ⟨_, hss _ cf ⟨rfl, rfl, rfl, rfl, rfl, rfl, rfl, rfl⟩ g _ ht, ?_⟩
  have hpl : ps.length ≤ N.length := by have := congrArg List.length S.pre; rw [List.length_take] at this; omega
  have hal : as.length = vs.length := by rw [argE_len harg, hvl]
  have r0 : R G H ((L2.start N vs).zip (env0 as (N.length - ps.length)) ++ L) := by
    unfold L2.start env0
    rw [List.zip_append (by simp [hal]), List.append_assoc, show N.length - vs.length = N.length - ps.length by rw [hvl, hio]]
    have e : (vs.map some).zip (as.map some) = prs vs as := by
      unfold prs
      rw [List.zip_map, List.zip, List.map_zipWith]
      rfl
    rw [e]
    exact R.mid (A := (List.replicate (N.length - ps.length) (none : Option V)).zip (List.replicate (N.length - ps.length) (none : Option T))) (C := prs vs as) (R.deads r _)
  have kp : ∀ {σ' : L2.St}, Keep (b cf) (L2.start N vs) σ' → ∀ i : Nat, cn.io[i]? = some true → ∀ v, vs[i]? = some v → σ'[i]? = some (some v) := fun kk i hi v hv => by
    have hlt := (List.getElem?_eq_some_iff.mp hv).1
    have := kk.2 i (by have := ioFree_at (hfr cf) hi; rwa [Nat.zero_add] at this)
    rw [this]
    unfold L2.start
    rw [List.getElem?_append_left (by simpa using hlt), List.getElem?_map, hv]
    rfl
  have tl := ioE_len harg hvl
  refine ⟨env0 as (N.length - ps.length), L, _, by unfold L2.start env0; simp [hal, hvl, hio], r0, wp cf ds ts as Pn Pe harg hrun, ?_⟩
  refine ⟨fun σ' H' e' kk hl rr ⟨ts', i1, i2⟩ => ?_, fun v t σ' H' e' kk hl rr ⟨ts', i1, i2⟩ => ?_, fun _ _ _ _ _ _ z => z.elim, fun _ _ _ _ _ _ z => z.elim, fun xx cls d σ' H' e' kk hl a ⟨ts', i1, i2⟩ => ?_⟩
  · obtain ⟨l1, r1⟩ := io_out (A := [(some V.non, some (T.val D.non))]) hvl.symm (kp kk) i1 hl (rr.push fun _ _ => .non)
    exact kn .non H' _ ts' (l1.trans tl.symm) r1 i2
  · obtain ⟨l1, r1⟩ := io_out (A := [(some v, some t)]) hvl.symm (kp kk) i1 hl rr
    exact kn v H' _ ts' (l1.trans tl.symm) r1 i2
  · obtain ⟨cc, ns, dds, C, b1, b2, b3, b4⟩ := a
    rcases b4 with ⟨c1, c2, c3, rr⟩ | ⟨dd, c1, rr⟩
    · obtain ⟨l1, r1⟩ := io_out (A := []) hvl.symm (kp kk) i1 hl rr
      exact ke xx cls d H' ts' (l1.trans tl.symm) ⟨cc, ns, dds, C, b1, b2, b3, .inl ⟨c1, c2, c3, r1⟩⟩ i2
    · obtain ⟨l1, r1⟩ := io_out (A := [(some (V.ref dd), some (T.xdc ns dds))]) hvl.symm (kp kk) i1 hl rr
      exact ke xx cls d H' ts' (l1.trans tl.symm) ⟨cc, ns, dds, C, b1, b2, b3, .inr ⟨dd, c1, r1⟩⟩ i2
/-- THE RULE for a def, its body sound by any means -/
theorem fok_ofS {P : Program} {w : World} {K : PySem.W.Frag} {mg : Str → Option Value} {base : Heap} {F : Str → Con → Prop} {k : Nat} {x qual : Str} {params : Arguments} {ps N : List Str} {body : List Stmt} {scope : Scope} {cn : Con} {b : I} {c : Cs}
    (hK : G.K = K) (hmg : G.mg = mg) (fu : Fun' K mg x qual params ps body scope) (S : FnScope N ps scope) (m : Mdl K mg c) (hc : c.N = N ∧ c.sc = scope ∧ c.fnb = fun _ => true) (hgd : c.gd = true → cn.gd = true) (hfil : c.rai = true → (P.main.file : Str) = c.fil ∧ (P.main.scope.names.lookup ("super" : Str)).isSome = false)
    (htab : c.lam = true → ∀ (f : Addr) (oc : Value) (od : Option Addr) (dV kV doc pm : Value) (an : Option Addr) (cdv ct : Value) (osl : Array (Option Value)), mg x = some (.ref f) → K.lookup f = some ⟨oc, od, .func (PySem.W.fnOf x qual params body scope dV kV doc pm an cdv ct), osl⟩ →
      ∃ cd P, cdv = .ref cd ∧ LamX.TabB base mg cd P ∧ (P, lamQ qual) ∈ G.tabs ∧ ∀ p ∈ G.tabs, p.1 = P → p.2 = lamQ qual) (hio : ps.length = cn.io.length) (hkw : ∀ ks pm, (ks, pm) ∈ cn.kws → pm.length = ps.length ∧ (∀ j ∈ pm, j < ks.length) ∧ ∀ (kV doc pmv : Value) (an : Option Addr) (cdv ct : Value) (ws : List Value), ws.length = ks.length → bindArgs (PySem.W.fnOf x qual params body scope .none kV doc pmv an cdv ct) ⟨[], ks.zip ws⟩ = pure (ps.zip (pmL pm ws))) (hfr : ioFree b 0 cn.io = true)
    (hF : ∀ y cy, F y cy → Fok P w K mg base G k y cy) (hss : ∀ (X : Cx) (f : CF), TopX P w K mg base X → GoodS G ⟨F, f, fun _ => .pass⟩ k c X → SSs X G body b)
    (wp : ∀ ds ts as Pn Pe, argE cn.io ds ts = some as → cn.run ds ts Pn Pe → wpD b cn.io (N.length - ps.length) as Pn Pe) : Fok P w K mg base G (k + c.dp + 1) x cn :=
  fok_ofL (b := fun _ => b) (bod := fun _ => .pass) hK hmg fu S m hc hgd hfil htab hio hkw (fun _ => hfr) hF hss fun _ => wp
/-- THE RULE for a def -/
theorem fok_of {P : Program} {w : World} {K : PySem.W.Frag} {mg : Str → Option Value} {base : Heap} {F : Str → Con → Prop} {k : Nat} {x qual : Str} {params : Arguments} {ps N : List Str} {body : List Stmt} {scope : Scope} {cn : Con} {b : I} {c : Cs}
    (hK : G.K = K) (hmg : G.mg = mg) (fu : Fun' K mg x qual params ps body scope) (S : FnScope N ps scope) (m : Mdl K mg c) (hc : c.N = N ∧ c.sc = scope ∧ c.fnb = fun _ => true) (hgd : c.gd = true → cn.gd = true) (hfil : c.rai = true → (P.main.file : Str) = c.fil ∧ (P.main.scope.names.lookup ("super" : Str)).isSome = false)
    (htab : c.lam = true → ∀ (f : Addr) (oc : Value) (od : Option Addr) (dV kV doc pm : Value) (an : Option Addr) (cdv ct : Value) (osl : Array (Option Value)), mg x = some (.ref f) → K.lookup f = some ⟨oc, od, .func (PySem.W.fnOf x qual params body scope dV kV doc pm an cdv ct), osl⟩ →
      ∃ cd P, cdv = .ref cd ∧ LamX.TabB base mg cd P ∧ (P, lamQ qual) ∈ G.tabs ∧ ∀ p ∈ G.tabs, p.1 = P → p.2 = lamQ qual) (hio : ps.length = cn.io.length) (hkw : ∀ ks pm, (ks, pm) ∈ cn.kws → pm.length = ps.length ∧ (∀ j ∈ pm, j < ks.length) ∧ ∀ (kV doc pmv : Value) (an : Option Addr) (cdv ct : Value) (ws : List Value), ws.length = ks.length → bindArgs (PySem.W.fnOf x qual params body scope .none kV doc pmv an cdv ct) ⟨[], ks.zip ws⟩ = pure (ps.zip (pmL pm ws))) (hfr : ioFree b 0 cn.io = true)
    (hF : ∀ y cy, F y cy → Fok P w K mg base G k y cy) (chk : chkSs b c body = true) (ok : ∀ f, okI ⟨F, f, fun _ => .pass⟩ b)
    (wp : ∀ ds ts as Pn Pe, argE cn.io ds ts = some as → cn.run ds ts Pn Pe → wpD b cn.io (N.length - ps.length) as Pn Pe) : Fok P w K mg base G (k + c.dp + 1) x cn :=
  fok_ofS hK hmg fu S m hc hgd hfil htab hio hkw hfr hF (fun _ f _ g => (motS b).Ss g (ok f) chk) wp
end
end FW
set_option Elab.async false
set_option linter.all false
set_option maxRecDepth 100000
set_option maxHeartbeats 4000000
namespace FW
open PySem PySem.Spec PyProof.Rows L2
/-! ## the law's own call -/
section
variable {G : GC} {P : Program} {w : World} {K : PySem.W.Frag} {mg mb : Str → Option Value} {k : Nat} {fa a : Addr} {cs : List (Addr × Addr)} {x : Str} {cn : Con} {s₁ : Shared} {vs : List Value} {ns : List Int}
/-- what is tracked as the law begins: the tables, and the script where it is not of the written part -/
def H1 (K : PySem.W.Frag) (cs : List (Addr × Addr)) (a : Addr) (o : Obj) (ns : List Int) : Hp := fun b =>
  if b ∈ cs.map (·.2) then some (.tbl #[]) else if b = a then (if (K.lookup a).isSome then none else some (.frz o (.lst (ns.map V.int)))) else none
theorem law_run (hK : G.K = K) (KX : K.In s₁.heap) (hns : s₁.heap.Ns mainGlobals mg) (hbn : s₁.heap.Ns builtinsNs mb) (hbb : ∀ x : Str, x ≠ "__name__" → mb x = bootBuiltins x) (hlim : s₁.heap.NoLimit) (hg : s₁.gens = #[])
    (hT : ∀ p ∈ cs, s₁.heap.get? p.2 = some { cls := .none, data := .fields #[] }) (nT : ∀ p ∈ cs, K.lookup p.2 = none) (hC : ∀ p ∈ cs, PySem.W.CodeHd s₁.heap p.1 p.2)
    (hbm : ∃ (bm : Addr) (ob : Obj), mg "__builtins__" = some (.ref bm) ∧ bm ≠ builtinsNs ∧ s₁.heap.get? bm = some ob ∧ ob.cls = .type "module" ∧ ob.dict = some builtinsNs ∧ ob.data = .plain)
    (ha : s₁.heap.get? a = some { cls := .type "list", data := .seq vs.toArray }) (hi : IntsAre vs ns) (hl : ns.length ≤ sizeLine) (hr : Room k callerA) (hm : mg x = some (.ref fa))
    (F : ∀ base : Heap, K.In base → base.Ns mainGlobals mg → (∀ p ∈ cs, LamX.TabB base mg p.1 p.2) → Fok P w K mg base G k x cn) (hio : cn.io = [false]) (hbind : ∀ (s : Shared) (fd : FuncData) (u : Value), Binds K fd [] [] → True)
    (hGt : ∀ p ∈ G.tabs, ∃ c, (c, p.1) ∈ cs) (hrun : cn.run [.scr ns] [] (fun t _ => t = .val (.bl true)) (fun _ _ => False)) :
    codeAny (model P w) callerA (.call (.ref fa) ⟨[.ref a], []⟩) (fun r s' => r = .ok (.ret (.bool true)) ∧ OldK s₁.heap s'.heap ∧ s'.os = s₁.os ∧ AllBare s'.gens) s₁ := by
  have rv := vals_ints hi
  have lenV : vs.length = ns.length := hi.length
  let ob : Obj := { cls := .type "list", data := .seq vs.toArray }
  let H := H1 K cs a ob ns
  have hob : s₁.heap.get? a = some ob := ha
  have tabT : ∀ b, b ∈ cs.map (·.2) → s₁.heap.get? b = some { cls := .none, data := .fields #[] } := fun b hb => by
    obtain ⟨p, hp, e⟩ := List.mem_map.mp hb
    exact e ▸ hT p hp
  have aT : a ∉ cs.map (·.2) := fun z => by
    have q := (tabT a z).symm.trans ha
    cases q
  have HT : ∀ b, b ∈ cs.map (·.2) → H b = some (.tbl #[]) := fun b hb => if_pos hb
  have HA : ∀ b u, H b = some u → (b ∈ cs.map (·.2) ∧ u = .tbl #[]) ∨ (b = a ∧ K.lookup a = none ∧ u = .frz ob (.lst (ns.map V.int))) := fun b u e => by
    have e : (if b ∈ cs.map (·.2) then some (HO.tbl #[]) else if b = a then (if (K.lookup a).isSome then none else some (HO.frz ob (.lst (ns.map V.int)))) else none) = some u := e
    by_cases h1 : b ∈ cs.map (·.2)
    · rw [if_pos h1] at e
      exact .inl ⟨h1, (Option.some.inj e).symm⟩
    · rw [if_neg h1] at e
      by_cases h2 : b = a
      · rw [if_pos h2] at e
        cases h3 : (K.lookup a).isSome with
        | true => rw [h3] at e; cases e
        | false =>
          rw [h3] at e
          exact .inr ⟨h2, by simpa using h3, (Option.some.inj e).symm⟩
      · rw [if_neg h2] at e; cases e
  have free : ∀ {b : Addr} {o : Obj}, s₁.heap.get? b = some o → (∀ ws n, o.data ≠ .seq ws n) → o.data ≠ .fields #[] → H b = none := fun {b o} e n1 n2 => by
    cases q : H b with
    | none => rfl
    | some u =>
      rcases HA b u q with ⟨h, _⟩ | ⟨h, _⟩
      · have z := (tabT b h).symm.trans e
        cases z; exact absurd rfl n2
      · subst h
        have z := ha.symm.trans e
        cases z; exact absurd rfl (n1 _ _)
  have nsB : ∀ {b : Addr} {m : Str → Option Value}, s₁.heap.Ns b m → (hidT s₁.heap H).Ns b m := fun {b m} ⟨o, es, ep, e, d, r⟩ =>
    ⟨o, es, ep, hidT_get e (free e (fun ws n z => by rw [d] at z; cases z) fun z => by rw [d] at z; cases z), d, r⟩
  have inB : K.In (hidT s₁.heap H) := fun b o e => hidT_get (KX b o e) (by
    cases q : H b with
    | none => rfl
    | some u =>
      rcases HA b u q with ⟨h, _⟩ | ⟨h, h2, _⟩
      · obtain ⟨p, hp, z⟩ := List.mem_map.mp h
        rw [← z, nT p hp] at e; cases e
      · rw [h, h2] at e; cases e)
  have md : L2.Mod K mg (hidT s₁.heap H) := ⟨inB, nsB hns, ⟨mb, nsB hbn, hbb⟩, let ⟨c, q1, q2⟩ := hlim; ⟨c, nsB q1, q2⟩⟩
  have hok : HOk P w H s₁.heap := fun b u e => by
    rcases HA b u e with ⟨h, rfl⟩ | ⟨rfl, _, rfl⟩
    · exact tabT b h
    · exact ⟨ha, by rw [List.length_map]; exact hl, vs, _, rv, ha⟩
  have tb : ∀ p ∈ cs, LamX.TabB (hidT s₁.heap H) mg p.1 p.2 := fun p hp => by
    have hTp := hT p hp
    refine ⟨?_, ?_, fun z => ?_⟩
    · obtain ⟨o, us, file, tf, flags, tg, inF, text, tt, e1, q1, q2, q3, q4, q5, q6, q7, q8, hne⟩ := hC p hp
      refine ⟨o, us, file, tf, flags, tg, inF, text, tt, hidT_get e1 (free e1 (fun ws n z => by rw [q2] at z; cases z) fun z => ?_), q1, q2, q3, q4, q5, q6, q7, q8, hne⟩
      rw [q2] at z; cases z; simp at q3
    · obtain ⟨bm, om, b1, b2, b3, b4, b5, b6⟩ := hbm
      refine ⟨bm, om, b1, b2, fun q => ?_, fun q => ?_, hidT_get b3 (free b3 (fun ws n z => by rw [b6] at z; cases z) fun z => by rw [b6] at z; cases z), b4, b5, b6⟩
      · obtain ⟨o, es, ep, e, hd, _⟩ := hns
        have z := (q ▸ b3).symm.trans e
        cases z; rw [hd] at b6; cases b6
      · have z := (q ▸ b3).symm.trans hTp
        cases z; cases b6
    · obtain ⟨o, es, ep, e, hd, _⟩ := hns
      have q := (z ▸ e).symm.trans hTp
      cases q; cases hd
  have en : Env0 P w K mg (hidT s₁.heap H) callerA [] s₁ H := ⟨rfl, md, fun b o e => of_hidT e, Nat.le_of_eq (hidT_size _ _), trivial, fun b hb => absurd hb (by simp [frs]), hok, .of_eq hg⟩
  have sq : SqL K (fun b => if b ∈ cs.map (·.2) then none else H b) a (ns.map V.int) := by
    cases h : K.lookup a with
    | some o =>
      have e := (KX a o h).symm.trans ha
      cases e
      exact .inr ⟨_, vs.toArray, _, h, rfl, rfl, rfl, by rw [List.size_toArray, lenV]; exact hl, by simpa using rv⟩
    | none =>
      refine .inl (.inr ⟨ob, ?_⟩)
      show (if a ∈ cs.map (·.2) then none else H1 K cs a ob ns a) = _
      rw [if_neg aT]
      unfold H1
      rw [if_neg aT, if_pos rfl, h]; rfl
  have r0 : R G H ((some (.ref a), some (.val (.scr ns))) :: []) := by
    refine ⟨fun b => if b ∈ cs.map (·.2) then none else H b, [] ++ [], fun b o e => ?_, .cons (.val (.scr (hK ▸ sq))) .nil, by simp, fun b hb => by simp at hb, ⟨fun p hp => ?_, fun b ps e => ?_⟩⟩
    · by_cases q : b ∈ cs.map (·.2)
      · rw [if_pos q] at e; cases e
      · rw [if_neg q] at e; exact e
    · obtain ⟨c, hc⟩ := hGt p hp
      exact LamX.TabS.nil (HT p.1 (List.mem_map.mpr ⟨_, hc, rfl⟩))
    · by_cases q : b ∈ cs.map (·.2)
      · rw [if_pos q] at e; cases e
      · rw [if_neg q] at e
        rcases HA b _ e with ⟨h, _⟩ | ⟨_, _, h⟩
        · exact q h
        · cases h
  obtain ⟨f, fd, ps, q1, q2, q3, q4, _, q5⟩ := (F _ inB (nsB hns) tb).ex
  have ef : f = fa := by rw [q1] at hm; cases hm; rfl
  subst ef
  have hps : ps.length = 1 := by rw [q4, hio]; rfl
  have bt : BindsTo s₁ fd ⟨[.ref a], []⟩ (ps.zip [Value.ref a]) := by
    have := q3 s₁ [.ref a] KX (by rw [List.append_nil]; exact hps.symm)
    rwa [List.append_nil] at this
  have sp : spC G cn [.ref a] H (fun v _ => v = .bl true) (fun _ _ _ => False) := by
    refine ⟨[], [.scr ns], [], [.val (.scr ns)], _, _, by rw [hio]; rfl, by rw [hio]; rfl, r0, hrun, fun v H' t ts' _ r' p => ?_, fun _ _ _ _ _ _ _ z => z⟩
    subst p
    exact r'.bl List.mem_cons_self rfl
  refine codeAny_mono (q5 callerA [] s₁ H ⟨[.ref a], []⟩ [.ref a] [.ref a] _ _ hr (fun _ => rfl) en bt (.cons rfl .nil) sp) fun r s' h => ?_
  cases r with
  | error e =>
    obtain ⟨_, _, _, _, _, _, _, _, _, _, _, _, z⟩ := h
    exact z.elim
  | ok fl =>
    cases fl with
    | next => exact False.elim h
    | brk => exact False.elim h
    | cont => exact False.elim h
    | ret u =>
      obtain ⟨v, H', os, bare, un, hok', r', q⟩ := h
      have q : v = .bl true := q
      subst q
      obtain rfl : u = Value.bool true := r'
      have kept : ∀ b o, b ∉ cs.map (·.2) → s₁.heap.get? b = some o → s'.heap.get? b = some o := fun b o nb e => by
        cases q : H b with
        | none => exact un.keep b o e q (by simp [frs]) (by simp)
        | some u =>
          rcases HA b u q with ⟨z, _⟩ | ⟨rfl, _, rfl⟩
          · exact absurd z nb
          · have e2 := (hok' _ _ (un.frzs _ _ _ q)).1
            have z := e.symm.trans ha
            cases z; exact e2
      have more : ∀ p ∈ cs, ∃ m : Array Value, s'.heap.get? p.2 = some { cls := .none, data := .fields m } := fun p hp => by
        obtain ⟨m, z⟩ := un.tbls p.2 #[] (HT _ (List.mem_map.mpr ⟨p, hp, rfl⟩))
        exact ⟨_, hok' p.2 _ z⟩
      refine ⟨rfl, ⟨fun b o e => ?_, fun b o e => ?_⟩, os, bare⟩
      · by_cases hb : b ∈ cs.map (·.2)
        · obtain ⟨p, hp, rfl⟩ := List.mem_map.mp hb
          obtain ⟨m, z⟩ := more p hp
          have y := e.symm.trans (hT p hp)
          cases y
          exact .inr (.inl ⟨((hC p hp).tab (hT p hp)).isCodeTable, rfl, #[], m, rfl, by rw [Array.empty_append]; exact z⟩)
        · exact .inl (kept b o hb e)
      · by_cases hb : b ∈ cs.map (·.2)
        · obtain ⟨p, hp, rfl⟩ := List.mem_map.mp hb
          exact ⟨_, (more p hp).choose_spec⟩
        · exact ⟨o, kept b o hb e⟩
end
end FW
set_option Elab.async false
set_option linter.all false
set_option maxRecDepth 100000
set_option maxHeartbeats 4000000
namespace FW
open PySem PySem.Spec PyProof.Rows L2
/-! ## the head: what is seen of the written part -/
theorem excCB_ok {K : PySem.W.Frag} {D : Addr} (h : excCB K D = true) : ExcC K D := by
  unfold excCB eqV at h
  simp only [Bool.and_eq_true, decide_eq_true_eq] at h
  obtain ⟨⟨⟨⟨⟨⟨⟨h1, h2⟩, h3⟩, h4⟩, h5⟩, h6⟩, h7⟩, h8⟩ := h
  exact ⟨h1, h2, h3, h4, h5, h6, h7, h8⟩
section
variable {K : PySem.W.Frag} {h : Heap} {mg : Str → Option Value} {m : Mf} {c : Cs}
theorem Mf.mdl (X : K.In h) (N : h.Ns mainGlobals mg) (e : m.ok K = true) (h1 : c.nums = m.nums) (h2 : c.defs = m.defs) (h3 : c.excs = m.excs) (h4 : c.net = m.net) (h5 : c.nets = m.nets) (h6 : c.isx = m.isx) (h7 : c.inis = m.inis) (h8 : c.fil = m.fil) (hc : c.lam = true → CauOk K mg c.cau c.net) : Mdl K mg c := by
  unfold Mf.ok at e
  simp only [Bool.and_eq_true, List.all_eq_true, decide_eq_true_eq, Bool.or_eq_true] at e
  obtain ⟨⟨⟨⟨⟨⟨⟨⟨e1, e2⟩, e3⟩, e4⟩, e5⟩, e6⟩, e7⟩, ⟨e9, e10⟩⟩, e8⟩ := e
  have isV : ∀ y : Str, (if y = "ValueError" then (He.Fa.free "ValueError").ok K else (He.Fa.glo y).ok K) = true → ClsOk mg y (clsV K y) := fun y g1 => by
    unfold clsV
    by_cases z : y = "ValueError"
    · rw [if_pos z] at g1 ⊢
      exact .inr ⟨z, rfl, z ▸ He.free_ok X N g1⟩
    · rw [if_neg z] at g1 ⊢
      exact .inl ⟨_, rfl, He.glo_ok X N g1⟩
  refine ⟨fun x hx => He.free_ok X N (e1 x hx), fun x i hx => He.int_ok X N (e2 (x, i) (h1 ▸ hx)), fun x hx => ⟨_, He.glo_ok X N (e3 x (h2 ▸ hx))⟩, fun x hx => ?_, hc, fun n hn => ?_, fun q hq => ?_, fun q hq => ?_⟩
  · obtain ⟨g1, g2⟩ := e4 x (h3 ▸ hx)
    obtain ⟨a, b, cc, d⟩ := He.exc_ok g2
    exact ⟨_, He.glo_ok X N g1, a, b, cc, d⟩
  · obtain ⟨g1, g2⟩ := e5 n (h5 ▸ hn)
    refine ⟨_, He.glo_ok X N g1, fun NE hNE => ?_⟩
    have g3 : (He.Fa.glo m.net).ok K = true := by
      rcases e6 with z | z
      · rw [← h5] at z
        cases hz : c.nets with
        | nil => rw [hz] at hn; simp at hn
        | cons _ _ => rw [hz] at z; cases z
      · exact z
    have := He.glo_ok X N g3
    rw [h4, this] at hNE
    cases hNE
    exact He.exm_ok g2
  · have hq : q ∈ m.isx := h6 ▸ hq
    unfold Mf.isx at hq
    rcases List.mem_append.mp hq with hq | hq
    · obtain ⟨⟨g1, g2⟩, g3⟩ := e7 q hq
      refine ⟨clsV K q.1, isV _ g1, g2, fun p hp => ?_⟩
      obtain ⟨⟨k1, k2⟩, k3⟩ := g3 p hp
      exact ⟨_, He.glo_ok X N k1, excCB_ok k2, k3⟩
    · obtain ⟨r, hr, rfl⟩ := List.mem_map.mp hq
      have g := e10 r hr
      unfold isxB at g
      simp only [Bool.and_eq_true, List.all_eq_true, decide_eq_true_eq] at g
      obtain ⟨⟨g1, g2⟩, g3⟩ := g
      refine ⟨clsV K r.1, isV _ g1, g2, fun p hp => ?_⟩
      obtain ⟨x, hx, rfl⟩ := List.mem_map.mp hp
      obtain ⟨k1, k2⟩ := e9 x hx
      exact ⟨_, He.glo_ok X N k1, excCB_ok k2, g3 (x, He.ga K x) (List.mem_map.mpr ⟨x, hx, rfl⟩)⟩
  · obtain ⟨⟨g1, g2⟩, g3⟩ := e8 q (h7 ▸ hq)
    exact ⟨_, _, He.glo_ok X N g1, h8 ▸ iniB_ok g2, xfB_ok g3⟩
/-- a def by its head's datum -/
theorem fun_of {x qual : Str} {params : Arguments} {ps : List Str} {body : List Stmt} {scope : Scope} {f : Addr} {fd : FuncData} (F : FunD K x qual params body scope [] [] f fd) (hm : mg x = some (.ref f))
    (hb : ∀ (kV doc pm : Value) (an : Option Addr) (cdv ct : Value) (us : List Value), us.length = ps.length → bindArgs (PySem.W.fnOf x qual params body scope .none kV doc pm an cdv ct) ⟨us, []⟩ = pure (ps.zip us)) : Fun' K mg x qual params ps body scope := by
  refine ⟨f, fd, hm, F, F.bindsN hb, fun args binds h s => ?_⟩
  obtain ⟨oc, od, dV, kV, doc, pm, an, cdv, ct, osl, rfl, lk, hcd, hD, hK⟩ := F.ex
  rcases hD with ⟨_, rfl⟩ | ⟨e, _⟩
  · exact .of_eq (h kV doc pm an cdv ct)
  · exact absurd rfl e
end
/-! ### the Hook -/
theorem SaysM.def_ {m : Mf} {ls : List Str} {fn : List He.DefD} {K : PySem.W.Frag} {h : Heap} (c : SaysM m ls fn K h) (i : Nat) {d : He.DefD} (hd : fn[i]? = some d := by rfl) : ∃ fd, FunD K d.name d.qual d.params d.body d.scope (d.dvs K) (d.kws K) (He.fAd K d.at_) fd := by
  have e2 : (fn.map fun d => He.fnW K d.at_)[i]? = (fn.map He.DefD.val)[i]? := by rw [c.dfs]
  rw [List.getElem?_map, List.getElem?_map, hd] at e2
  exact He.DefD.funD (Option.some.inj e2) (c.dok d (List.mem_of_getElem? hd))
/-! ### the tables -/
/-- of each def with lambdas: its code object, its table -/
def tabL (K : PySem.W.Frag) (ls : List Str) : List (Addr × Addr) := ls.map fun x => (PySem.W.tabIn K x).getD (0, 0)
def tabsG (K : PySem.W.Frag) (ls : List Str) : List (Addr × Str) := ls.map fun x => (((PySem.W.tabIn K x).getD (0, 0)).2, lamQ x)
theorem tab_code {K : PySem.W.Frag} {x : Str} {c P f : Addr} (h : PySem.W.tabIn K x = some (c, P)) (hm : PySem.W.nsIn K mainGlobals x = some (some (.ref f))) {oc : Value} {od : Option Addr} {fd : FuncData} {osl : Array (Option Value)} (lk : K.lookup f = some ⟨oc, od, .func fd, osl⟩) : fd.code = .ref c := by
  unfold PySem.W.tabIn at h
  rw [hm] at h
  dsimp only at h
  rw [lk] at h
  dsimp only at h
  split at h
  · rename_i c' e
    split at h
    · split at h
      · rw [e]
        injection h with h
        injection h with h1 h2
        rw [h1]
      · cases h
    · cases h
  · cases h
section
variable {m : Mf} {ls : List Str} {fn : List He.DefD} {K : PySem.W.Frag} {h base : Heap} {mg : Str → Option Value}
theorem SaysM.glo (s : SaysM m ls fn K h) {x : Str} (hx : x ∈ m.defs) : PySem.W.nsIn K mainGlobals x = some (some (.ref (He.ga K x))) := by
  have e := s.ok
  unfold Mf.ok at e
  simp only [Bool.and_eq_true, List.all_eq_true] at e
  exact He.eqO_ok (e.1.1.1.1.1.1.2 x hx)
theorem htab_of (s : SaysM m ls fn K h) (N : h.Ns mainGlobals mg) (TB : ∀ p ∈ tabL K ls, LamX.TabB base mg p.1 p.2) {x : Str} (hx : x ∈ ls) (hd : x ∈ m.defs) {qual : Str} {params : Arguments} {body : List Stmt} {scope : Scope} (f : Addr) (oc : Value) (od : Option Addr) (dV kV doc pm : Value) (an : Option Addr) (cdv ct : Value) (osl : Array (Option Value))
    (hm : mg x = some (.ref f)) (lk : K.lookup f = some ⟨oc, od, .func (PySem.W.fnOf x qual params body scope dV kV doc pm an cdv ct), osl⟩) : ∃ cd P, cdv = .ref cd ∧ LamX.TabB base mg cd P ∧ (P, lamQ x) ∈ tabsG K ls ∧ ∀ p ∈ tabsG K ls, p.1 = P → p.2 = lamQ x := by
  obtain ⟨c, P, t1, t2, t3, t4⟩ := s.tab x hx
  have g := s.glo hd
  have e := PySem.W.mg_of s.inn N g
  rw [hm] at e
  cases e
  have ec := tab_code t1 g lk
  refine ⟨c, P, ec, TB (c, P) (List.mem_map.mpr ⟨x, hx, by rw [t1]; rfl⟩), List.mem_map.mpr ⟨x, hx, by rw [t1]; rfl⟩, fun p hp e => ?_⟩
  obtain ⟨y, hy, rfl⟩ := List.mem_map.mp hp
  have inj : ∀ {l : List Str} {φ : Str → Addr}, (l.map φ).Nodup → ∀ {a b : Str}, a ∈ l → b ∈ l → φ a = φ b → a = b := by
    intro l φ
    induction l with
    | nil => intro _ a b ha; simp at ha
    | cons z l ih =>
      intro hn a b ha hb hab
      obtain ⟨n1, n2⟩ := List.nodup_cons.mp hn
      rcases List.mem_cons.mp ha with e1 | e1 <;> rcases List.mem_cons.mp hb with e2 | e2
      · rw [e1, e2]
      · exact absurd (List.mem_map.mpr ⟨b, e2, by rw [← hab, e1]⟩) n1
      · exact absurd (List.mem_map.mpr ⟨a, e1, by rw [hab, e2]⟩) n1
      · exact ih n2 e1 e2 hab
  have := inj (φ := fun x => ((PySem.W.tabIn K x).getD (0, 0)).2) s.dst hy hx (by rw [t1]; exact e)
  rw [this]
abbrev GCm (K : PySem.W.Frag) (mg : Str → Option Value) (ls : List Str) : GC := ⟨K, mg, tabsG K ls⟩
/-- THE END of a law -/
theorem walkM {l : PySem.W.OpenLaw} {n k : Nat} {q : Program} {loose : List Str} {XP : (Str → Option Value) → Heap → Prop} {d : DefRec} {x : Str} {cn : Con}
    (hn : l.most = some n) (hn2 : n ≤ sizeLine) (hdf : d.params.defaults = []) (hr : Room k callerA) (hx : d.name = x) (hio : cn.io = [false])
    (F : ∀ (w : World) (mg : Str → Option Value) (h : Heap) (K : PySem.W.Frag), SaysM m ls fn K h → h.Ns mainGlobals mg → ∀ base : Heap, K.In base → base.Ns mainGlobals mg → (∀ p ∈ tabL K ls, LamX.TabB base mg p.1 p.2) → Fok l.prog w K mg base (GCm K mg ls) k x cn)
    (hrun : ∀ ns : List Int, ns.length ≤ n → (∀ z ∈ ns, Builtin.Int.intBits z ≤ 1048576) → cn.run [.scr ns] [] (fun t _ => t = .val (.bl true)) (fun _ _ => False)) :
    PySem.W.WalkO q loose XP (fun _ h => ∃ K, SaysM m ls fn K h) l.row.toRowW d [] (fun f vs => PySem.call f vs) := by
  refine Att.attach_callB hn hdf fun w s₀ s₁ mg mb fa o pm cd doc a vs ns G Y ho hd hcd hmg hobj hints hlen hbits hg => ?_
  obtain ⟨K, s⟩ := Y
  have tl : ∀ p ∈ tabL K ls, s₁.heap.get? p.2 = some { cls := .none, data := .fields #[] } ∧ K.lookup p.2 = none ∧ PySem.W.codeHdIn K p.1 p.2 = true := fun p hp => by
    obtain ⟨y, hy, rfl⟩ := List.mem_map.mp hp
    obtain ⟨c, P, t1, t2, t3, t4⟩ := s.tab y hy
    rw [t1]
    exact ⟨t4, t3, t2⟩
  refine law_run (G := GCm K mg ls) (cs := tabL K ls) (x := x) (cn := cn) rfl s.inn G.T.g G.T.b G.T.builtins G.T.nolimit hg (fun p hp => (tl p hp).1) (fun p hp => (tl p hp).2.1) (fun p hp => PySem.W.codeHd_of_K s.inn (tl p hp).2.2) G.T.bmain hobj hints (Nat.le_trans hlen hn2) hr (hx ▸ hmg) (F w mg _ K s G.T.g) hio (fun _ _ _ _ => trivial) (fun p hp => ?_) (hrun ns hlen hbits)
  obtain ⟨y, hy, rfl⟩ := List.mem_map.mp hp
  exact ⟨_, List.mem_map.mpr ⟨y, hy, rfl⟩⟩
end
end FW
set_option Elab.async false
set_option linter.all false
set_option maxRecDepth 100000
namespace FW
open PySem PySem.Spec PyProof.Rows
/-! ## the meaning, worked out from its head alone
What comes behind (a continuation) is hidden from simp by congruence lemmas: only the store and the slots looked at are worked on. -/
theorem frzL_vals' (ds : List D) : T.frzL (vals ds) = some ds := by
  induction ds with
  | nil => rfl
  | cons d ds ih => show T.frzL (.val d :: vals ds) = _; simp [T.frzL, T.frz, ih]
theorem vwv' (ds : List D) : T.views (vals ds) = some ds := by
  induction ds with
  | nil => rfl
  | cons d ds ih => show T.views (.val d :: vals ds) = _; simp [T.views, ih]
@[simp] theorem view_val (d : D) : (T.val d).view = some d := rfl
@[simp] theorem view_lst (ds : List D) : (T.lst (vals ds)).view = some (.lst ds) := by simp [T.view, vwv']
@[simp] theorem views_nil : T.views [] = some [] := rfl
@[simp] theorem views_cons {d : D} {ts : List T} : T.views (.val d :: ts) = (T.views ts).map (d :: ·) := rfl
@[simp low] theorem view_lst' {ts : List T} : (T.lst ts).view = (T.views ts).map D.lst := rfl
@[simp] theorem frz_val (d : D) : (T.val d).frz = some d := rfl
@[simp] theorem frz_lst (ds : List D) : (T.lst (vals ds)).frz = some (.lst ds) := by simp [T.frz, frzL_vals']
theorem vals_app (a b : List D) : vals (a ++ b) = vals a ++ vals b := by simp [vals]
@[simp] theorem vals_app' (a b : List D) : vals a ++ vals b = vals (a ++ b) := (vals_app a b).symm
@[simp] theorem vals_snoc (a : List D) (d : D) : vals a ++ [.val d] = vals (a ++ [d]) := (vals_app a [d]).symm
/-! ### the heads -/
def condK (k : Bool) (p q : Prop) : Prop := if k = true then p else q
def useK (o : Option (Option T)) (i : Nat) (env : Env') (Q : T → Env' → Prop) : Prop :=
  match o with
  | some (some t) => (match t with
    | .val d => Q (.val d) env
    | .lst ts => ∃ d, (T.lst ts).frz = some d ∧ Q (.val d) (env.set i (some (.val d)))
    | _ => False)
  | _ => False
def viewO (o : Option (Option T)) : Option D := match o with
  | some (some t) => t.view
  | _ => none
def op2K (o : Op2) (va vb : Option D) (Q : T → Prop) : Prop := ∃ x y, va = some x ∧ vb = some y ∧ opS2 o x y Q
def op1K (o : Op1) (va : Option D) (Q : T → Prop) : Prop := ∃ x, va = some x ∧ opS1 o x Q
def blK (t : T) (f : Bool → Prop) : Prop := ∃ k, t = .val (.bl k) ∧ f k
def intK (t : T) (f : Int → Prop) : Prop := ∃ i, t = .val (.int i) ∧ f i
def slotK (o : Option (Option T)) (f : T → Prop) : Prop := ∃ t, o = some (some t) ∧ f t
def isLK (t : T) (f : List T → Prop) : Prop := ∃ ts, t = .lst ts ∧ f ts
def frzK (o : Option D) (f : D → Prop) : Prop := ∃ d, o = some d ∧ f d
def slcK (o : Option D) (f g : List D → Prop) : Prop := ∃ x, o = some x ∧ match x with
  | .tup ds => f ds
  | .lst ds => g ds
  | _ => False
def bltK (o : Option (List D)) (f : Bf) (Q : T → Prop) : Prop := ∃ ds, o = some ds ∧ bfS f ds Q
def truK (o : Option D) (f : Bool → Prop) : Prop := ∃ x k, o = some x ∧ x.truth = some k ∧ f k
def itK (o : Option D) (f : List D → Prop) : Prop := ∃ x, o = some x ∧ itS x f
def itrK (o : Option D) (f : List D → Prop) : Prop := ∃ x, o = some x ∧ itR x f
def isiK (o : Option Bool) (f : Bool → Prop) : Prop := ∃ b, o = some b ∧ f b
def blsK (a : List D) (f : List Bool → Prop) : Prop := ∃ bs : List Bool, a = bs.map D.bl ∧ f bs
def intsK (a : List D) (f : List Int → Prop) : Prop := ∃ ns : List Int, a = ns.map D.int ∧ f ns
def call0 (c : Con) (ds : List D) (Q : T → Env' → Prop) (E : KE) (e : Env') : Prop := c.run ds [] (fun r _ => Q r e) (fun x _ => E x e)
def k1 (Q : T → Env' → Prop) (e : Env') (i : Nat) (r : T) (ts' : List T) : Prop := ∃ t', ts' = [t'] ∧ Q r (e.set i (some t'))
def x1' (E : KE) (e : Env') (i : Nat) (x : D) (ts' : List T) : Prop := ∃ t', ts' = [t'] ∧ E x (e.set i (some t'))
def call1 (c : Con) (ds : List D) (o : Option (Option T)) (i : Nat) (Q : T → Env' → Prop) (E : KE) (e : Env') : Prop := ∃ t, o = some (some t) ∧ c.run ds [t] (k1 Q e i) (x1' E e i)
def callF (c : Con) (rs : List Nat) (Q : T → Env' → Prop) (E : KE) (ds : List D) (e : Env') : Prop := match rs with
  | [] => call0 c ds Q E e
  | [i] => call1 c ds e[i]? i Q E e
  | _ => False
def compK (g cond elt : I) (Q : T → Env' → Prop) (src : List Tok) (items : List D) (e0 : Env') : Prop := ∃ J : Nat → List T → Env' → Prop, J 0 [] (clr e0 (tgs g)) ∧
      (∀ n acc e, J n acc e → ItOk e0 src e ∧ clr e (tgs g) = e ∧ acc.length ≤ Lim) ∧
      (∀ n acc e d, J n acc e → items[n]? = some d → tgt g d e fun e1 => wpT cond e1 (fun k e2 => condK k (wpE elt e2 (fun t e3 => J (n + 1) (acc ++ [t]) (clr e3 (tgs g))) (fun _ _ => False)) (J (n + 1) acc (clr e2 (tgs g)))) fun _ _ => False) ∧
      ∀ acc e, J items.length acc e → Q (.lst acc) e
def wpX (s : I) (env : Env') (nx : Env' → Prop) (P : Po) : Prop := wpS s env { P with nx := nx }
def Pl (P : Po) (ct bk : Env' → Prop) : Po := { P with ct := ct, bk := bk }
def forK (g b : I) (nx : Env' → Prop) (P : Po) (src : List Tok) (items : List D) (e0 : Env') : Prop := (∀ i, .slot i ∈ src → (tgs g).contains i = false ∧ asgd b i = false) ∧ ∃ J : Nat → Env' → Prop, J 0 e0 ∧ (∀ n e, J n e → ItOk e0 src e) ∧
      (∀ n e d, J n e → items[n]? = some d → tgt g d e fun e1 => wpX b e1 (J (n + 1)) (Pl P (J (n + 1)) nx)) ∧ ∀ e, J items.length e → nx e
def whileK (c b : I) (nx : Env' → Prop) (P : Po) (env : Env') : Prop := ∃ J : Nat → Env' → Prop, (∃ m, J m env) ∧ ∀ m e, J m e → wpT c e (fun k e1 => condK k (wpX b e1 (fun e2 => ∃ m', m' < m ∧ J m' e2) (Pl P (fun e2 => ∃ m', m' < m ∧ J m' e2) nx)) (nx e1)) P.ex
def dAtK (o : Option (Option T)) (k : Str) (P : List L2.Key → List T → Nat → T → Prop) : Prop := ∃ ks ts j t, o = some (some (.dic ks ts)) ∧ ks.Nodup ∧ ks.length = ts.length ∧ ks.length ≤ 1000 ∧ ks[j]? = some (.inr k) ∧ ts[j]? = some t ∧ P ks ts j t
def valK (t : T) (f : D → Prop) : Prop := ∃ d, t = .val d ∧ f d
def popK (o : Option (Option T)) (f : List T → T → Prop) : Prop := ∃ ts t, o = some (some (.lst (ts ++ [t]))) ∧ f ts t
def pop0K (t : T) (f : T → List T → Prop) : Prop := ∃ u us, t = .lst (u :: us) ∧ f u us
def dneK (t : T) (f : Bool → Prop) : Prop := ∃ ds, t = .lst (vals ds) ∧ D.plL ds 19 = true ∧ f (!ds.isEmpty)
def callLK (o : Option (Option T)) (tab : List (Str × Con)) (f : Con → Prop) : Prop := ∃ x cn, o = some (some (.val (.fn x))) ∧ (x, cn) ∈ tab ∧ f cn
def cvK (nets : List Str) (f : CF) (tab : I) (o : Option (Option T)) (env : Env') (Q : T → Env' → Prop) : Prop := ∃ j, o = some (some (.val (.clo f j))) ∧ wpJ tab j env (fun _ e' => Q (.val .non) e') fun x e' => ∃ c ns ds, x = .exc c ns ds ∧ c ∈ nets ∧ Q (.val (.exc c ns ds)) e'
def cwK (nets : List Str) (f : CF) (xt : List (Str × Bool)) (tab : I) (i w : Nat) (env : Env') (Q : T → Env' → Prop) : Prop := ∃ js : List Nat, env[i]? = some (some (.lst (vals (js.map (D.clo f))))) ∧ js.length ≤ Lim ∧ (i ≠ w ∧ w < env.length) ∧ ∃ J : Nat → Nat → Env' → Prop, J 0 0 (env.set w none) ∧
      (∀ n m e, J n m e → e[i]? = env[i]? ∧ e.set w none = e ∧ m ≤ n) ∧
      (∀ n m e j, J n m e → js[n]? = some j → wpJ tab j e (fun _ e' => J (n + 1) (m + 1) (e'.set w none)) fun x e' => ∃ c ns ds b, x = .exc c ns ds ∧ c ∈ nets ∧ (c, b) ∈ xt ∧ J (n + 1) (if b = true then m else m + 1) (e'.set w none)) ∧
      ∀ m e, J js.length m e → Q (.lst (vals (List.replicate m (.int 1)))) e
/-- each raises what is asked for -/
theorem cwK_all {nets : List Str} {f : CF} {xt : List (Str × Bool)} {tab : I} {i w : Nat} {env : Env'} {Q : T → Env' → Prop} (js : List Nat) (h1 : env[i]? = some (some (.lst (vals (js.map (D.clo f)))))) (h2 : js.length ≤ Lim) (h3 : i ≠ w ∧ w < env.length)
    (h4 : ∀ (N : T → Env' → Prop) (K : KE), (∀ c ns ds, c ∈ nets → (c, true) ∈ xt → K (.exc c ns ds) (env.set w none)) → ∀ j ∈ js, wpJ tab j (env.set w none) N K) (q : Q (.lst []) (env.set w none)) : cwK nets f xt tab i w env Q := by
  refine ⟨js, h1, h2, h3, fun n m e => e = env.set w none ∧ m = 0, ⟨rfl, rfl⟩, ?_, ?_, ?_⟩
  · rintro n m e ⟨rfl, rfl⟩
    exact ⟨by rw [List.getElem?_set_ne (Ne.symm h3.1)], by rw [List.set_set], Nat.zero_le _⟩
  · rintro n m e j ⟨rfl, rfl⟩ hj
    exact h4 _ _ (fun c ns ds a b => ⟨c, ns, ds, true, rfl, a, b, by rw [List.set_set], rfl⟩) j (List.mem_of_getElem? hj)
  · rintro m e ⟨rfl, rfl⟩
    exact q
def excK (nets : List Str) (x : D) (f : Str → List Str → List D → Prop) : Prop := ∃ c ns ds, x = .exc c ns ds ∧ c ∈ nets ∧ f c ns ds
def isXK (tab : List (Str × Bool)) (t : T) (f : Bool → Prop) : Prop := (t = .val .non ∧ f false) ∨ ∃ c ns ds b, t = .val (.exc c ns ds) ∧ (c, b) ∈ tab ∧ f b
def attrK (cs : List (Str × Str)) (n : Str) (t : T) (f : D → Prop) : Prop := ∃ c d, t = .val (.exc c [n] [d]) ∧ (c, n) ∈ cs ∧ f d
def cntK (x : Option D) (f : Nat → Prop) : Prop := ∃ ds, x = some (.lst ds) ∧ (D.lst ds).pl 20 = true ∧ f (ds.countP fun z => eqD z (.bl true))
def idxK (x : Option D) (f : Nat → Prop) : Prop := ∃ ds j z, x = some (.lst ds) ∧ (D.lst ds).pl 20 = true ∧ ds[j]? = some z ∧ eqD z (.bl true) = true ∧ (∀ (m : Nat) (z' : D), m < j → ds[m]? = some z' → eqD z' (.bl true) = false) ∧ f j
def ldK (x : Option D) (f : Nat → Prop) : Prop := ∃ ns : List Int, x = some (.lst (ns.map fun i => .tup [.int i, .bl true])) ∧ ns.Nodup ∧ f ns.length
def kepK (cs : List (Str × Str)) (o : Option (Option T)) (f : D → Prop) : Prop := ∃ c n d, o = some (some (.val (.exc c [n] [d]))) ∧ (c, n) ∈ cs ∧ f d
def tryK' (p : Prop) : Prop := p
def lenK (n m : Nat) (p : Prop) : Prop := n = m ∧ p
def tupK (t : T) (n : Nat) (f : List D → Prop) : Prop := ∃ ds, t = .val (.tup ds) ∧ ds.length = n ∧ f ds
def Inv (J : Env' → Prop) (e : Env') : Prop := J e
def outO (o : Option (List T)) (P : List T → Prop) : Prop := ∃ ts, o = some ts ∧ P ts
def outK (io : List Bool) (Pn : T → List T → Prop) (t : T) (e : Env') : Prop := ∃ ts, ioE io e = some ts ∧ Pn t ts
def outX (io : List Bool) (Pe : D → List T → Prop) (x : D) (e : Env') : Prop := ∃ ts, ioE io e = some ts ∧ Pe x ts
/-! ### only data and the store are looked at -/
section
variable {env env' : Env'} {Q : T → Env' → Prop} {E : KE} {P : Po} {QT : Bool → Env' → Prop} {QA : List D → Env' → Prop} {QO : List Tok → Env' → Prop} {QP : List T → Env' → Prop} {QI : List Tok → List D → Env' → Prop} {QB : Option Int → Env' → Prop} {i : I}
/-! ### heads at known data -/
@[simp] theorem condK_true {p q : Prop} : condK true p q = p := if_pos rfl
@[simp] theorem condK_false {p q : Prop} : condK false p q = q := if_neg (by decide)
theorem condK_by {k : Bool} {p q : Prop} (h1 : k = true → p) (h2 : k = false → q) : condK k p q := by cases k <;> simp_all
theorem condK_dec {a : Prop} [Decidable a] {p q : Prop} (h1 : a → p) (h2 : ¬a → q) : condK (decide a) p q := by by_cases h : a <;> simp [h, h1, h2]
theorem condK_ndec {a : Prop} [Decidable a] {p q : Prop} (h1 : a → q) (h2 : ¬a → p) : condK (!decide a) p q := by by_cases h : a <;> simp [h, h1, h2]
@[simp] theorem useK_val {d : D} {j : Nat} : useK (some (some (.val d))) j env Q = Q (.val d) env := rfl
@[simp] theorem useK_lst {ds : List D} {j : Nat} : useK (some (some (.lst (vals ds)))) j env Q = Q (.val (.lst ds)) (env.set j (some (.val (.lst ds)))) := by
  show (∃ d, (T.lst (vals ds)).frz = some d ∧ _) = _
  rw [frz_lst]
  simp
@[simp] theorem viewO_some {t : T} : viewO (some (some t)) = t.view := rfl
@[simp] theorem op2K_some {o : Op2} {x y : D} {Q : T → Prop} : op2K o (some x) (some y) Q = opS2 o x y Q := by simp [op2K]
@[simp] theorem op1K_some {o : Op1} {x : D} {Q : T → Prop} : op1K o (some x) Q = opS1 o x Q := by simp [op1K]
@[simp] theorem blK_bl {k : Bool} {f : Bool → Prop} : blK (.val (.bl k)) f = f k := by simp [blK]
@[simp] theorem intK_int {k : Int} {f : Int → Prop} : intK (.val (.int k)) f = f k := by simp [intK]
@[simp] theorem slotK_some {t : T} {f : T → Prop} : slotK (some (some t)) f = f t := by simp [slotK]
@[simp] theorem isLK_lst {ts : List T} {f : List T → Prop} : isLK (.lst ts) f = f ts := by simp [isLK]
@[simp] theorem frzK_some {d : D} {f : D → Prop} : frzK (some d) f = f d := by simp [frzK]
theorem frzK_of {o : Option D} {f : D → Prop} {d : D} (h : o = some d) (k : f d) : frzK o f := ⟨d, h, k⟩
@[simp] theorem slcK_tup {ds : List D} {f g : List D → Prop} : slcK (some (.tup ds)) f g = f ds := by simp [slcK]
@[simp] theorem slcK_lst {ds : List D} {f g : List D → Prop} : slcK (some (.lst ds)) f g = g ds := by simp [slcK]
@[simp] theorem bltK_some {ds : List D} {f : Bf} {Q : T → Prop} : bltK (some ds) f Q = bfS f ds Q := by simp [bltK]
theorem truK_of {x : D} {k : Bool} {f : Bool → Prop} (h : x.truth = some k) : truK (some x) f = f k := propext ⟨fun ⟨y, j, e1, e2, q⟩ => by cases e1; rw [h] at e2; cases e2; exact q, fun q => ⟨x, k, rfl, h, q⟩⟩
@[simp] theorem truK_bl {b : Bool} {f : Bool → Prop} : truK (some (.bl b)) f = f b := truK_of rfl
@[simp] theorem truK_non {f : Bool → Prop} : truK (some .non) f = f false := truK_of rfl
@[simp] theorem truK_int {k : Int} {f : Bool → Prop} : truK (some (.int k)) f = f (!decide (k = 0)) := by
  rw [truK_of (k := k != 0) rfl, show (k != 0) = !decide (k = 0) by by_cases h : k = 0 <;> simp [h]]
@[simp] theorem truK_tup {ds : List D} {f : Bool → Prop} : truK (some (.tup ds)) f = f (!ds.isEmpty) := truK_of rfl
@[simp] theorem truK_lst {ds : List D} {f : Bool → Prop} : truK (some (.lst ds)) f = f (!ds.isEmpty) := truK_of rfl
@[simp] theorem itK_tup {ds : List D} {f : List D → Prop} : itK (some (.tup ds)) f = f ds := by simp [itK, itS]
@[simp] theorem itK_lst {ds : List D} {f : List D → Prop} : itK (some (.lst ds)) f = f ds := by simp [itK, itS]
@[simp] theorem itK_scr {ns : List Int} {f : List D → Prop} : itK (some (.scr ns)) f = f (ns.map D.int) := by simp [itK, itS]
@[simp] theorem itrK_tup {ds : List D} {f : List D → Prop} : itrK (some (.tup ds)) f = f ds := by simp [itrK, itR]
@[simp] theorem itrK_lst {ds : List D} {f : List D → Prop} : itrK (some (.lst ds)) f = f ds := by simp [itrK, itR]
@[simp] theorem isiK_some {b : Bool} {f : Bool → Prop} : isiK (some b) f = f b := by simp [isiK]
theorem blsK_of {a : List D} {bs : List Bool} {f : List Bool → Prop} (h : a = bs.map D.bl) (k : f bs) : blsK a f := ⟨bs, h, k⟩
theorem intsK_of {a : List D} {bs : List Int} {f : List Int → Prop} (h : a = bs.map D.int) (k : f bs) : intsK a f := ⟨bs, h, k⟩
theorem map_inj' {α β : Type} {f : α → β} (hf : ∀ x y, f x = f y → x = y) : ∀ {a b : List α}, a.map f = b.map f → a = b
  | [], [], _ => rfl
  | [], _ :: _, h => by simp at h
  | _ :: _, [], h => by simp at h
  | x :: a, y :: b, h => by
    simp only [List.map_cons, List.cons.injEq] at h
    rw [hf _ _ h.1, map_inj' hf h.2]
theorem map_int_inj {a b : List Int} (h : a.map D.int = b.map D.int) : a = b := map_inj' (fun _ _ z => by injection z) h
theorem map_bl_inj {a b : List Bool} (h : a.map D.bl = b.map D.bl) : a = b := map_inj' (fun _ _ z => by injection z) h
@[simp] theorem intsK_map {ns : List Int} {f : List Int → Prop} : intsK (ns.map D.int) f = f ns := propext ⟨fun ⟨b, h, k⟩ => by rw [map_int_inj h]; exact k, fun k => ⟨_, rfl, k⟩⟩
@[simp] theorem blsK_map {ns : List Bool} {f : List Bool → Prop} : blsK (ns.map D.bl) f = f ns := propext ⟨fun ⟨b, h, k⟩ => by rw [map_bl_inj h]; exact k, fun k => ⟨_, rfl, k⟩⟩
@[simp] theorem callF_nil {c : Con} {ds : List D} : callF c [] Q E ds env = call0 c ds Q E env := rfl
@[simp] theorem callF_one {c : Con} {ds : List D} {j : Nat} : callF c [j] Q E ds env = call1 c ds env[j]? j Q E env := rfl
theorem call0_of {c : Con} {ds : List D} (h : c.run ds [] (fun r _ => Q r env) (fun x _ => E x env)) : call0 c ds Q E env := h
theorem call1_of {c : Con} {ds : List D} {t : T} {j : Nat} (h : c.run ds [t] (k1 Q env j) (x1' E env j)) : call1 c ds (some (some t)) j Q E env := ⟨t, rfl, h⟩
@[simp] theorem k1_one {j : Nat} {r t : T} : k1 Q env j r [t] = Q r (env.set j (some t)) := by simp [k1]
@[simp] theorem x1_one {j : Nat} {x : D} {t : T} : x1' E env j x [t] = E x (env.set j (some t)) := by simp [x1']
theorem callLK_of {x : Str} {cn : Con} {tab : List (Str × Con)} {f : Con → Prop} (h : (x, cn) ∈ tab) (q : f cn) : callLK (some (some (.val (.fn x)))) tab f := ⟨x, cn, rfl, h, q⟩
theorem excK_of {nets : List Str} {c : Str} {ns : List Str} {ds : List D} {f : Str → List Str → List D → Prop} (h : c ∈ nets) (q : f c ns ds) : excK nets (.exc c ns ds) f := ⟨c, ns, ds, rfl, h, q⟩
theorem isXK_of {tab : List (Str × Bool)} {c : Str} {ns : List Str} {ds : List D} {b : Bool} {f : Bool → Prop} (h : (c, b) ∈ tab) (q : f b) : isXK tab (.val (.exc c ns ds)) f := .inr ⟨c, ns, ds, b, rfl, h, q⟩
@[simp] theorem isXK_non {tab : List (Str × Bool)} {f : Bool → Prop} : isXK tab (.val .non) f = f false := by simp [isXK]
theorem attrK_of {cs : List (Str × Str)} {c n : Str} {d : D} {f : D → Prop} (h : (c, n) ∈ cs) (q : f d) : attrK cs n (.val (.exc c [n] [d])) f := ⟨c, d, rfl, h, q⟩
@[simp] theorem valK_val {d : D} {f : D → Prop} : valK (.val d) f = f d := by simp [valK]
@[simp] theorem popK_snoc {ts : List T} {t : T} {f : List T → T → Prop} : popK (some (some (.lst (ts ++ [t])))) f = f ts t := propext ⟨fun ⟨a, b, h, q⟩ => by
  injection h with h; injection h with h; injection h with h
  have h2 := List.append_inj_right' h rfl
  have h1 := List.append_inj_left' h rfl
  injection h2 with h2
  rw [h1, h2]; exact q, fun q => ⟨_, _, rfl, q⟩⟩
@[simp] theorem pop0K_cons {u : T} {us : List T} {f : T → List T → Prop} : pop0K (.lst (u :: us)) f = f u us := propext ⟨fun ⟨a, b, h, q⟩ => by cases h; exact q, fun q => ⟨_, _, rfl, q⟩⟩
@[simp] theorem popK_vals {a : List D} {d : D} {f : List T → T → Prop} : popK (some (some (.lst (vals (a ++ [d]))))) f = f (vals a) (.val d) := by rw [vals_app]; exact popK_snoc
@[simp] theorem pop0K_vals {d : D} {ds : List D} {f : T → List T → Prop} : pop0K (.lst (vals (d :: ds))) f = f (.val d) (vals ds) := pop0K_cons
theorem vals_inj {a b : List D} (h : vals a = vals b) : a = b := map_inj' (fun _ _ z => by injection z) h
theorem dneK_vals {ds : List D} {f : Bool → Prop} (h : D.plL ds 19 = true) : dneK (.lst (vals ds)) f = f (!ds.isEmpty) := propext ⟨fun ⟨b, e, _, q⟩ => by
  injection e with e; rw [vals_inj e]; exact q, fun q => ⟨_, rfl, h, q⟩⟩
theorem plL_ints (l : List Int) (n : Nat) : D.plL (l.map .int) n = true := by
  induction l with
  | nil => simp [D.plL]
  | cons x l ih => simp [D.plL, D.pl, ih]
@[simp] theorem dneK_ints {l : List Int} {f : Bool → Prop} : dneK (.lst (vals (l.map .int))) f = f (!l.isEmpty) := by
  rw [dneK_vals (plL_ints l 19)]; cases l <;> rfl
theorem dAtK_eq {ks : List L2.Key} {ts : List T} {k : Str} {P : List L2.Key → List T → Nat → T → Prop} {j : Nat} {t : T} (hn : ks.Nodup) (hl : ks.length = ts.length) (hm : ks.length ≤ 1000) (hj : ks[j]? = some (.inr k)) (ht : ts[j]? = some t) : dAtK (some (some (.dic ks ts))) k P = P ks ts j t :=
  propext ⟨fun ⟨ks', ts', j', t', e, _, _, _, h1, h2, p⟩ => by
    cases e
    have hj1 := (List.getElem?_eq_some_iff.mp h1).1
    have e : j' = j := (List.getElem?_inj hj1 hn).mp (h1.trans hj.symm)
    subst e
    rw [h2] at ht; cases ht
    exact p, fun p => ⟨ks, ts, j, t, rfl, hn, hl, hm, hj, ht, p⟩⟩
@[simp] theorem frz_dic0 {ks : List L2.Key} : (T.dic ks []).frz = some (.dic ks []) := rfl
@[simp] theorem vals_get (ds : List D) (i : Nat) : (vals ds)[i]? = ds[i]?.map .val := by simp [vals]
@[simp] theorem vals_set (ds : List D) (i : Nat) (d : D) : (vals ds).set i (.val d) = vals (ds.set i d) := by simp [vals, List.map_set]
@[simp] theorem vals_len' (ds : List D) : (vals ds).length = ds.length := by simp [vals]
@[simp] theorem lenK_same {n : Nat} {p : Prop} : lenK n n p = p := by simp [lenK]
theorem lenK_of {n m : Nat} {p : Prop} (h : n = m) (k : p) : lenK n m p := ⟨h, k⟩
@[simp] theorem tupK_tup {ds : List D} {n : Nat} {f : List D → Prop} : tupK (.val (.tup ds)) n f = lenK ds.length n (f ds) := by simp [tupK, lenK]
theorem Lim_eq : Lim = 1000000 := rfl
@[simp] theorem Pl_rt {ct bk : Env' → Prop} : (Pl P ct bk).rt = P.rt := rfl
@[simp] theorem Pl_ex {ct bk : Env' → Prop} : (Pl P ct bk).ex = P.ex := rfl
@[simp] theorem Pl_ct {ct bk : Env' → Prop} : (Pl P ct bk).ct = ct := rfl
@[simp] theorem Pl_bk {ct bk : Env' → Prop} : (Pl P ct bk).bk = bk := rfl
@[simp] theorem vw_tmp {t : T} : Tok.view env (.tmp t) = t.view := rfl
@[simp] theorem vw_slot {j : Nat} : Tok.view env (.slot j) = viewO env[j]? := rfl
@[simp] theorem vwA_nil : viewAll env [] = some [] := rfl
@[simp] theorem vwA_cons {k : Tok} {ks : List Tok} : viewAll env (k :: ks) = (k.view env).bind fun d => (viewAll env ks).map (d :: ·) := rfl
@[simp] theorem tgt_name {j : Nat} {d : D} {Q : Env' → Prop} : tgt (.gname j) d env Q = Q (env.set j (some (.val d))) := rfl
@[simp] theorem tgt_tup {is : List Nat} {d : D} {Q : Env' → Prop} : tgt (.gtup is) d env Q = tupK (.val d) is.length fun ds => Q (setE env is (vals ds)) := by
  simp [tgt, tupK]
@[simp] theorem setE_nil {is : List Nat} : setE env is [] = env := by cases is <;> rfl
@[simp] theorem setE_cons {j : Nat} {is : List Nat} {t : T} {ts : List T} : setE env (j :: is) (t :: ts) = setE (env.set j (some t)) is ts := rfl
theorem vals_nil : vals [] = [] := rfl
theorem vals_cons {d : D} {ds : List D} : vals (d :: ds) = .val d :: vals ds := rfl
@[simp] theorem setE_valsn {is : List Nat} : setE env is (vals []) = env := by cases is <;> rfl
@[simp] theorem setE_vals {j : Nat} {is : List Nat} {d : D} {ds : List D} : setE env (j :: is) (vals (d :: ds)) = setE (env.set j (some (.val d))) is (vals ds) := rfl
@[simp] theorem clr_nil : clr env [] = env := rfl
@[simp] theorem clr_cons {j : Nat} {is : List Nat} : clr env (j :: is) = (clr env is).set j none := rfl
@[simp] theorem tgs_name {j : Nat} : tgs (.gname j) = [j] := rfl
@[simp] theorem tgs_tup {is : List Nat} : tgs (.gtup is) = is := rfl
@[simp] theorem refs_nil : refs .anil = [] := rfl
@[simp] theorem refs_cons {a r : I} : refs (.acons a r) = refs r := rfl
@[simp] theorem refs_ref {j : Nat} {r : I} : refs (.aref j r) = j :: refs r := rfl

section
variable {f : Env' → (T → Env' → Prop) → KE → Prop} {Q : Tok → Env' → Prop}
@[simp] theorem opn_var {j : Nat} : opn (.var j) f env Q E = slotK env[j]? (fun _ => Q (.slot j) env) := by
  show ((∃ t, env[j]? = some (some t)) ∧ _) = (∃ t, _ ∧ _)
  exact propext ⟨fun ⟨⟨t, h⟩, q⟩ => ⟨t, h, q⟩, fun ⟨t, h, q⟩ => ⟨⟨t, h⟩, q⟩⟩
@[simp] theorem opn_con {d : D} : opn (.con d) f env Q E = f env (fun t e => Q (.tmp t) e) E := rfl
@[simp] theorem opn_mv {j : Nat} : opn (.mv j) f env Q E = f env (fun t e => Q (.tmp t) e) E := rfl
@[simp] theorem opn_attrX {cs : List (Str × Str)} {a : I} {n : Str} : opn (.attrX cs a n) f env Q E = f env (fun t e => Q (.tmp t) e) E := rfl
@[simp] theorem opn_glob {x : Str} {n : Int} : opn (.glob x n) f env Q E = f env (fun t e => Q (.tmp t) e) E := rfl
@[simp] theorem opn_fnv {x : Str} : opn (.fnv x) f env Q E = f env (fun t e => Q (.tmp t) e) E := rfl
@[simp] theorem opn_op2 {o : Op2} {a b : I} : opn (.op2 o a b) f env Q E = f env (fun t e => Q (.tmp t) e) E := rfl
@[simp] theorem opn_op1 {o : Op1} {a : I} : opn (.op1 o a) f env Q E = f env (fun t e => Q (.tmp t) e) E := rfl
@[simp] theorem opn_chain {o o2 : Op2} {a b c : I} : opn (.chain o o2 a b c) f env Q E = f env (fun t e => Q (.tmp t) e) E := rfl
@[simp] theorem opn_tup {as : I} : opn (.tup as) f env Q E = f env (fun t e => Q (.tmp t) e) E := rfl
@[simp] theorem opn_lst {as : I} : opn (.lst as) f env Q E = f env (fun t e => Q (.tmp t) e) E := rfl
@[simp] theorem opn_slc {a l h : I} : opn (.slc a l h) f env Q E = f env (fun t e => Q (.tmp t) e) E := rfl
@[simp] theorem opn_andv {a b : I} : opn (.andv a b) f env Q E = f env (fun t e => Q (.tmp t) e) E := rfl
@[simp] theorem opn_orv {a b : I} : opn (.orv a b) f env Q E = f env (fun t e => Q (.tmp t) e) E := rfl
@[simp] theorem opn_notv {a : I} : opn (.notv a) f env Q E = f env (fun t e => Q (.tmp t) e) E := rfl
@[simp] theorem opn_ite {c a b : I} : opn (.ite c a b) f env Q E = f env (fun t e => Q (.tmp t) e) E := rfl
@[simp] theorem opn_blt {b : Bf} {as : I} : opn (.blt b as) f env Q E = f env (fun t e => Q (.tmp t) e) E := rfl
@[simp] theorem opn_call {x : Str} {c : Con} {as : I} : opn (.call x c as) f env Q E = f env (fun t e => Q (.tmp t) e) E := rfl
@[simp] theorem opn_comp {g it c e : I} : opn (.comp g it c e) f env Q E = f env (fun t e => Q (.tmp t) e) E := rfl
@[simp] theorem opn_pop {j : Nat} : opn (.pop j) f env Q E = f env (fun t e => Q (.tmp t) e) E := rfl
@[simp] theorem opn_revs {a : I} : opn (.revs a) f env Q E = f env (fun t e => Q (.tmp t) e) E := rfl
@[simp] theorem opn_dict {ks : List Str} {as : I} : opn (.dict ks as) f env Q E = f env (fun t e => Q (.tmp t) e) E := rfl
@[simp] theorem opn_dgetI {j : Nat} {k : Str} : opn (.dgetI j k) f env Q E = f env (fun t e => Q (.tmp t) e) E := rfl
@[simp] theorem opn_dpop0 {j : Nat} {k : Str} : opn (.dpop0 j k) f env Q E = f env (fun t e => Q (.tmp t) e) E := rfl
@[simp] theorem opn_mkM {c : Str} {a : I} : opn (.mkM c a) f env Q E = f env (fun t e => Q (.tmp t) e) E := rfl
@[simp] theorem opn_mkX {c n : Str} {a : I} : opn (.mkX c n a) f env Q E = f env (fun t e => Q (.tmp t) e) E := rfl
@[simp] theorem opn_mkK {c n : Str} {a : I} : opn (.mkK c n a) f env Q E = f env (fun t e => Q (.tmp t) e) E := rfl
@[simp] theorem opn_cntT {a : I} : opn (.cntT a) f env Q E = f env (fun t e => Q (.tmp t) e) E := rfl
@[simp] theorem opn_idxT {a : I} : opn (.idxT a) f env Q E = f env (fun t e => Q (.tmp t) e) E := rfl
@[simp] theorem opn_ldict {a : I} : opn (.ldict a) f env Q E = f env (fun t e => Q (.tmp t) e) E := rfl
@[simp] theorem opn_mulS {x : Str} {n : Nat} : opn (.mulS x n) f env Q E = f env (fun t e => Q (.tmp t) e) E := rfl
@[simp] theorem opn_keptV {cs : List (Str × Str)} {j : Nat} : opn (.keptV cs j) f env Q E = f env (fun t e => Q (.tmp t) e) E := rfl
@[simp] theorem opn_caught {ns : List Str} {e : I} : opn (.caught ns e) f env Q E = f env (fun t e => Q (.tmp t) e) E := rfl
@[simp] theorem opn_isX {c : Str} {tab : List (Str × Bool)} {e : I} : opn (.isX c tab e) f env Q E = f env (fun t e => Q (.tmp t) e) E := rfl
@[simp] theorem opn_callK {x : Str} {c : Con} {as : I} {ks : List Str} {pm : List Nat} : opn (.callK x c as ks pm) f env Q E = f env (fun t e => Q (.tmp t) e) E := rfl
@[simp] theorem opn_callL {j : Nat} {tab : List (Str × Con)} {as : I} : opn (.callL j tab as) f env Q E = f env (fun t e => Q (.tmp t) e) E := rfl
end
/-! ### expressions -/
@[simp] theorem E_con {d : D} : wpE (.con d) env Q E = Q (.val d) env := rfl
@[simp] theorem E_var {j : Nat} : wpE (.var j) env Q E = useK env[j]? j env Q := rfl
@[simp] theorem E_mv {j : Nat} : wpE (.mv j) env Q E = slotK env[j]? fun t => Q t (env.set j none) := rfl
@[simp] theorem E_glob {nm : Str} {n : Int} : wpE (.glob nm n) env Q E = Q (.val (.int n)) env := rfl
@[simp] theorem E_fnv {x : Str} : wpE (.fnv x) env Q E = Q (.val (.fn x)) env := rfl
@[simp] theorem E_op2 {o : Op2} {a b : I} : wpE (.op2 o a b) env Q E = opn a (wpE a) env (fun ka e1 => opn b (wpE b) e1 (fun kb e2 => op2K o (ka.view e2) (kb.view e2) fun t => Q t e2) E) E := rfl
@[simp] theorem E_op1 {o : Op1} {a : I} : wpE (.op1 o a) env Q E = opn a (wpE a) env (fun ka e1 => op1K o (ka.view e1) fun t => Q t e1) E := rfl
@[simp] theorem E_chain {o o' : Op2} {a b c : I} : wpE (.chain o o' a b c) env Q E = opn a (wpE a) env (fun ka e1 => opn b (wpE b) e1 (fun kb e2 => op2K o (ka.view e2) (kb.view e2) fun t =>
      blK t fun k => condK k (opn c (wpE c) e2 (fun kc e3 => op2K o' (kb.view e3) (kc.view e3) fun t' => Q t' e3) E) (Q (.val (.bl false)) e2)) E) E := rfl
@[simp] theorem E_tup {as : I} : wpE (.tup as) env Q E = wpA as env (fun ds e => ds.length ≤ Lim ∧ Q (.val (.tup ds)) e) E := rfl
@[simp] theorem E_lst {as : I} : wpE (.lst as) env Q E = wpA as env (fun ds e => ds.length ≤ Lim ∧ Q (.lst (vals ds)) e) E := rfl
@[simp] theorem E_slc {a lo hi : I} : wpE (.slc a lo hi) env Q E = opn a (wpE a) env (fun ka e1 => wpB lo e1 (fun l e2 => wpB hi e2 (fun h e3 => slcK (ka.view e3) (fun ds => Q (.val (.tup (cutD ds l h))) e3) (fun ds => Q (.lst (vals (cutD ds l h))) e3)) E) E) E := rfl
@[simp] theorem E_andv {a b : I} : wpE (.andv a b) env Q E = wpE a env (fun t e1 => blK t fun k => condK k (wpE b e1 Q E) (Q (.val (.bl false)) e1)) E := rfl
@[simp] theorem E_orv {a b : I} : wpE (.orv a b) env Q E = wpE a env (fun t e1 => blK t fun k => condK k (Q (.val (.bl true)) e1) (wpE b e1 Q E)) E := rfl
@[simp] theorem E_notv {a : I} : wpE (.notv a) env Q E = wpE a env (fun t e1 => blK t fun k => Q (.val (.bl (!k))) e1) E := rfl
@[simp] theorem E_ite {c a b : I} : wpE (.ite c a b) env Q E = wpT c env (fun k e1 => condK k (wpE a e1 Q E) (wpE b e1 Q E)) E := rfl
@[simp] theorem E_blt {f : Bf} {as : I} : wpE (.blt f as) env Q E = wpOs as env (fun ks e => bltK (viewAll e ks) f fun t => Q t e) E := rfl
@[simp] theorem E_call {nm : Str} {c : Con} {as : I} : wpE (.call nm c as) env Q E = wpA as env (callF c (refs as) Q E) E := rfl
@[simp] theorem E_comp {g it cond elt : I} : wpE (.comp g it cond elt) env Q E = wpI it env (compK g cond elt Q) (fun _ _ => False) := rfl
@[simp] theorem E_pop {j : Nat} : wpE (.pop j) env Q E = popK env[j]? fun ts t => Q t (env.set j (some (.lst ts))) := rfl
@[simp] theorem E_revs {a : I} : wpE (.revs a) env Q E = opn a (wpE a) env (fun ka e1 => slcK (ka.view e1) (fun ds => Q (.val (.tup ds.reverse)) e1) (fun ds => Q (.lst (vals ds.reverse)) e1)) E := rfl
@[simp] theorem E_dict {ks : List Str} {as : I} : wpE (.dict ks as) env Q E = wpP as env (fun ts e => lenK ts.length ks.length (∃ us, FrzL ts us ∧ Q (.dic (ks.map .inr) us) e)) E := rfl
@[simp] theorem E_dgetI {j : Nat} {k : Str} : wpE (.dgetI j k) env Q E = dAtK env[j]? k fun _ _ _ t => valK t fun d => Q (.val d) env := by
  show (dAtK env[j]? k fun _ _ _ t => ∃ d, t = .val d ∧ Q t env) = _
  congr 1
  funext _ _ _ t
  exact propext ⟨fun ⟨d, h, q⟩ => ⟨d, h, by subst h; exact q⟩, fun ⟨d, h, q⟩ => ⟨d, h, h ▸ q⟩⟩
@[simp] theorem E_dpop0 {j : Nat} {k : Str} : wpE (.dpop0 j k) env Q E = dAtK env[j]? k fun ks ts n t => pop0K t fun u us => Q u (env.set j (some (.dic ks (ts.set n (.lst us))))) := rfl
@[simp] theorem E_mkM {c : Str} {e : I} : wpE (.mkM c e) env Q E = wpE e env (fun _ e' => Q (.val (.exc c [] [])) e') E := rfl
@[simp] theorem E_mkX {c n : Str} {e : I} : wpE (.mkX c n e) env Q E = wpE e env (fun t e' => frzK t.frz fun d => Q (.val (.exc c [n] [d])) e') E := rfl
@[simp] theorem E_mkK {c n : Str} {e : I} : wpE (.mkK c n e) env Q E = wpE e env (fun t e' => frzK t.frz fun d => Q (.val (.exc c [n] [d])) e') E := rfl
@[simp] theorem E_cntT {a : I} : wpE (.cntT a) env Q E = wpE a env (fun t e' => cntK t.view fun n => Q (.val (.int (n : Nat))) e') E := rfl
@[simp] theorem E_idxT {a : I} : wpE (.idxT a) env Q E = wpE a env (fun t e' => idxK t.view fun n => Q (.val (.int (n : Nat))) e') E := rfl
@[simp] theorem E_ldict {a : I} : wpE (.ldict a) env Q E = wpE a env (fun t e' => ldK t.view fun n => Q (.val (.int (n : Nat))) e') E := rfl
@[simp] theorem E_mulS {x : Str} {n : Nat} : wpE (.mulS x n) env Q E = ((x.length ≤ 16 ∧ n ≤ 1000) ∧ Q (.val (.str (Txt.mul x (n : Nat)))) env) := rfl
@[simp] theorem E_keptV {cs : List (Str × Str)} {j : Nat} : wpE (.keptV cs j) env Q E = kepK cs env[j]? fun d => Q (.val d) env := rfl
@[simp] theorem E_lamV {f : CF} {j : Nat} {e : I} : wpE (.lamV f j e) env Q E = Q (.val (.clo f j)) env := rfl
@[simp] theorem E_caughtV {nets : List Str} {f : CF} {w : Nat} {tab : I} : wpE (.caughtV nets f w tab) env Q E = cvK nets f tab env[w]? env Q := rfl
@[simp] theorem E_compW {nets : List Str} {f : CF} {j w : Nat} {cls : Str} {xt : List (Str × Bool)} {tab : I} : wpE (.compW nets f j w cls xt tab) env Q E = cwK nets f xt tab j w env Q := rfl
@[simp] theorem J_zero {b r : I} : wpJ (.acons b r) 0 env Q E = wpE b env Q E := rfl
@[simp] theorem J_one {b r : I} : wpJ (.acons b r) 1 env Q E = wpJ r 0 env Q E := rfl
theorem J_succ {b r : I} {n : Nat} : wpJ (.acons b r) (n + 1) env Q E = wpJ r n env Q E := rfl
@[simp] theorem E_caught {nets : List Str} {e : I} : wpE (.caught nets e) env Q E = wpE e env (fun _ e' => Q (.val .non) e') fun x e' => excK nets x fun c ns ds => Q (.val (.exc c ns ds)) e' := rfl
@[simp] theorem E_isX {nm : Str} {tab : List (Str × Bool)} {e : I} : wpE (.isX nm tab e) env Q E = wpE e env (fun t e' => isXK tab t fun b => Q (.val (.bl b)) e') E := rfl
@[simp] theorem E_attrX {cs : List (Str × Str)} {e : I} {n : Str} : wpE (.attrX cs e n) env Q E = wpE e env (fun t e' => attrK cs n t fun d => Q (.val d) e') E := rfl
@[simp] theorem E_callK {nm : Str} {c : Con} {as : I} {kz : List Str} {pm : List Nat} : wpE (.callK nm c as kz pm) env Q E = wpA as env (fun ds e => call0 c (pmL pm ds) Q E e) E := rfl
@[simp] theorem E_callL {j : Nat} {tab : List (Str × Con)} {as : I} : wpE (.callL j tab as) env Q E = callLK env[j]? tab (fun cn => wpA as env (fun ds e => call0 cn ds Q E e) E) := rfl
@[simp] theorem Os_anil : wpOs .anil env QO E = QO [] env := rfl
@[simp] theorem Os_acons {a r : I} : wpOs (.acons a r) env QO E = opn a (wpE a) env (fun k e1 => wpOs r e1 (fun ks e2 => QO (k :: ks) e2) E) E := rfl
@[simp] theorem A_anil : wpA .anil env QA E = QA [] env := rfl
@[simp] theorem A_acons {a r : I} : wpA (.acons a r) env QA E = wpE a env (fun t e1 => frzK t.frz fun d => wpA r e1 (fun ds e2 => QA (d :: ds) e2) E) E := rfl
@[simp] theorem A_aref {j : Nat} {r : I} : wpA (.aref j r) env QA E = slotK env[j]? (fun _ => wpA r env QA E) := by
  show ((∃ t, env[j]? = some (some t)) ∧ _) = (∃ t, _ ∧ _)
  exact propext ⟨fun ⟨⟨t, h⟩, q⟩ => ⟨t, h, q⟩, fun ⟨t, h, q⟩ => ⟨⟨t, h⟩, q⟩⟩
@[simp] theorem B_onone : wpB .onone env QB E = QB none env := rfl
@[simp] theorem B_osome {a : I} : wpB (.osome a) env QB E = wpE a env (fun t e1 => intK t fun n => QB (some n) e1) E := rfl
@[simp] theorem T_tt : wpT .tt env QT E = QT true env := rfl
@[simp] theorem T_tand {a b : I} : wpT (.tand a b) env QT E = wpT a env (fun k e1 => condK k (wpT b e1 QT E) (QT false e1)) E := rfl
@[simp] theorem T_tor {a b : I} : wpT (.tor a b) env QT E = wpT a env (fun k e1 => condK k (QT true e1) (wpT b e1 QT E)) E := rfl
@[simp] theorem T_tnot {a : I} : wpT (.tnot a) env QT E = wpT a env (fun k e1 => QT (!k) e1) E := rfl
@[simp] theorem T_tcmp {o : Op2} {a b : I} : wpT (.tcmp o a b) env QT E = opn a (wpE a) env (fun ka e1 => opn b (wpE b) e1 (fun kb e2 => op2K o (ka.view e2) (kb.view e2) fun t => blK t fun k => QT k e2) E) E := rfl
@[simp] theorem T_tchain {o o' : Op2} {a b c : I} : wpT (.tchain o o' a b c) env QT E = opn a (wpE a) env (fun ka e1 => opn b (wpE b) e1 (fun kb e2 => op2K o (ka.view e2) (kb.view e2) fun t =>
      blK t fun k => condK k (opn c (wpE c) e2 (fun kc e3 => op2K o' (kb.view e3) (kc.view e3) fun t' => blK t' fun k' => QT k' e3) E) (QT false e2)) E) E := rfl
@[simp] theorem T_tdne {j : Nat} {k : Str} : wpT (.tdne j k) env QT E = dAtK env[j]? k fun _ _ _ t => dneK t fun b => QT b env := rfl
@[simp] theorem T_tval {a : I} : wpT (.tval a) env QT E = opn a (wpE a) env (fun ka e1 => truK (ka.view e1) fun k => QT k e1) E := rfl
@[simp] theorem I_iseq {a : I} : wpI (.iseq a) env QI E = opn a (wpE a) env (fun ka e1 => itK (ka.view e1) fun ds => QI [ka] ds e1) E := rfl
@[simp] theorem I_irev {a : I} : wpI (.irev a) env QI E = opn a (wpE a) env (fun ka e1 => itrK (ka.view e1) fun ds => QI [ka] ds.reverse e1) E := rfl
@[simp] theorem I_irng1 {a : I} : wpI (.irng1 a) env QI E = wpE a env (fun t e1 => intK t fun n => (-(Lim : Int) ≤ n ∧ n ≤ Lim) ∧ QI [] (rng 0 n.toNat) e1) E := rfl
@[simp] theorem I_irng2 {a b : I} : wpI (.irng2 a b) env QI E = wpE a env (fun t e1 => wpE b e1 (fun t' e2 => intK t fun n => intK t' fun m => (-(Lim : Int) ≤ n ∧ n ≤ Lim ∧ -(Lim : Int) ≤ m ∧ m ≤ Lim) ∧ QI [] (rng n (m - n).toNat) e2) E) E := by
  show wpE a env (fun t e1 => wpE b e1 (fun t' e2 => ∃ i j, t = .val (.int i) ∧ t' = .val (.int j) ∧ (-(Lim : Int) ≤ i ∧ i ≤ Lim ∧ -(Lim : Int) ≤ j ∧ j ≤ Lim) ∧ QI [] (rng i (j - i).toNat) e2) E) E = _
  have e : (fun (t : T) e1 => wpE b e1 (fun t' e2 => ∃ i j, t = .val (.int i) ∧ t' = .val (.int j) ∧ (-(Lim : Int) ≤ i ∧ i ≤ Lim ∧ -(Lim : Int) ≤ j ∧ j ≤ Lim) ∧ QI [] (rng i (j - i).toNat) e2) E) = (fun t e1 => wpE b e1 (fun t' e2 => intK t fun n => intK t' fun m => (-(Lim : Int) ≤ n ∧ n ≤ Lim ∧ -(Lim : Int) ≤ m ∧ m ≤ Lim) ∧ QI [] (rng n (m - n).toNat) e2) E) := by
    funext t e1
    have e2 : (fun (t' : T) e2 => ∃ i j, t = .val (.int i) ∧ t' = .val (.int j) ∧ (-(Lim : Int) ≤ i ∧ i ≤ Lim ∧ -(Lim : Int) ≤ j ∧ j ≤ Lim) ∧ QI [] (rng i (j - i).toNat) e2) = (fun t' e2 => intK t fun n => intK t' fun m => (-(Lim : Int) ≤ n ∧ n ≤ Lim ∧ -(Lim : Int) ≤ m ∧ m ≤ Lim) ∧ QI [] (rng n (m - n).toNat) e2) := by
      funext t' e2
      exact propext ⟨fun ⟨i, j, h1, h2, h3⟩ => ⟨i, h1, j, h2, h3⟩, fun ⟨i, h1, j, h2, h3⟩ => ⟨i, j, h1, h2, h3⟩⟩
    rw [e2]
  rw [e]
@[simp] theorem P_anil : wpP .anil env QP E = QP [] env := rfl
@[simp] theorem P_acons {a r : I} : wpP (.acons a r) env QP E = wpE a env (fun t e1 => wpP r e1 (fun ts e2 => QP (t :: ts) e2) E) E := rfl
/-! ### statements -/
section
variable {nx : Env' → Prop}
theorem S_enter {s : I} : wpS s env P = wpX s env P.nx P := rfl
@[simp] theorem S_snil : wpX .snil env nx P = nx env := rfl
@[simp] theorem S_scons {s r : I} : wpX (.scons s r) env nx P = wpX s env (fun e => wpX r e nx P) P := rfl
/-- the first statement, with what comes behind it hidden -/
theorem S_seq {s r : I} (h : ∀ K : Env' → Prop, (∀ e, wpX r e nx P → K e) → wpX s env K P) : wpX (.scons s r) env nx P := h _ fun _ q => q
/-- the same, where the way out is hidden, too -/
theorem S_hide {s : I} (h : ∀ (K : Env' → Prop) (P' : Po), (∀ e, nx e → K e) → (∀ t e, P.rt t e → P'.rt t e) → (∀ x e, P.ex x e → P'.ex x e) → (∀ e, P.bk e → P'.bk e) → (∀ e, P.ct e → P'.ct e) → wpX s env K P') : wpX s env nx P := h _ P (fun _ q => q) (fun _ _ q => q) (fun _ _ q => q) (fun _ q => q) (fun _ q => q)
@[simp] theorem S_asg {j : Nat} {e : I} : wpX (.asg j e) env nx P = wpE e env (fun t e1 => nx (e1.set j (some t))) P.ex := rfl
@[simp] theorem S_par {is : List Nat} {as : I} : wpX (.par is as) env nx P = wpP as env (fun ts e1 => lenK ts.length is.length (nx (setE e1 is ts))) P.ex := rfl
@[simp] theorem S_asgT {is : List Nat} {e : I} : wpX (.asgT is e) env nx P = wpE e env (fun t e1 => tupK t is.length fun ds => nx (setE e1 is (vals ds))) P.ex := rfl
@[simp] theorem S_augI {j : Nat} {o : Op2} {e : I} : wpX (.augI j o e) env nx P = slotK env[j]? fun t0 => intK t0 fun x => wpE e env (fun t e1 => intK t fun y => opS2 o (.int x) (.int y) fun t' => nx (e1.set j (some t'))) P.ex := by
  show (∃ x, env[j]? = some (some (.val (.int x))) ∧ _) = (∃ t, _ ∧ ∃ x, _ ∧ _)
  exact propext ⟨fun ⟨x, h, q⟩ => ⟨_, h, x, rfl, q⟩, fun ⟨t, h, x, e, q⟩ => ⟨x, e ▸ h, q⟩⟩
@[simp] theorem S_augS {j : Nat} {o : Op2} {k e : I} : wpX (.augS j o k e) env nx P = ((∃ ts, env[j]? = some (some (.lst ts))) ∧ wpE k env (fun t e1 => ∃ n ts x, t = .val (.int n) ∧ 0 ≤ n ∧ e1[j]? = some (some (.lst ts)) ∧ ts[n.toNat]? = some (.val (.int x)) ∧
      wpE e e1 (fun t2 e2 => ∃ y, t2 = .val (.int y) ∧ e2[j]? = some (some (.lst ts)) ∧ opS2 o (.int x) (.int y) fun t' => nx (e2.set j (some (.lst (ts.set n.toNat t'))))) P.ex) P.ex) := rfl
@[simp] theorem S_swapS {j : Nat} {e k l : I} : wpX (.swapS j e k l) env nx P = wpE e env (fun t e1 => ∃ y x, t = .val (.tup [y, x]) ∧ (∃ ts, e1[j]? = some (some (.lst ts))) ∧ wpE k e1 (fun t1 e2 => ∃ n ts a, t1 = .val (.int n) ∧ e2[j]? = some (some (.lst ts)) ∧ L2.ixN ts.length n = some a ∧
      wpE l (e2.set j (some (.lst (ts.set a (.val y))))) (fun t2 e3 => ∃ m us b, t2 = .val (.int m) ∧ e3[j]? = some (some (.lst us)) ∧ L2.ixN us.length m = some b ∧ nx (e3.set j (some (.lst (us.set b (.val x)))))) P.ex) P.ex) P.ex := rfl
@[simp] theorem S_setS {j : Nat} {k e : I} : wpX (.setS j k e) env nx P = wpE e env (fun t0 e1 => (∃ ts, e1[j]? = some (some (.lst ts))) ∧ wpE k e1 (fun t e2 => ∃ n ts, t = .val (.int n) ∧ 0 ≤ n ∧ n < ts.length ∧ e2[j]? = some (some (.lst ts)) ∧ nx (e2.set j (some (.lst (ts.set n.toNat t0))))) P.ex) P.ex := rfl
@[simp] theorem S_dsetS {j : Nat} {k : Str} {e : I} : wpX (.dsetS j k e) env nx P = wpE e env (fun t e1 => dAtK e1[j]? k fun ks ts n _ => nx (e1.set j (some (.dic ks (ts.set n t))))) P.ex := rfl
@[simp] theorem S_app {j : Nat} {e : I} : wpX (.app j e) env nx P = slotK env[j]? fun t0 => isLK t0 fun _ => wpE e env (fun t e1 => slotK e1[j]? fun t1 => isLK t1 fun ts => ts.length < Lim ∧ nx (e1.set j (some (.lst (ts ++ [t]))))) P.ex := by
  show ((∃ ts, env[j]? = some (some (.lst ts))) ∧ wpE e env (fun t e1 => ∃ ts, e1[j]? = some (some (.lst ts)) ∧ ts.length < Lim ∧ nx (e1.set j (some (.lst (ts ++ [t]))))) P.ex) = _
  have e1 : (fun t (e1 : Env') => ∃ ts, e1[j]? = some (some (.lst ts)) ∧ ts.length < Lim ∧ nx (e1.set j (some (.lst (ts ++ [t]))))) = (fun t e1 => slotK e1[j]? fun t1 => isLK t1 fun ts => ts.length < Lim ∧ nx (e1.set j (some (.lst (ts ++ [t]))))) := by
    funext t e1
    exact propext ⟨fun ⟨ts, h, q⟩ => ⟨_, h, ts, rfl, q⟩, fun ⟨t, h, ts, e, q⟩ => ⟨ts, e ▸ h, q⟩⟩
  rw [e1]
  exact propext ⟨fun ⟨⟨ts, h⟩, q⟩ => ⟨_, h, ts, rfl, q⟩, fun ⟨t, h, ts, e, q⟩ => ⟨⟨ts, e ▸ h⟩, q⟩⟩
@[simp] theorem S_expr {e : I} : wpX (.expr e) env nx P = wpE e env (fun _ e1 => nx e1) P.ex := rfl
@[simp] theorem S_ife {c a b : I} : wpX (.ife c a b) env nx P = wpT c env (fun k e1 => condK k (wpX a e1 nx P) (wpX b e1 nx P)) P.ex := rfl
@[simp] theorem S_forS {g it b : I} : wpX (.forS g it b) env nx P = wpI it env (forK g b nx P) P.ex := rfl
@[simp] theorem S_whileS {c b : I} : wpX (.whileS c b) env nx P = whileK c b nx P env := rfl
@[simp] theorem S_ret {e : I} : wpX (.ret e) env nx P = wpE e env P.rt P.ex := rfl
@[simp] theorem S_retN : wpX .retN env nx P = P.rt (.val .non) env := rfl
@[simp] theorem S_raiseM {c : Str} : wpX (.raiseM c) env nx P = P.ex (.exc c [] []) env := rfl
@[simp] theorem S_raiseI {c n : Str} {e : I} : wpX (.raiseI c n e) env nx P = wpE e env (fun t e1 => frzK t.frz fun d => P.ex (.exc c [n] [d]) e1) P.ex := rfl
@[simp] theorem S_tryK {c n : Str} {e b : I} {i : Nat} : wpX (.tryK c n e i b) env nx P = wpE e env (fun t e1 => frzK t.frz fun d => wpX b (e1.set i (some (.val (.exc c [n] [d])))) (fun e2 => nx (e2.set i none)) { nx := fun _ => False, rt := fun _ _ => False, ex := fun _ _ => False }) P.ex := rfl
@[simp] theorem S_brk : wpX .brk env nx P = P.bk env := rfl
@[simp] theorem S_cont : wpX .cont env nx P = P.ct env := rfl
@[simp] theorem S_pass : wpX .pass env nx P = nx env := rfl
end
/-! ### a def's frame -/
section
variable {io : List Bool} {Pn : T → List T → Prop} {Pe : D → List T → Prop}
@[simp] theorem outK_eq {t : T} : outK io Pn t env = outO (ioE io env) (Pn t) := rfl
@[simp] theorem outX_eq {x : D} : outX io Pe x env = outO (ioE io env) (Pe x) := rfl
@[simp] theorem outO_some {ts : List T} {P : List T → Prop} : outO (some ts) P = P ts := by simp [outO]
@[simp] theorem ioE_nil : ioE [] env = some [] := by cases env <;> rfl
@[simp] theorem ioE_t {m : List Bool} {t : T} : ioE (true :: m) (some t :: env) = (ioE m env).map (t :: ·) := rfl
@[simp] theorem ioE_f {m : List Bool} {o : Option T} : ioE (false :: m) (o :: env) = ioE m env := rfl
@[simp] theorem argE_nil : argE [] [] [] = some [] := rfl
@[simp] theorem argE_t {m : List Bool} {ds : List D} {t : T} {ts : List T} : argE (true :: m) ds (t :: ts) = (argE m ds ts).map (t :: ·) := by cases ds <;> rfl
@[simp] theorem argE_f {m : List Bool} {ds : List D} {d : D} {ts : List T} : argE (false :: m) (d :: ds) ts = (argE m ds ts).map (.val d :: ·) := by cases ts <;> rfl
@[simp] theorem env0_eq {as : List T} {n : Nat} : env0 as n = as.map some ++ List.replicate n none := rfl
def PD (io : List Bool) (Pn : T → List T → Prop) (Pe : D → List T → Prop) : Po := { nx := outK io Pn (.val .non), rt := outK io Pn, ex := outX io Pe }
@[simp] theorem PD_rt : (PD io Pn Pe).rt = outK io Pn := rfl
@[simp] theorem PD_ex : (PD io Pn Pe).ex = outX io Pe := rfl
end
abbrev Rn := List D → List T → (T → List T → Prop) → (D → List T → Prop) → Prop
/-- a def's body keeps its contract -/
def W (b : I) (io : List Bool) (r : Rn) (n : Nat) : Prop := ∀ ds ts as Pn Pe, argE io ds ts = some as → r ds ts Pn Pe → wpX b (env0 as n) (outK io Pn (.val .non)) (PD io Pn Pe)
theorem W.wp {b : I} {c : Con} {n : Nat} (h : W b c.io c.run n) : ∀ ds ts as Pn Pe, argE c.io ds ts = some as → c.run ds ts Pn Pe → wpD b c.io n as Pn Pe := h
/-! ### loops -/
section
variable {g b : I} {nx : Env' → Prop} {src : List Tok} {items : List D} {e0 : Env'}
theorem forI (J : Nat → Env' → Prop) (h1 : ∀ i, .slot i ∈ src → (tgs g).contains i = false ∧ asgd b i = false) (h0 : J 0 e0) (h2 : ∀ n e, J n e → ItOk e0 src e) (h3 : ∀ (n : Nat) (e : Env') (d : D) (K : Env' → Prop), J n e → items[n]? = some d → (∀ e, J (n + 1) e → K e) → tgt g d e fun e1 => wpX b e1 K (Pl P K nx)) (h4 : ∀ e, J items.length e → nx e) : forK g b nx P src items e0 :=
  ⟨h1, J, h0, h2, fun n e d a c => h3 n e d _ a c fun _ q => q, h4⟩
theorem noslot_nil : ∀ i, Tok.slot i ∉ ([] : List Tok) := fun i h => by cases h
theorem noslot_tmp {t : T} : ∀ i, Tok.slot i ∉ [Tok.tmp t] := fun i h => by simp at h
theorem forT (J : Nat → Env' → Prop) (hs : ∀ i, Tok.slot i ∉ src) (h0 : J 0 e0) (h3 : ∀ (n : Nat) (e : Env') (d : D) (K : Env' → Prop), J n e → items[n]? = some d → (∀ e, J (n + 1) e → K e) → tgt g d e fun e1 => wpX b e1 K (Pl P K nx)) (h4 : ∀ e, J items.length e → nx e) : forK g b nx P src items e0 :=
  ⟨fun i h => absurd h (hs i), J, h0, fun n e _ k hk i e => absurd (e ▸ hk) (hs i), fun n e d a c => h3 n e d _ a c fun _ q => q, h4⟩
theorem forL {j : Nat} (J : Nat → Env' → Prop) (h1 : (tgs g).contains j = false ∧ asgd b j = false) (h0 : J 0 e0) (h2 : ∀ n e, J n e → e[j]? = e0[j]?) (h3 : ∀ (n : Nat) (e : Env') (d : D) (K : Env' → Prop), J n e → items[n]? = some d → (∀ e, J (n + 1) e → K e) → tgt g d e fun e1 => wpX b e1 K (Pl P K nx)) (h4 : ∀ e, J items.length e → nx e) : forK g b nx P [.slot j] items e0 :=
  ⟨fun i h => by simp at h; subst h; exact h1, J, h0, fun n e q k hk i z => by simp at hk; subst hk; injection z with z; subst z; exact h2 n e q, fun n e d a c => h3 n e d _ a c fun _ q => q, h4⟩
theorem whileI {c : I} (J : Nat → Env' → Prop) {m : Nat} (h0 : J m e0) (h : ∀ (m : Nat) (e : Env') (K : Env' → Prop), J m e → (∀ m' e, m' < m → J m' e → K e) → wpT c e (fun k e1 => condK k (wpX b e1 K (Pl P K nx)) (nx e1)) P.ex) : whileK c b nx P e0 :=
  ⟨J, ⟨m, h0⟩, fun m e q => h m e _ q fun m' e h1 h2 => ⟨m', h1, h2⟩⟩
end
theorem clr_set_ne : ∀ (is : List Nat) (e : Env') (j : Nat), j ∉ is → (clr e is)[j]? = e[j]?
  | [], _, _, _ => rfl
  | i :: is, e, j, h => by
    rw [clr_cons, List.getElem?_set_ne (fun z => h (by simp [z]))]
    exact clr_set_ne is e j (fun z => h (by simp [z]))
theorem clr_set : ∀ (is : List Nat) (e : Env') (i : Nat), (clr (e.set i none) is) = (clr e is).set i none
  | [], _, _ => rfl
  | j :: is, e, i => by
    rw [clr_cons, clr_cons, clr_set is]
    by_cases h : i = j
    · subst h; rfl
    · rw [List.set_comm _ _ h]
theorem clr_clr : ∀ (is : List Nat) (e : Env'), clr (clr e is) is = clr e is
  | [], _ => rfl
  | i :: is, e => by
    rw [clr_cons, clr_cons, clr_set, clr_clr is e, List.set_set]
section
variable {g cond elt : I} {src : List Tok} {items : List D} {e0 : Env'}
theorem cmpI (J : Nat → List T → Env' → Prop) (h0 : J 0 [] (clr e0 (tgs g))) (h1 : ∀ n acc e, J n acc e → ItOk e0 src e ∧ clr e (tgs g) = e ∧ acc.length ≤ Lim)
    (h2 : ∀ n acc e d, J n acc e → items[n]? = some d → tgt g d e fun e1 => wpT cond e1 (fun k e2 => condK k (wpE elt e2 (fun t e3 => J (n + 1) (acc ++ [t]) (clr e3 (tgs g))) (fun _ _ => False)) (J (n + 1) acc (clr e2 (tgs g)))) fun _ _ => False)
    (h3 : ∀ acc e, J items.length acc e → Q (.lst acc) e) : compK g cond elt Q src items e0 := ⟨J, h0, h1, h2, h3⟩
theorem take_snoc {α : Type} {l : List α} {n : Nat} {x : α} (h : l[n]? = some x) : l.take (n + 1) = l.take n ++ [x] := by
  rw [List.take_add_one, h]; rfl
theorem lt_of_at {α : Type} {l : List α} {n : Nat} {x : α} (h : l[n]? = some x) : n < l.length := (List.getElem?_eq_some_iff.mp h).1
theorem itok_clr (hs : ∀ i, Tok.slot i ∈ src → (tgs g).contains i = false) : ItOk e0 src (clr e0 (tgs g)) := fun k hk i e => by
  subst e
  exact clr_set_ne _ _ _ (by have := hs i hk; simpa using this)
/-- one result for each item, nothing else is changed -/
theorem cmpM (rs : List D) (hs : ∀ i, Tok.slot i ∈ src → (tgs g).contains i = false) (hl : rs.length = items.length) (hL : items.length ≤ Lim)
    (h : ∀ (n : Nat) (d r : D) (K : T → Env' → Prop), items[n]? = some d → rs[n]? = some r → (∀ e3, clr e3 (tgs g) = clr e0 (tgs g) → K (.val r) e3) → tgt g d (clr e0 (tgs g)) fun e1 => wpE elt e1 K (fun _ _ => False))
    (q : Q (.lst (vals rs)) (clr e0 (tgs g))) : compK g .tt elt Q src items e0 := by
  refine cmpI (fun n acc e => n ≤ items.length ∧ acc = vals (rs.take n) ∧ e = clr e0 (tgs g)) ⟨Nat.zero_le _, rfl, rfl⟩ ?_ ?_ ?_
  · rintro n acc e ⟨a, rfl, rfl⟩
    exact ⟨itok_clr hs, clr_clr _ _, by rw [vals_len, List.length_take]; omega⟩
  · rintro n acc e d ⟨a, rfl, rfl⟩ hd
    have hn := lt_of_at hd
    obtain ⟨r, hr⟩ : ∃ r, rs[n]? = some r := ⟨rs[n], List.getElem?_eq_getElem (by omega)⟩
    exact h n d r _ hd hr fun e3 he => ⟨hn, by rw [take_snoc hr, vals_app]; rfl, he⟩
  · rintro acc e ⟨a, rfl, rfl⟩
    rwa [List.take_of_length_le (by omega)]
/-- each result is such; what is changed keeps S -/
theorem cmpS (S : Env' → Prop) (R : Nat → D → Prop) (h0 : S (clr e0 (tgs g))) (hS : ∀ e, S e → ItOk e0 src e ∧ clr e (tgs g) = e) (hL : items.length ≤ Lim)
    (h : ∀ (n : Nat) (d : D) (e : Env') (K : T → Env' → Prop), S e → items[n]? = some d → (∀ r e3, R n r → S (clr e3 (tgs g)) → K (.val r) e3) → tgt g d e fun e1 => wpE elt e1 K (fun _ _ => False))
    (q : ∀ (ds : List D) (e : Env'), S e → ds.length = items.length → (∀ (n : Nat) (r : D), ds[n]? = some r → R n r) → Q (.lst (vals ds)) e) : compK g .tt elt Q src items e0 := by
  refine cmpI (fun n acc e => n ≤ items.length ∧ S e ∧ ∃ ds, acc = vals ds ∧ ds.length = n ∧ ∀ (n : Nat) (r : D), ds[n]? = some r → R n r) ⟨Nat.zero_le _, h0, [], rfl, rfl, fun n r h => by simp at h⟩ ?_ ?_ ?_
  · rintro n acc e ⟨a, b, ds, rfl, c, d⟩
    exact ⟨(hS e b).1, (hS e b).2, by rw [vals_len]; omega⟩
  · rintro n acc e d ⟨a, b, ds, rfl, c, dd⟩ hd
    refine h n d e _ b hd fun r e3 hr he => ⟨lt_of_at hd, he, ds ++ [r], by rw [vals_app]; rfl, by simp [c], fun m x hx => ?_⟩
    by_cases hm : m < ds.length
    · rw [List.getElem?_append_left hm] at hx; exact dd m x hx
    · have : m = ds.length := by have := lt_of_at hx; simp at this; omega
      subst this
      simp at hx; subst hx; rw [c]; exact hr
  · rintro acc e ⟨a, b, ds, rfl, c, d⟩
    exact q ds e b c d
/-- the same, where some are passed over -/
theorem cmpSc (S : Env' → Prop) (R : D → Prop) (h0 : S (clr e0 (tgs g))) (hS : ∀ e, S e → ItOk e0 src e ∧ clr e (tgs g) = e) (hL : items.length ≤ Lim)
    (h : ∀ (n : Nat) (d : D) (e : Env') (K : T → Env' → Prop) (K2 : Env' → Prop), S e → items[n]? = some d → (∀ r e3, R r → S (clr e3 (tgs g)) → K (.val r) e3) → (∀ e3, S (clr e3 (tgs g)) → K2 e3) →
      tgt g d e fun e1 => wpT cond e1 (fun k e2 => condK k (wpE elt e2 K (fun _ _ => False)) (K2 e2)) fun _ _ => False)
    (q : ∀ (ds : List D) (e : Env'), S e → ds.length ≤ items.length → (∀ r ∈ ds, R r) → Q (.lst (vals ds)) e) : compK g cond elt Q src items e0 := by
  refine cmpI (fun n acc e => n ≤ items.length ∧ S e ∧ ∃ ds, acc = vals ds ∧ ds.length ≤ n ∧ ∀ r ∈ ds, R r) ⟨Nat.zero_le _, h0, [], rfl, Nat.le_refl _, fun r h => by simp at h⟩ ?_ ?_ ?_
  · rintro n acc e ⟨a, b, ds, rfl, c, d⟩
    exact ⟨(hS e b).1, (hS e b).2, by rw [vals_len]; omega⟩
  · rintro n acc e d ⟨a, b, ds, rfl, c, dd⟩ hd
    refine h n d e (fun t e3 => _) (fun e3 => _) b hd (fun r e3 hr he => ⟨lt_of_at hd, he, ds ++ [r], by rw [vals_app]; rfl, by simp; omega, fun x hx => ?_⟩) (fun e3 he => ⟨lt_of_at hd, he, ds, rfl, by omega, dd⟩)
    rcases List.mem_append.mp hx with h | h
    · exact dd x h
    · simp at h; subst h; exact hr
  · rintro acc e ⟨a, b, ds, rfl, c, d⟩
    exact q ds e b c d
theorem ints_of {p : Int → Prop} : ∀ {ds : List D}, (∀ d ∈ ds, ∃ x, d = .int x ∧ p x) → ∃ l : List Int, ds = l.map .int ∧ ∀ x ∈ l, p x
  | [], _ => ⟨[], rfl, fun x h => by simp at h⟩
  | d :: ds, h => by
    obtain ⟨x, rfl, hx⟩ := h d (by simp)
    obtain ⟨l, rfl, hl⟩ := ints_of (p := p) (ds := ds) fun d hd => h d (by simp [hd])
    exact ⟨x :: l, rfl, fun y hy => by rcases List.mem_cons.mp hy with e | e; exact e ▸ hx; exact hl y e⟩
theorem all_at {ds : List D} {R : D → Prop} (h : ∀ (n : Nat) (r : D), ds[n]? = some r → R r) : ∀ r ∈ ds, R r := fun r hr => by
  obtain ⟨n, hn⟩ := List.getElem?_of_mem hr
  exact h n r hn
/-- those for which p, their f -/
theorem cmpF (p : D → Bool) (f : D → D) (hs : ∀ i, Tok.slot i ∈ src → (tgs g).contains i = false) (hL : items.length ≤ Lim)
    (h : ∀ (n : Nat) (d : D) (K : T → Env' → Prop) (K2 : Env' → Prop), items[n]? = some d → (p d = true → ∀ e3, clr e3 (tgs g) = clr e0 (tgs g) → K (.val (f d)) e3) → (p d = false → ∀ e3, clr e3 (tgs g) = clr e0 (tgs g) → K2 e3) →
      tgt g d (clr e0 (tgs g)) fun e1 => wpT cond e1 (fun k e2 => condK k (wpE elt e2 K (fun _ _ => False)) (K2 e2)) fun _ _ => False)
    (q : Q (.lst (vals ((items.filter p).map f))) (clr e0 (tgs g))) : compK g cond elt Q src items e0 := by
  refine cmpI (fun n acc e => n ≤ items.length ∧ acc = vals (((items.take n).filter p).map f) ∧ e = clr e0 (tgs g)) ⟨Nat.zero_le _, rfl, rfl⟩ ?_ ?_ ?_
  · rintro n acc e ⟨a, rfl, rfl⟩
    refine ⟨itok_clr hs, clr_clr _ _, ?_⟩
    have := List.length_filter_le p (items.take n)
    rw [vals_len, List.length_map]; rw [List.length_take] at this; omega
  · rintro n acc e d ⟨a, rfl, rfl⟩ hd
    have hn := lt_of_at hd
    refine h n d (fun t e3 => _) (fun e2 => _) hd (fun hp e3 he => ⟨hn, ?_, he⟩) (fun hp e3 he => ⟨hn, ?_, he⟩)
    · rw [take_snoc hd, List.filter_append, List.map_append, vals_app]; simp [hp]
    · rw [take_snoc hd, List.filter_append]; simp [hp]
  · rintro acc e ⟨a, rfl, rfl⟩
    rwa [List.take_of_length_le (by omega)] at *
end
end
theorem cutD_map {α β : Type} (f : α → β) (l : List α) (lo hi : Option Int) : cutD (l.map f) lo hi = (cutD l lo hi).map f := by
  simp [cutD, List.map_drop, List.map_take]
theorem cutD_len {α : Type} (l : List α) (lo hi : Option Int) : (cutD l lo hi).length ≤ l.length := by
  simp [cutD]; omega
theorem cutD_take {α : Type} {l : List α} {k : Int} (h : 0 ≤ k) : cutD l none (some k) = l.take k.toNat := by
  simp only [cutD, HT.sIx, if_neg (show ¬k < 0 by omega)]
  simp
theorem cutD_drop {α : Type} {l : List α} {k : Int} (h : 0 ≤ k) : cutD l (some k) none = l.drop k.toNat := by
  simp only [cutD, HT.sIx, if_neg (show ¬k < 0 by omega)]
  rw [List.take_of_length_le (by rw [List.length_drop]; omega)]
  by_cases q : k.toNat ≤ l.length
  · rw [Nat.min_eq_left q]
  · rw [Nat.min_eq_right (by omega), List.drop_length, List.drop_of_length_le (by omega)]
theorem cutD_mid {α : Type} {l : List α} {i k : Int} (h : 0 ≤ i) (h2 : 0 ≤ k) : cutD l (some i) (some k) = (l.take k.toNat).drop i.toNat := by
  simp only [cutD, HT.sIx, if_neg (show ¬k < 0 by omega), if_neg (show ¬i < 0 by omega)]
  rw [List.drop_take]
  by_cases q : i.toNat ≤ l.length
  · rw [Nat.min_eq_left q]
    by_cases q2 : k.toNat ≤ l.length
    · rw [Nat.min_eq_left q2]
    · rw [Nat.min_eq_right (by omega), List.take_of_length_le (by rw [List.length_drop]; omega), List.take_of_length_le (by rw [List.length_drop]; omega)]
  · rw [List.drop_of_length_le (show l.length ≤ min i.toNat l.length by omega), List.drop_of_length_le (show l.length ≤ i.toNat by omega)]; simp
theorem rng_at {lo : Int} {n i : Nat} {d : D} (h : (rng lo n)[i]? = some d) : i < n ∧ d = .int (lo + (i : Int)) := rng_get h
theorem rng_at0 {n i : Nat} {d : D} (h : (rng 0 n)[i]? = some d) : i < n ∧ d = .int i := by
  obtain ⟨a, rfl⟩ := rng_at h
  exact ⟨a, by rw [Int.zero_add]⟩
theorem rng_len (lo : Int) (n : Nat) : (rng lo n).length = n := by simp [rng]
/-! ## built-ins and operators at known data -/
section
variable {P : T → Prop} {a b : List D} {i j : Int} {x y : D}
@[simp] theorem bf_len_tup : bfS .len [.tup a] P = P (.val (.int a.length)) := rfl
@[simp] theorem bf_len_lst : bfS .len [.lst a] P = P (.val (.int a.length)) := rfl
@[simp] theorem bf_len_scr {ns : List Int} : bfS .len [.scr ns] P = P (.val (.int ns.length)) := rfl
@[simp] theorem bf_isi {n : String} : bfS .isi [x, .ty n] P = ((n = "int" ∨ n = "bool" ∨ n = "str" ∨ n = "tuple" ∨ n = "list") ∧ isiK (x.isInst n) fun b => P (.val (.bl b))) := rfl
@[simp] theorem bf_tupl_tup : bfS .tupl [.tup a] P = P (.val (.tup a)) := rfl
@[simp] theorem bf_tupl_lst : bfS .tupl [.lst a] P = P (.val (.tup a)) := rfl
@[simp] theorem bf_list_tup : bfS .list [.tup a] P = P (.lst (vals a)) := rfl
@[simp] theorem bf_list_lst : bfS .list [.lst a] P = P (.lst (vals a)) := rfl
@[simp] theorem bf_all : bfS .all [.lst a] P = blsK a fun bs => P (.val (.bl (bs.all id))) := rfl
@[simp] theorem bf_any : bfS .any [.lst a] P = blsK a fun bs => P (.val (.bl (bs.any id))) := rfl
@[simp] theorem bf_sum : bfS .sum [.lst a] P = intsK a fun ns => P (.val (.int ns.sum)) := rfl
@[simp] theorem bf_abs : bfS .abs [.int i] P = P (.val (.int (if i < 0 then -i else i))) := rfl
@[simp] theorem bf_int_int : bfS .int [.int i] P = P (.val (.int i)) := rfl
@[simp] theorem bf_int_bl {i : Bool} : bfS .int [.bl i] P = P (.val (.int (if i then 1 else 0))) := rfl
@[simp] theorem bf_min2 : bfS .min2 [.int i, .int j] P = P (.val (.int (if j < i then j else i))) := rfl
@[simp] theorem bf_max2 : bfS .max2 [.int i, .int j] P = P (.val (.int (if j > i then j else i))) := rfl
theorem bf_repA : bfS .repA [x] P = ((x.rok = true ∧ x.pyd.showable = true ∧ x.pyd.shown.length ≤ sizeLine) ∧ P (.val (.str x.pyd.shown))) := rfl
@[simp] theorem o_isin : opS2 .isin x (.lst a) P = ((x.pl 20 = true ∧ (D.lst a).pl 20 = true) ∧ P (.val (.bl (a.any fun z => eqD z x)))) := rfl
@[simp] theorem o_notin : opS2 .notin x (.lst a) P = ((x.pl 20 = true ∧ (D.lst a).pl 20 = true) ∧ P (.val (.bl (!a.any fun z => eqD z x)))) := rfl
theorem bf_repr : bfS .repr [x] P = ((x.isSeq = true ∧ x.pl 20 = true ∧ x.py.showable = true ∧ x.py.shown.length ≤ sizeLine) ∧ P (.val (.str x.py.shown))) := rfl
@[simp] theorem o_add_int : opS2 .add (.int i) (.int j) P = P (.val (.int (i + j))) := rfl
@[simp] theorem o_add_tup : opS2 .add (.tup a) (.tup b) P = (a.length + b.length ≤ Lim ∧ P (.val (.tup (a ++ b)))) := rfl
@[simp] theorem o_add_lst : opS2 .add (.lst a) (.lst b) P = (a.length + b.length ≤ Lim ∧ P (.lst (vals (a ++ b)))) := rfl
@[simp] theorem o_sub : opS2 .sub (.int i) (.int j) P = P (.val (.int (i - j))) := rfl
@[simp] theorem o_mul : opS2 .mul (.int i) (.int j) P = (((-(2 ^ 64) < i ∧ i < 2 ^ 64) ∨ (-(2 ^ 64) < j ∧ j < 2 ^ 64)) ∧ P (.val (.int (i * j)))) := rfl
@[simp] theorem o_mul_lst : opS2 .mul (.lst a) (.int j) P = (j ≤ Lim ∧ -(Lim : Int) ≤ j ∧ a.length * j.toNat ≤ Lim ∧ P (.lst (vals (List.replicate j.toNat a).flatten))) := rfl
@[simp] theorem o_mul_tup : opS2 .mul (.tup a) (.int j) P = ((1 ≤ j ∧ j ≤ 1000 ∧ a.length ≤ 1000) ∧ P (.val (.tup (List.replicate j.toNat a).flatten))) := rfl
@[simp] theorem o_isin_tup : opS2 .isin x (.tup a) P = ((x.pl 20 = true ∧ (D.tup a).pl 20 = true) ∧ P (.val (.bl (a.any fun z => eqD z x)))) := rfl
@[simp] theorem o_notin_tup : opS2 .notin x (.tup a) P = ((x.pl 20 = true ∧ (D.tup a).pl 20 = true) ∧ P (.val (.bl (!a.any fun z => eqD z x)))) := rfl
@[simp] theorem bf_minL : bfS .minL [.lst a] P = minS a fun d => P (.val d) := rfl
@[simp] theorem bf_maxL : bfS .maxL [.lst a] P = maxS a fun d => P (.val d) := rfl
@[simp] theorem o_mod : opS2 .mod (.int i) (.int j) P = (j ≠ 0 ∧ P (.val (.int (i.fmod j)))) := rfl
@[simp] theorem o_fdiv : opS2 .fdiv (.int i) (.int j) P = ((j ≠ 0 ∧ j.natAbs < 1073741824) ∧ P (.val (.int (i.fdiv j)))) := rfl
@[simp] theorem o_pow : opS2 .pow (.int i) (.int j) P = ((0 ≤ j ∧ j ≤ 1000000 ∧ i.natAbs < 2 ^ 64) ∧ P (.val (.int (i ^ j.toNat)))) := rfl
@[simp] theorem o_xor : opS2 .xor (.int i) (.int j) P = P (.val (.int (Builtin.bitXor i j))) := rfl
@[simp] theorem o_band : opS2 .band (.int i) (.int j) P = P (.val (.int (Builtin.bitAnd i j))) := rfl
@[simp] theorem o_bor : opS2 .bor (.int i) (.int j) P = P (.val (.int (Builtin.bitOr i j))) := rfl
@[simp] theorem o_lt : opS2 .lt (.int i) (.int j) P = P (.val (.bl (decide (i < j)))) := rfl
@[simp] theorem o_le : opS2 .le (.int i) (.int j) P = P (.val (.bl (decide (i ≤ j)))) := rfl
@[simp] theorem o_gt : opS2 .gt (.int i) (.int j) P = P (.val (.bl (decide (j < i)))) := rfl
@[simp] theorem o_ge : opS2 .ge (.int i) (.int j) P = P (.val (.bl (decide (j ≤ i)))) := rfl
@[simp] theorem o_eq_int : opS2 .eq (.int i) (.int j) P = P (.val (.bl (decide (i = j)))) := by
  show (((D.int i).pl 20 = true ∧ (D.int j).pl 20 = true) ∧ P (.val (.bl (eqD (.int i) (.int j))))) = _
  have e : eqD (.int i) (.int j) = decide (i = j) := by simp [eqD, D.py, PyData.eqv]; rfl
  rw [e]
  simp [D.pl]
@[simp] theorem o_ne_int : opS2 .ne (.int i) (.int j) P = P (.val (.bl (!decide (i = j)))) := by
  show (((D.int i).pl 20 = true ∧ (D.int j).pl 20 = true) ∧ P (.val (.bl (!eqD (.int i) (.int j))))) = _
  have e : eqD (.int i) (.int j) = decide (i = j) := by simp [eqD, D.py, PyData.eqv]; rfl
  rw [e]
  simp [D.pl]
@[simp] theorem o_eq_str {u v : Str} : opS2 .eq (.str u) (.str v) P = P (.val (.bl (decide (u = v)))) := rfl
@[simp] theorem o_ne_str {u v : Str} : opS2 .ne (.str u) (.str v) P = P (.val (.bl (!decide (u = v)))) := rfl
@[simp] theorem o_isB {u v : Bool} : opS2 .isB (.bl u) (.bl v) P = P (.val (.bl (decide (u = v)))) := rfl
@[simp] theorem o_notB {u v : Bool} : opS2 .notB (.bl u) (.bl v) P = P (.val (.bl (!decide (u = v)))) := rfl
@[simp] theorem o_isN : opS2 .isN x .non P = P (.val (.bl x.isNon)) := rfl
@[simp] theorem o_notN : opS2 .notN x .non P = P (.val (.bl (!x.isNon))) := rfl
@[simp] theorem o_idx_tup : opS2 .idx (.tup a) (.int i) P = frzK (L2.atI a i) fun d => P (.val d) := rfl
@[simp] theorem o_idx_lst : opS2 .idx (.lst a) (.int i) P = frzK (L2.atI a i) fun d => P (.val d) := rfl
@[simp] theorem o_neg : opS1 .neg (.int i) P = P (.val (.int (-i))) := rfl
end
section
variable {n : String}
@[simp] theorem ii_non : D.non.isInst n = some (n == "NoneType") := rfl
@[simp] theorem ii_bl {b : Bool} : (D.bl b).isInst n = some (n == "bool" || n == "int") := rfl
@[simp] theorem ii_int {b : Int} : (D.int b).isInst n = some (n == "int") := rfl
@[simp] theorem ii_str {b : Str} : (D.str b).isInst n = some (n == "str") := rfl
@[simp] theorem ii_tup {b : List D} : (D.tup b).isInst n = some (n == "tuple") := rfl
@[simp] theorem ii_lst {b : List D} : (D.lst b).isInst n = some (n == "list") := rfl
@[simp] theorem ii_dic {k : List L2.Key} {b : List D} : (D.dic k b).isInst n = some (n == "dict") := rfl
end
end FW
set_option Elab.async false
set_option linter.all false
set_option maxRecDepth 100000
namespace FW
open PySem PySem.Spec PyProof.Rows
/-! ## data of small numbers: it can be shown, it can be compared -/
mutual
def D.sm : D → Bool
  | .non => true
  | .bl _ => true
  | .int i => decide (-999999999999 ≤ i) && decide (i ≤ 999999999999)
  | .str _ => false
  | .tup ds => D.smL ds
  | .lst ds => D.smL ds
  | .dic _ _ => false
  | .scr _ => false
  | .fn _ => false
  | .ty _ => false
  | .exc _ _ _ => false
  | .clo _ _ => false
def D.smL : List D → Bool
  | [] => true
  | d :: ds => D.sm d && D.smL ds
end
mutual
def D.bk : D → Nat
  | .non => 0
  | .bl _ => 0
  | .int _ => 0
  | .str _ => 0
  | .tup ds => D.bkL ds
  | .lst ds => D.bkL ds
  | .dic _ _ => 0
  | .scr _ => 0
  | .fn _ => 0
  | .ty _ => 0
  | .exc _ _ _ => 0
  | .clo _ _ => 0
def D.bkL : List D → Nat
  | [] => 0
  | d :: ds => D.bk d + 1 + D.bkL ds
end
mutual
theorem pl_mono : ∀ (d : D) (n m : Nat), n ≤ m → d.pl n = true → d.pl m = true
  | .non, _, _, _, _ => by simp [D.pl]
  | .bl _, _, _, _, _ => by simp [D.pl]
  | .int _, _, _, _, _ => by simp [D.pl]
  | .str _, _, _, _, h => by simpa [D.pl] using h
  | .tup ds, 0, _, _, h => by simp [D.pl] at h
  | .tup ds, n + 1, 0, k, h => by omega
  | .tup ds, n + 1, m + 1, k, h => by simp only [D.pl] at h ⊢; exact plL_mono ds n m (by omega) h
  | .lst ds, 0, _, _, h => by simp [D.pl] at h
  | .lst ds, n + 1, 0, k, h => by omega
  | .lst ds, n + 1, m + 1, k, h => by simp only [D.pl] at h ⊢; exact plL_mono ds n m (by omega) h
  | .dic _ _, _, _, _, h => by simp [D.pl] at h
  | .scr _, _, _, _, h => by simp [D.pl] at h
  | .fn _, _, _, _, h => by simp [D.pl] at h
  | .ty _, _, _, _, h => by simp [D.pl] at h
  | .exc _ _ _, _, _, _, h => by simp [D.pl] at h
  | .clo _ _, _, _, _, h => by simp [D.pl] at h
theorem plL_mono : ∀ (ds : List D) (n m : Nat), n ≤ m → D.plL ds n = true → D.plL ds m = true
  | [], _, _, _, _ => by simp [D.plL]
  | d :: ds, n, m, k, h => by
    simp only [D.plL, Bool.and_eq_true] at h ⊢
    exact ⟨pl_mono d n m k h.1, plL_mono ds n m k h.2⟩
end
theorem plL_iff {ds : List D} {n : Nat} : D.plL ds n = true ↔ ∀ d ∈ ds, d.pl n = true := by
  induction ds with
  | nil => simp [D.plL]
  | cons d ds ih => simp [D.plL, ih]
theorem smL_iff {ds : List D} : D.smL ds = true ↔ ∀ d ∈ ds, d.sm = true := by
  induction ds with
  | nil => simp [D.smL]
  | cons d ds ih => simp [D.smL, ih]
theorem sm_tup (ds : List D) : (D.tup ds).sm = D.smL ds := by simp [D.sm]
theorem sm_lst (ds : List D) : (D.lst ds).sm = D.smL ds := by simp [D.sm]
theorem bk_tup (ds : List D) : (D.tup ds).bk = D.bkL ds := by simp [D.bk]
theorem bk_lst (ds : List D) : (D.lst ds).bk = D.bkL ds := by simp [D.bk]
theorem pl_tup (ds : List D) (n : Nat) : (D.tup ds).pl (n + 1) = D.plL ds n := by simp [D.pl]
theorem pl_lst (ds : List D) (n : Nat) : (D.lst ds).pl (n + 1) = D.plL ds n := by simp [D.pl]
theorem bkL_ints (l : List Int) : D.bkL (l.map .int) = l.length := by
  induction l with
  | nil => simp [D.bkL]
  | cons x l ih => simp [D.bkL, D.bk, ih]; omega
theorem smL_ints {l : List Int} (h : ∀ x ∈ l, -999999999999 ≤ x ∧ x ≤ 999999999999) : D.smL (l.map .int) = true := by
  rw [smL_iff]
  intro d hd
  obtain ⟨x, hx, rfl⟩ := List.mem_map.mp hd
  simp [D.sm, h x hx]
theorem bkL_le {ds : List D} {B : Nat} (h : ∀ d ∈ ds, d.bk ≤ B) : D.bkL ds ≤ ds.length * (B + 1) := by
  induction ds with
  | nil => simp [D.bkL]
  | cons d ds ih =>
    have h1 := h d (by simp)
    have h2 := ih fun x hx => h x (by simp [hx])
    simp only [D.bkL, List.length_cons, Nat.succ_mul]; omega
theorem plL_of_ints {l : List Int} (n : Nat) : D.plL (l.map .int) n = true := plL_ints l n
theorem int_showable {i : Int} (h1 : -999999999999 ≤ i) (h2 : i ≤ 999999999999) : PyData.showable (.int i) = true := by
  simp only [PyData.showable, decide_eq_true_eq]
  have h : i.natAbs ≤ 2 ^ 50 := by omega
  by_cases z : i.natAbs = 0
  · rw [z]; decide
  · have := (Nat.log2_lt z).mpr (Nat.lt_of_le_of_lt h (show 2 ^ 50 < 2 ^ 51 by decide)); omega
mutual
theorem sm_showable : ∀ {d : D}, d.sm = true → d.py.showable = true
  | .non, _ => by simp [D.py, PyData.showable]
  | .bl _, _ => by simp [D.py, PyData.showable]
  | .int i, h => by
    simp [D.sm] at h
    simpa [D.py] using int_showable h.1 h.2
  | .tup ds, h => by rw [sm_tup] at h; simp only [D.py, PyData.showable]; exact smL_showable h
  | .lst ds, h => by rw [sm_lst] at h; simp only [D.py, PyData.showable]; exact smL_showable h
  | .str _, h => by simp [D.sm] at h
  | .dic _ _, h => by simp [D.sm] at h
  | .scr _, h => by simp [D.sm] at h
  | .fn _, h => by simp [D.sm] at h
  | .ty _, h => by simp [D.sm] at h
  | .exc _ _ _, h => by simp [D.sm] at h
  | .clo _ _, h => by simp [D.sm] at h
theorem smL_showable : ∀ {ds : List D}, D.smL ds = true → PyData.showableAll (D.pyL ds) = true
  | [], _ => by simp [D.pyL, PyData.showableAll]
  | d :: ds, h => by
    simp only [D.smL, Bool.and_eq_true] at h
    simp only [D.pyL, PyData.showableAll, Bool.and_eq_true]
    exact ⟨sm_showable h.1, smL_showable h.2⟩
end
mutual
theorem sm_short : ∀ {d : D}, d.sm = true → d.py.leavesShort 13 = true
  | .non, _ => by simp [D.py, PyData.leavesShort]
  | .bl _, _ => by simp [D.py, PyData.leavesShort]
  | .int i, h => by
    simp [D.sm] at h
    simp only [D.py, PyData.leavesShort, decide_eq_true_eq]
    exact PyData.shown_int_le2 h.1 h.2
  | .tup ds, h => by rw [sm_tup] at h; simp only [D.py, PyData.leavesShort]; exact smL_short h
  | .lst ds, h => by rw [sm_lst] at h; simp only [D.py, PyData.leavesShort]; exact smL_short h
  | .str _, h => by simp [D.sm] at h
  | .dic _ _, h => by simp [D.sm] at h
  | .scr _, h => by simp [D.sm] at h
  | .fn _, h => by simp [D.sm] at h
  | .ty _, h => by simp [D.sm] at h
  | .exc _ _ _, h => by simp [D.sm] at h
  | .clo _ _, h => by simp [D.sm] at h
theorem smL_short : ∀ {ds : List D}, D.smL ds = true → PyData.leavesShortAll 13 (D.pyL ds) = true
  | [], _ => by simp [D.pyL, PyData.leavesShortAll]
  | d :: ds, h => by
    simp only [D.smL, Bool.and_eq_true] at h
    simp only [D.pyL, PyData.leavesShortAll, Bool.and_eq_true]
    exact ⟨sm_short h.1, smL_short h.2⟩
end
mutual
theorem sm_bulk : ∀ {d : D}, d.sm = true → d.py.bulk = d.bk
  | .non, _ => by simp [D.py, PyData.bulk, D.bk]
  | .bl _, _ => by simp [D.py, PyData.bulk, D.bk]
  | .int i, h => by simp [D.py, PyData.bulk, D.bk]
  | .tup ds, h => by rw [sm_tup] at h; simp only [D.py, PyData.bulk, D.bk]; exact smL_bulk h
  | .lst ds, h => by rw [sm_lst] at h; simp only [D.py, PyData.bulk, D.bk]; exact smL_bulk h
  | .str _, h => by simp [D.sm] at h
  | .dic _ _, h => by simp [D.sm] at h
  | .scr _, h => by simp [D.sm] at h
  | .fn _, h => by simp [D.sm] at h
  | .ty _, h => by simp [D.sm] at h
  | .exc _ _ _, h => by simp [D.sm] at h
  | .clo _ _, h => by simp [D.sm] at h
theorem smL_bulk : ∀ {ds : List D}, D.smL ds = true → PyData.bulkAll (D.pyL ds) = D.bkL ds
  | [], _ => by simp [D.pyL, PyData.bulkAll, D.bkL]
  | d :: ds, h => by
    simp only [D.smL, Bool.and_eq_true] at h
    simp only [D.pyL, PyData.bulkAll, D.bkL]
    rw [sm_bulk h.1, smL_bulk h.2]
end
/-- small data can be shown -/
theorem rep_ok {x : D} (h1 : x.isSeq = true) (h2 : x.pl 20 = true) (h3 : x.sm = true) (h4 : x.bk ≤ 1048576) : x.isSeq = true ∧ x.pl 20 = true ∧ x.py.showable = true ∧ x.py.shown.length ≤ sizeLine :=
  ⟨h1, h2, sm_showable h3, PyData.shown_fits_bulk (B := 13) (by decide) (by decide) (sm_short h3) (by rw [sm_bulk h3]; exact h4)⟩
theorem bf_repr_ok {x : D} {P : T → Prop} (h1 : x.isSeq = true) (h2 : x.pl 20 = true) (h3 : x.sm = true) (h4 : x.bk ≤ 1048576) : bfS .repr [x] P = P (.val (.str x.py.shown)) := by
  rw [bf_repr]
  exact propext ⟨fun ⟨_, q⟩ => q, fun q => ⟨rep_ok h1 h2 h3 h4, q⟩⟩
/-! ### equality -/
mutual
/-- of numbers, tuples and lists alone -/
def D.it : D → Bool
  | .int _ => true
  | .tup ds => D.itL ds
  | .lst ds => D.itL ds
  | .non => true
  | .bl _ => false
  | .str _ => false
  | .dic _ _ => false
  | .scr _ => false
  | .fn _ => false
  | .ty _ => false
  | .exc _ _ _ => false
  | .clo _ _ => false
def D.itL : List D → Bool
  | [] => true
  | d :: ds => D.it d && D.itL ds
end
theorem itL_iff {ds : List D} : D.itL ds = true ↔ ∀ d ∈ ds, d.it = true := by
  induction ds with
  | nil => simp [D.itL]
  | cons d ds ih => simp [D.itL, ih]
mutual
theorem it_eq : ∀ {x y : D}, x.it = true → y.it = true → (PyData.eqv x.py y.py = true ↔ x = y)
  | .non, .non, _, _ => by simp [D.py, PyData.eqv]
  | .non, .int _, _, _ => by simp [D.py, PyData.eqv]
  | .non, .tup _, _, _ => by simp [D.py, PyData.eqv]
  | .non, .lst _, _, _ => by simp [D.py, PyData.eqv]
  | .int _, .non, _, _ => by simp [D.py, PyData.eqv]
  | .int i, .int j, _, _ => by simp [D.py, PyData.eqv]
  | .int _, .tup _, _, _ => by simp [D.py, PyData.eqv]
  | .int _, .lst _, _, _ => by simp [D.py, PyData.eqv]
  | .tup _, .non, _, _ => by simp [D.py, PyData.eqv]
  | .tup _, .int _, _, _ => by simp [D.py, PyData.eqv]
  | .tup a, .tup b, h1, h2 => by
    simp only [D.it] at h1 h2
    simp only [D.py, PyData.eqv, D.tup.injEq]
    exact itL_eq h1 h2
  | .tup _, .lst _, _, _ => by simp [D.py, PyData.eqv]
  | .lst _, .non, _, _ => by simp [D.py, PyData.eqv]
  | .lst _, .int _, _, _ => by simp [D.py, PyData.eqv]
  | .lst _, .tup _, _, _ => by simp [D.py, PyData.eqv]
  | .lst a, .lst b, h1, h2 => by
    simp only [D.it] at h1 h2
    simp only [D.py, PyData.eqv, D.lst.injEq]
    exact itL_eq h1 h2
  | .bl _, _, h, _ => by simp [D.it] at h
  | .str _, _, h, _ => by simp [D.it] at h
  | .dic _ _, _, h, _ => by simp [D.it] at h
  | .scr _, _, h, _ => by simp [D.it] at h
  | .fn _, _, h, _ => by simp [D.it] at h
  | .ty _, _, h, _ => by simp [D.it] at h
  | .exc _ _ _, _, h, _ => by simp [D.it] at h
  | .clo _ _, _, h, _ => by simp [D.it] at h
  | _, .bl _, _, h => by simp [D.it] at h
  | _, .str _, _, h => by simp [D.it] at h
  | _, .dic _ _, _, h => by simp [D.it] at h
  | _, .scr _, _, h => by simp [D.it] at h
  | _, .fn _, _, h => by simp [D.it] at h
  | _, .ty _, _, h => by simp [D.it] at h
  | _, .exc _ _ _, _, h => by simp [D.it] at h
  | _, .clo _ _, _, h => by simp [D.it] at h
theorem itL_eq : ∀ {a b : List D}, D.itL a = true → D.itL b = true → (PyData.eqvAll (D.pyL a) (D.pyL b) = true ↔ a = b)
  | [], [], _, _ => by simp [D.pyL, PyData.eqvAll]
  | [], _ :: _, _, _ => by simp [D.pyL, PyData.eqvAll]
  | _ :: _, [], _, _ => by simp [D.pyL, PyData.eqvAll]
  | x :: a, y :: b, h1, h2 => by
    simp only [D.itL, Bool.and_eq_true] at h1 h2
    simp only [D.pyL, PyData.eqvAll, Bool.and_eq_true, List.cons.injEq]
    rw [it_eq h1.1 h2.1, itL_eq h1.2 h2.2]
end
theorem eqD_it {x y : D} (h1 : x.it = true) (h2 : y.it = true) {p : Prop} [Decidable p] (h : x = y ↔ p) : eqD x y = decide p := by
  have := it_eq h1 h2
  unfold eqD
  by_cases q : p
  · simp [q]; exact this.mpr (h.mpr q)
  · simp [q]
    cases e : PyData.eqv x.py y.py with
    | false => rfl
    | true => exact absurd (h.mp (this.mp e)) q
theorem itL_ints (l : List Int) : D.itL (l.map .int) = true := by
  induction l with
  | nil => simp [D.itL]
  | cons x l ih => simp [D.itL, D.it, ih]
theorem o_eq_it {x y : D} {P : T → Prop} (h1 : x.it = true) (h2 : y.it = true) (p1 : x.pl 20 = true) (p2 : y.pl 20 = true) {p : Prop} [Decidable p] (h : x = y ↔ p) : opS2 .eq x y P = P (.val (.bl (decide p))) := by
  have e : opS2 .eq x y P = ((x.pl 20 = true ∧ y.pl 20 = true) ∧ P (.val (.bl (eqD x y)))) := by cases x <;> first | rfl | (simp [D.it] at h1; done)
  rw [e, eqD_it h1 h2 h]
  simp [p1, p2]
theorem o_ne_it {x y : D} {P : T → Prop} (h1 : x.it = true) (h2 : y.it = true) (p1 : x.pl 20 = true) (p2 : y.pl 20 = true) {p : Prop} [Decidable p] (h : x = y ↔ p) : opS2 .ne x y P = P (.val (.bl (!decide p))) := by
  have e : opS2 .ne x y P = ((x.pl 20 = true ∧ y.pl 20 = true) ∧ P (.val (.bl (!eqD x y)))) := by cases x <;> first | rfl | (simp [D.it] at h1; done)
  rw [e, eqD_it h1 h2 h]
  simp [p1, p2]
theorem tup_inj_ints {a b : List Int} : D.tup (a.map .int) = D.tup (b.map .int) ↔ a = b := ⟨fun h => by injection h with h; exact map_int_inj h, fun h => by rw [h]⟩
theorem lst_inj_ints {a b : List Int} : D.lst (a.map .int) = D.lst (b.map .int) ↔ a = b := ⟨fun h => by injection h with h; exact map_int_inj h, fun h => by rw [h]⟩
section
variable {a b : List Int} {P : T → Prop}
@[simp] theorem o_eq_ints : opS2 .eq (.tup (a.map .int)) (.tup (b.map .int)) P = P (.val (.bl (decide (a = b)))) := o_eq_it (by simp [D.it, itL_ints]) (by simp [D.it, itL_ints]) (by rw [pl_tup]; exact plL_ints _ _) (by rw [pl_tup]; exact plL_ints _ _) tup_inj_ints
@[simp] theorem o_ne_ints : opS2 .ne (.tup (a.map .int)) (.tup (b.map .int)) P = P (.val (.bl (!decide (a = b)))) := o_ne_it (by simp [D.it, itL_ints]) (by simp [D.it, itL_ints]) (by rw [pl_tup]; exact plL_ints _ _) (by rw [pl_tup]; exact plL_ints _ _) tup_inj_ints
@[simp] theorem o_eq_intsl : opS2 .eq (.lst (a.map .int)) (.lst (b.map .int)) P = P (.val (.bl (decide (a = b)))) := o_eq_it (by simp [D.it, itL_ints]) (by simp [D.it, itL_ints]) (by rw [pl_lst]; exact plL_ints _ _) (by rw [pl_lst]; exact plL_ints _ _) lst_inj_ints
@[simp] theorem o_ne_intsl : opS2 .ne (.lst (a.map .int)) (.lst (b.map .int)) P = P (.val (.bl (!decide (a = b)))) := o_ne_it (by simp [D.it, itL_ints]) (by simp [D.it, itL_ints]) (by rw [pl_lst]; exact plL_ints _ _) (by rw [pl_lst]; exact plL_ints _ _) lst_inj_ints
@[simp] theorem o_eq_ints0 : opS2 .eq (.tup (a.map .int)) (.tup []) P = P (.val (.bl (decide (a = [])))) := o_eq_ints (b := [])
@[simp] theorem o_ne_ints0 : opS2 .ne (.tup (a.map .int)) (.tup []) P = P (.val (.bl (!decide (a = [])))) := o_ne_ints (b := [])
@[simp] theorem o_eq_intsl0 : opS2 .eq (.lst (a.map .int)) (.lst []) P = P (.val (.bl (decide (a = [])))) := o_eq_intsl (b := [])
@[simp] theorem o_ne_intsl0 : opS2 .ne (.lst (a.map .int)) (.lst []) P = P (.val (.bl (!decide (a = [])))) := o_ne_intsl (b := [])
@[simp] theorem o_eq_lnil : opS2 .eq (.lst []) (.lst []) P = P (.val (.bl true)) := by have := o_eq_intsl (a := []) (b := []) (P := P); simpa using this
@[simp] theorem o_ne_lnil : opS2 .ne (.lst []) (.lst []) P = P (.val (.bl false)) := by have := o_ne_intsl (a := []) (b := []) (P := P); simpa using this
@[simp] theorem o_eq_tnil : opS2 .eq (.tup []) (.tup []) P = P (.val (.bl true)) := by have := o_eq_ints (a := []) (b := []) (P := P); simpa using this
@[simp] theorem o_ne_tnil : opS2 .ne (.tup []) (.tup []) P = P (.val (.bl false)) := by have := o_ne_ints (a := []) (b := []) (P := P); simpa using this
/-- rows of small numbers, shown -/
theorem rep_wds {ws : List (List Int)} (h : ∀ w ∈ ws, w.length ≤ 1000 ∧ ∀ x ∈ w, -999999 ≤ x ∧ x ≤ 999999) (hn : ws.length ≤ 1000) : bfS .repr [.lst (ws.map fun w => .tup (w.map .int))] P = P (.val (.str (D.lst (ws.map fun w => .tup (w.map .int))).py.shown)) := by
  refine bf_repr_ok rfl ?_ ?_ ?_
  · rw [pl_lst, plL_iff]
    intro d hd
    obtain ⟨w, hw, rfl⟩ := List.mem_map.mp hd
    rw [pl_tup]; exact plL_ints w _
  · rw [sm_lst, smL_iff]
    intro d hd
    obtain ⟨w, hw, rfl⟩ := List.mem_map.mp hd
    rw [sm_tup]; exact smL_ints fun x hx => by have := (h w hw).2 x hx; omega
  · rw [bk_lst]
    have := bkL_le (ds := ws.map fun w => D.tup (w.map .int)) (B := 1000) fun d hd => by
      obtain ⟨w, hw, rfl⟩ := List.mem_map.mp hd
      rw [bk_tup, bkL_ints]; exact (h w hw).1
    rw [List.length_map] at this
    have h2 : ws.length * 1001 ≤ 1000 * 1001 := Nat.mul_le_mul_right _ hn
    omega
theorem rep_wd {w : List Int} (h : w.length ≤ 1000) (h2 : ∀ x ∈ w, -999999 ≤ x ∧ x ≤ 999999) : bfS .repr [.tup (w.map .int)] P = P (.val (.str (D.tup (w.map .int)).py.shown)) := by
  refine bf_repr_ok rfl ?_ ?_ ?_
  · rw [pl_tup]; exact plL_ints w _
  · rw [sm_tup]; exact smL_ints fun x hx => by have := h2 x hx; omega
  · rw [bk_tup, bkL_ints]; omega
end
end FW
set_option Elab.async false
set_option linter.all false
set_option maxRecDepth 100000
set_option maxHeartbeats 4000000
namespace FW
open PySem PySem.Spec PyProof.Rows L2
/-! ## the defs of a law, one behind the other -/
section
variable {P : Program} {w : World} {m : Mf} {ls : List Str} {fn : List He.DefD} {K : PySem.W.Frag} {h base : Heap} {mg : Str → Option Value}
theorem SaysM.mgG (s : SaysM m ls fn K h) (Nn : h.Ns mainGlobals mg) {x : Str} (hx : x ∈ m.defs) : mg x = some (.ref (He.ga K x)) := PySem.W.mg_of s.inn Nn (s.glo hx)
theorem SaysM.mgN (s : SaysM m ls fn K h) (Nn : h.Ns mainGlobals mg) (hn : m.nets.isEmpty = false) : mg m.net = some (.ref (He.ga K m.net)) := by
  have e := s.ok
  unfold Mf.ok at e
  simp only [Bool.and_eq_true, Bool.or_eq_true] at e
  rcases e.1.1.1.2 with z | z
  · rw [hn] at z; cases z
  · exact He.glo_ok s.inn Nn z
theorem SaysM.mdl (s : SaysM m ls fn K h) (Nn : h.Ns mainGlobals mg) {c : Cs} (hm : c.nums = m.nums ∧ c.defs = m.defs ∧ c.excs = m.excs ∧ c.net = m.net ∧ c.nets = m.nets ∧ c.isx = m.isx ∧ c.inis = m.inis ∧ c.fil = m.fil) (cau : c.lam = true → CauOk K mg c.cau c.net) : Mdl K mg c :=
  Mf.mdl s.inn Nn s.ok hm.1 hm.2.1 hm.2.2.1 hm.2.2.2.1 hm.2.2.2.2.1 hm.2.2.2.2.2.1 hm.2.2.2.2.2.2.1 hm.2.2.2.2.2.2.2 cau
/-- the def that catches -/
theorem cau_of {x a v en : Str} {params : Arguments} {body : List Stmt} {scope : Scope} {j : Nat} {p : Nat → Pos} (i : Nat) (s : SaysM m ls fn K h) (Nn : h.Ns mainGlobals mg) (hd : fn[i]? = some ⟨(x, none), x, x, params, body, scope, [], []⟩) (hx : x ∈ m.defs) (hb : body = caughtBody a v en m.net j p) (hn : m.nets.isEmpty = false)
    (hbd : ∀ (kV doc pm : Value) (an : Option Addr) (cdv ct : Value) (us : List Value), us.length = [a].length → bindArgs (PySem.W.fnOf x x params (caughtBody a v en m.net j p) scope .none kV doc pm an cdv ct) ⟨us, []⟩ = pure ([a].zip us)) (S : FnScope [a, v, en] [a] scope)
    (l1 : scope.names.lookup a = some .local) (l2 : scope.names.lookup v = some .local) (l3 : scope.names.lookup en = some .local) (l4 : scope.names.lookup m.net = some .globalImplicit) (n0 : (m.net == ("__debug__" : Str)) = false)
    (n1 : ((a == ("__debug__" : Str)) = false ∧ (a == ("__classdict__" : Str)) = false) ∧ ((v == ("__debug__" : Str)) = false ∧ (v == ("__classdict__" : Str)) = false) ∧ (en == ("__debug__" : Str)) = false ∧ (en == ("__classdict__" : Str)) = false) : CauOk K mg x m.net := by
  obtain ⟨fd, F⟩ := s.def_ i hd
  subst hb
  exact ⟨a, v, en, j, p, He.ga K x, He.ga K m.net, scope, params, fd, s.mgG Nn hx, F, FunD.bindsN F hbd, S, l1, l2, l3, l4, s.mgN Nn hn, n0, n1.1, n1.2.1, n1.2.2⟩
/-- A DEF OF THE LAW -/
theorem fok1 {x : Str} {params : Arguments} {body : List Stmt} {scope : Scope} {ps N : List Str} {cn : Con} {b : I} {c : Cs} {k : Nat} (i : Nat)
    (s : SaysM m ls fn K h) (Nn : h.Ns mainGlobals mg) (TB : ∀ p ∈ tabL K ls, LamX.TabB base mg p.1 p.2) (cau : c.lam = true → CauOk K mg c.cau c.net)
    (hd : fn[i]? = some ⟨(x, none), x, x, params, body, scope, [], []⟩) (hx : x ∈ m.defs) (hl : c.lam = true → x ∈ ls) (S : FnScope N ps scope) (hc : c.N = N ∧ c.sc = scope ∧ c.fnb = fun _ => true)
    (hm : c.nums = m.nums ∧ c.defs = m.defs ∧ c.excs = m.excs ∧ c.net = m.net ∧ c.nets = m.nets ∧ c.isx = m.isx ∧ c.inis = m.inis ∧ c.fil = m.fil) (hgd : c.gd = true → cn.gd = true) (hfil : c.rai = true → (P.main.file : Str) = c.fil ∧ (P.main.scope.names.lookup ("super" : Str)).isSome = false)
    (hb : ∀ (kV doc pm : Value) (an : Option Addr) (cdv ct : Value) (us : List Value), us.length = ps.length → bindArgs (PySem.W.fnOf x x params body scope .none kV doc pm an cdv ct) ⟨us, []⟩ = pure (ps.zip us)) (hio : ps.length = cn.io.length)
    (hkw : ∀ ks pm, (ks, pm) ∈ cn.kws → pm.length = ps.length ∧ (∀ j ∈ pm, j < ks.length) ∧ ∀ (kV doc pmv : Value) (an : Option Addr) (cdv ct : Value) (ws : List Value), ws.length = ks.length → bindArgs (PySem.W.fnOf x x params body scope .none kV doc pmv an cdv ct) ⟨[], ks.zip ws⟩ = pure (ps.zip (pmL pm ws))) (hfr : ioFree b 0 cn.io = true)
    (chk : chkSs b c body = true) (ok : ∀ f, okI ⟨fun y cy => Fok P w K mg base (GCm K mg ls) k y cy, f, fun _ => .pass⟩ b)
    (wp : ∀ ds ts as Pn Pe, argE cn.io ds ts = some as → cn.run ds ts Pn Pe → wpD b cn.io (N.length - ps.length) as Pn Pe) : Fok P w K mg base (GCm K mg ls) (k + c.dp + 1) x cn := by
  obtain ⟨fd, F⟩ := s.def_ i hd
  exact fok_of (F := fun y cy => Fok P w K mg base (GCm K mg ls) k y cy) rfl rfl (fun_of F (s.mgG Nn hx) hb) S (s.mdl Nn hm cau) hc hgd hfil
    (fun z => fun f oc od dV kV doc pm an cdv ct osl h1 h2 => htab_of s Nn TB (hl z) hx f oc od dV kV doc pm an cdv ct osl h1 h2) hio hkw hfr (fun y cy q => q) chk ok wp
/-- .. with closures of its own -/
theorem fok1L {x : Str} {params : Arguments} {body : List Stmt} {scope : Scope} {ps N : List Str} {cn : Con} {b : CF → I} {bod : Nat → I} {c : Cs} {k : Nat} (i : Nat)
    (s : SaysM m ls fn K h) (Nn : h.Ns mainGlobals mg) (TB : ∀ p ∈ tabL K ls, LamX.TabB base mg p.1 p.2) (cau : c.lam = true → CauOk K mg c.cau c.net)
    (hd : fn[i]? = some ⟨(x, none), x, x, params, body, scope, [], []⟩) (hx : x ∈ m.defs) (hl : c.lam = true → x ∈ ls) (S : FnScope N ps scope) (hc : c.N = N ∧ c.sc = scope ∧ c.fnb = fun _ => true)
    (hm : c.nums = m.nums ∧ c.defs = m.defs ∧ c.excs = m.excs ∧ c.net = m.net ∧ c.nets = m.nets ∧ c.isx = m.isx ∧ c.inis = m.inis ∧ c.fil = m.fil) (hgd : c.gd = true → cn.gd = true) (hfil : c.rai = true → (P.main.file : Str) = c.fil ∧ (P.main.scope.names.lookup ("super" : Str)).isSome = false)
    (hb : ∀ (kV doc pm : Value) (an : Option Addr) (cdv ct : Value) (us : List Value), us.length = ps.length → bindArgs (PySem.W.fnOf x x params body scope .none kV doc pm an cdv ct) ⟨us, []⟩ = pure (ps.zip us)) (hio : ps.length = cn.io.length)
    (hkw : ∀ ks pm, (ks, pm) ∈ cn.kws → pm.length = ps.length ∧ (∀ j ∈ pm, j < ks.length) ∧ ∀ (kV doc pmv : Value) (an : Option Addr) (cdv ct : Value) (ws : List Value), ws.length = ks.length → bindArgs (PySem.W.fnOf x x params body scope .none kV doc pmv an cdv ct) ⟨[], ks.zip ws⟩ = pure (ps.zip (pmL pm ws))) (hfr : ∀ f, ioFree (b f) 0 cn.io = true)
    (chk : ∀ f, chkSs (b f) c body = true) (ok : ∀ f, okI ⟨fun y cy => Fok P w K mg base (GCm K mg ls) k y cy, f, bod⟩ (b f))
    (wp : ∀ f ds ts as Pn Pe, argE cn.io ds ts = some as → cn.run ds ts Pn Pe → wpD (b f) cn.io (N.length - ps.length) as Pn Pe) : Fok P w K mg base (GCm K mg ls) (k + c.dp + 1) x cn := by
  obtain ⟨fd, F⟩ := s.def_ i hd
  exact fok_ofL (F := fun y cy => Fok P w K mg base (GCm K mg ls) k y cy) (bod := bod) rfl rfl (fun_of F (s.mgG Nn hx) hb) S (s.mdl Nn hm cau) hc hgd hfil
    (fun z => fun f oc od dV kV doc pm an cdv ct osl h1 h2 => htab_of s Nn TB (hl z) hx f oc od dV kV doc pm an cdv ct osl h1 h2) hio hkw hfr (fun y cy q => q) (fun X f _ g => (motS (b f)).Ss g (ok f) (chk f)) wp
/-- .. its body sound by any means -/
theorem fok1S {x : Str} {params : Arguments} {body : List Stmt} {scope : Scope} {ps N : List Str} {cn : Con} {b : I} {c : Cs} {k : Nat} (i : Nat)
    (s : SaysM m ls fn K h) (Nn : h.Ns mainGlobals mg) (TB : ∀ p ∈ tabL K ls, LamX.TabB base mg p.1 p.2) (cau : c.lam = true → CauOk K mg c.cau c.net)
    (hd : fn[i]? = some ⟨(x, none), x, x, params, body, scope, [], []⟩) (hx : x ∈ m.defs) (hl : c.lam = true → x ∈ ls) (S : FnScope N ps scope) (hc : c.N = N ∧ c.sc = scope ∧ c.fnb = fun _ => true)
    (hm : c.nums = m.nums ∧ c.defs = m.defs ∧ c.excs = m.excs ∧ c.net = m.net ∧ c.nets = m.nets ∧ c.isx = m.isx ∧ c.inis = m.inis ∧ c.fil = m.fil) (hgd : c.gd = true → cn.gd = true) (hfil : c.rai = true → (P.main.file : Str) = c.fil ∧ (P.main.scope.names.lookup ("super" : Str)).isSome = false)
    (hb : ∀ (kV doc pm : Value) (an : Option Addr) (cdv ct : Value) (us : List Value), us.length = ps.length → bindArgs (PySem.W.fnOf x x params body scope .none kV doc pm an cdv ct) ⟨us, []⟩ = pure (ps.zip us)) (hio : ps.length = cn.io.length)
    (hkw : ∀ ks pm, (ks, pm) ∈ cn.kws → pm.length = ps.length ∧ (∀ j ∈ pm, j < ks.length) ∧ ∀ (kV doc pmv : Value) (an : Option Addr) (cdv ct : Value) (ws : List Value), ws.length = ks.length → bindArgs (PySem.W.fnOf x x params body scope .none kV doc pmv an cdv ct) ⟨[], ks.zip ws⟩ = pure (ps.zip (pmL pm ws))) (hfr : ioFree b 0 cn.io = true)
    (hss : ∀ (X : Cx) (f : CF), TopX P w K mg base X → GoodS (GCm K mg ls) ⟨fun y cy => Fok P w K mg base (GCm K mg ls) k y cy, f, fun _ => .pass⟩ k c X → SSs X (GCm K mg ls) body b)
    (wp : ∀ ds ts as Pn Pe, argE cn.io ds ts = some as → cn.run ds ts Pn Pe → wpD b cn.io (N.length - ps.length) as Pn Pe) : Fok P w K mg base (GCm K mg ls) (k + c.dp + 1) x cn := by
  obtain ⟨fd, F⟩ := s.def_ i hd
  exact fok_ofS (F := fun y cy => Fok P w K mg base (GCm K mg ls) k y cy) rfl rfl (fun_of F (s.mgG Nn hx) hb) S (s.mdl Nn hm cau) hc hgd hfil
    (fun z => fun f oc od dV kV doc pm an cdv ct osl h1 h2 => htab_of s Nn TB (hl z) hx f oc od dV kV doc pm an cdv ct osl h1 h2) hio hkw hfr (fun y cy q => q) hss wp
end
end FW
set_option Elab.async false
set_option linter.all false
/-! ## words of letters: what is left when pairs are taken out (plain mathematics) -/
namespace WM
/-- the letter that undoes it -/
def iv (x : Int) : Int := x + 1 - 2 * (x % 2)
theorem iv_iv (x : Int) : iv (iv x) = x := by unfold iv; omega
theorem iv_ne (x : Int) : iv x ≠ x := by unfold iv; omega
theorem iv_inj {x y : Int} (h : iv x = iv y) : x = y := by have := congrArg iv h; rwa [iv_iv, iv_iv] at this
theorem iv_rng {x s : Int} (h : 0 ≤ x ∧ x ≤ 2 * s - 1) : 0 ≤ iv x ∧ iv x ≤ 2 * s - 1 := by unfold iv; omega
/-- a letter ahead -/
def psh (x : Int) : List Int → List Int
  | [] => [x]
  | y :: t => if y = iv x then t else x :: y :: t
theorem psh_c (x y : Int) (t : List Int) : psh x (y :: t) = if y = iv x then t else x :: y :: t := rfl
def act (u w : List Int) : List Int := u.foldr psh w
def nf (l : List Int) : List Int := act l []
def und (l : List Int) : List Int := (l.map iv).reverse
def Red : List Int → Prop
  | [] => True
  | [_] => True
  | x :: y :: t => y ≠ iv x ∧ Red (y :: t)
theorem Red.tail {x : Int} {l : List Int} (h : Red (x :: l)) : Red l := by
  cases l with
  | nil => trivial
  | cons y t => exact h.2
theorem red_cons {x : Int} {l : List Int} (h : Red l) (k : l.head? ≠ some (iv x)) : Red (x :: l) := by
  cases l with
  | nil => trivial
  | cons y t => exact ⟨fun e => k (by simp [e]), h⟩
theorem red_head {x : Int} {l : List Int} (h : Red (x :: l)) : l.head? ≠ some (iv x) := by
  cases l with
  | nil => simp
  | cons y t => simp; exact h.1
theorem red_psh {x : Int} {w : List Int} (h : Red w) : Red (psh x w) := by
  cases w with
  | nil => trivial
  | cons y t =>
    rw [psh_c]
    split
    · exact h.tail
    · rename_i k; exact ⟨k, h⟩
theorem psh_red {x : Int} {w : List Int} (h : Red (x :: w)) : psh x w = x :: w := by
  cases w with
  | nil => rfl
  | cons y t => rw [psh_c, if_neg h.1]
theorem psh_psh {x : Int} {w : List Int} (h : Red w) : psh (iv x) (psh x w) = w := by
  cases w with
  | nil => show psh (iv x) [x] = []; rw [psh_c, iv_iv, if_pos rfl]
  | cons y t =>
    rw [psh_c]
    split
    · rename_i e
      subst e
      exact psh_red h
    · rw [psh_c, iv_iv, if_pos rfl]
theorem psh_psh' {x : Int} {w : List Int} (h : Red w) : psh x (psh (iv x) w) = w := by
  have := psh_psh (x := iv x) h
  rwa [iv_iv] at this
theorem act_nil (w : List Int) : act [] w = w := rfl
theorem act_cons (x : Int) (u w : List Int) : act (x :: u) w = psh x (act u w) := rfl
theorem act_app (a b w : List Int) : act (a ++ b) w = act a (act b w) := by unfold act; rw [List.foldr_append]
theorem red_act (u : List Int) {w : List Int} (h : Red w) : Red (act u w) := by
  induction u with
  | nil => exact h
  | cons x u ih => exact red_psh ih
theorem red_nf (l : List Int) : Red (nf l) := red_act l trivial
theorem act_self : ∀ {l : List Int}, Red l → nf l = l
  | [], _ => rfl
  | x :: l, h => by
    show psh x (nf l) = _
    rw [act_self h.tail]
    exact psh_red h
theorem nf_red {l : List Int} (h : Red l) : nf l = l := act_self h
theorem nf_nf (l : List Int) : nf (nf l) = nf l := act_self (red_nf l)
theorem und_nil : und [] = [] := rfl
theorem und_cons (x : Int) (l : List Int) : und (x :: l) = und l ++ [iv x] := by simp [und]
theorem und_app (a b : List Int) : und (a ++ b) = und b ++ und a := by simp [und]
theorem und_und (l : List Int) : und (und l) = l := by
  unfold und
  rw [List.map_reverse, List.reverse_reverse, List.map_map]
  conv => rhs; rw [← List.map_id l]
  exact List.map_congr_left fun x _ => iv_iv x
theorem und_len (l : List Int) : (und l).length = l.length := by simp [und]
theorem und_eq_nil {l : List Int} : und l = [] ↔ l = [] := by simp [und]
theorem und_inj {a b : List Int} (h : und a = und b) : a = b := by have := congrArg und h; rwa [und_und, und_und] at this
theorem act_und (u : List Int) {w : List Int} (h : Red w) : act (und u) (act u w) = w := by
  induction u with
  | nil => rfl
  | cons x u ih =>
    rw [und_cons, act_app, act_cons, act_cons, act_nil, psh_psh (red_act u h)]
    exact ih
theorem act_und' (u : List Int) {w : List Int} (h : Red w) : act u (act (und u) w) = w := by
  have := act_und (und u) h
  rwa [und_und] at this
theorem act_psh (x : Int) (v : List Int) {w : List Int} (h : Red w) : act (psh x v) w = psh x (act v w) := by
  cases v with
  | nil => rfl
  | cons y t =>
    rw [psh_c]
    split
    · rename_i e
      subst e
      rw [act_cons, psh_psh' (red_act t h)]
    · rfl
theorem act_nf (u : List Int) {w : List Int} (h : Red w) : act (nf u) w = act u w := by
  induction u with
  | nil => rfl
  | cons x u ih =>
    show act (psh x (nf u)) w = _
    rw [act_psh _ _ h, ih]; rfl
theorem nf_app (a b : List Int) : nf (a ++ b) = act a (nf b) := act_app a b []
theorem nf_app_l (a b : List Int) : nf (nf a ++ b) = nf (a ++ b) := by rw [nf_app, nf_app, act_nf a (red_nf b)]
theorem nf_app_r (a b : List Int) : nf (a ++ nf b) = nf (a ++ b) := by rw [nf_app, nf_app, nf_nf]
theorem nf_mid (a b c : List Int) : nf (a ++ nf b ++ c) = nf (a ++ b ++ c) := by
  rw [List.append_assoc, nf_app, nf_app_l, ← nf_app, List.append_assoc]
theorem nf_pair (a b : List Int) (x : Int) : nf (a ++ x :: iv x :: b) = nf (a ++ b) := by
  rw [nf_app, nf_app]
  show act a (psh x (psh (iv x) (nf b))) = _
  rw [psh_psh' (red_nf b)]
theorem nf_und_r (u : List Int) : nf (u ++ und u) = [] := by
  rw [nf_app]; exact act_und' u (w := []) trivial
theorem nf_und_l (u : List Int) : nf (und u ++ u) = [] := by
  rw [nf_app]; exact act_und u (w := []) trivial
theorem red_app : ∀ {a b : List Int}, Red (a ++ b) → Red a ∧ Red b
  | [], b, h => ⟨trivial, h⟩
  | [x], b, h => ⟨trivial, Red.tail h⟩
  | x :: y :: a, b, h => by
    have h' : y ≠ iv x ∧ Red ((y :: a) ++ b) := h
    have := red_app h'.2
    exact ⟨⟨h'.1, this.1⟩, this.2⟩
theorem red_app_of : ∀ {a b : List Int}, Red a → Red b → (∀ x y, a.getLast? = some x → b.head? = some y → y ≠ iv x) → Red (a ++ b)
  | [], b, _, h, _ => h
  | [x], b, _, h, k => red_cons h (fun e => k x (iv x) rfl e rfl)
  | x :: y :: a, b, h1, h2, k => by
    have := red_app_of (a := y :: a) (b := b) h1.2 h2 (fun u v e1 e2 => k u v (by rw [List.getLast?_cons_cons]; exact e1) e2)
    exact ⟨h1.1, this⟩
theorem red_und : ∀ {l : List Int}, Red l → Red (und l)
  | [], _ => trivial
  | x :: l, h => by
    rw [und_cons]
    refine red_app_of (red_und h.tail) trivial (fun u v e1 e2 => ?_)
    simp at e2
    subst e2
    unfold und at e1
    rw [List.getLast?_reverse, List.head?_map] at e1
    have := red_head h
    intro e
    have e := iv_inj e
    subst e
    cases l with
    | nil => simp at e1
    | cons y t =>
      simp at e1 this
      exact this (by rw [← e1, iv_iv])
theorem nf_und (l : List Int) : nf (und l) = und (nf l) := by
  have h : act (und l) (act l (und (nf l))) = und (nf l) := act_und l (red_und (red_nf l))
  rw [← act_nf l (red_und (red_nf l)), ← nf_red (red_und (red_nf l)), ← nf_app, nf_red (red_und (red_nf l)), nf_und_r] at h
  exact h
theorem psh_mem {x y : Int} {w : List Int} (h : y ∈ psh x w) : y = x ∨ y ∈ w := by
  cases w with
  | nil => simp [psh] at h; exact .inl h
  | cons z t =>
    rw [psh_c] at h
    split at h
    · exact .inr (List.mem_cons_of_mem _ h)
    · exact List.mem_cons.mp h
theorem nf_mem {y : Int} {l : List Int} (h : y ∈ nf l) : y ∈ l := by
  induction l with
  | nil => exact h
  | cons x l ih =>
    rcases psh_mem (w := nf l) h with e | e
    · simp [e]
    · exact List.mem_cons_of_mem _ (ih e)
theorem psh_len (x : Int) (w : List Int) : (psh x w).length ≤ w.length + 1 := by
  cases w with
  | nil => simp [psh]
  | cons z t => rw [psh_c]; split <;> simp <;> omega
theorem nf_len (l : List Int) : (nf l).length ≤ l.length := by
  induction l with
  | nil => exact Nat.le_refl _
  | cons x l ih =>
    have := psh_len x (nf l)
    show (psh x (nf l)).length ≤ _
    simp; omega
/-! ### from the left, as it is told -/
def stp (acc : List Int) (x : Int) : List Int := if acc.getLast? = some (iv x) then acc.dropLast else acc ++ [x]
def frd (l : List Int) : List Int := l.foldl stp []
theorem stp_some {acc : List Int} {x : Int} (h : acc.getLast? = some (iv x)) : stp acc x = acc.dropLast := if_pos h
theorem stp_none {acc : List Int} {x : Int} (h : acc.getLast? ≠ some (iv x)) : stp acc x = acc ++ [x] := if_neg h
theorem last_split {acc : List Int} {y : Int} (h : acc.getLast? = some y) : acc = acc.dropLast ++ [y] := by
  cases acc with
  | nil => simp at h
  | cons a t =>
    rw [List.getLast?_eq_getLast (by simp)] at h
    injection h with h
    rw [← h]
    exact (List.dropLast_concat_getLast (by simp)).symm
theorem red_stp {acc : List Int} {x : Int} (h : Red acc) : Red (stp acc x) := by
  by_cases k : acc.getLast? = some (iv x)
  · rw [stp_some k]
    rw [last_split k] at h
    exact (red_app h).1
  · rw [stp_none k]
    refine red_app_of h trivial fun u v e1 e2 => ?_
    simp at e2
    subst e2
    intro e
    rw [e, iv_iv] at k
    exact k e1
theorem nf_stp {acc : List Int} {x : Int} : nf (stp acc x) = nf (acc ++ [x]) := by
  by_cases k : acc.getLast? = some (iv x)
  · rw [stp_some k]
    conv => rhs; rw [last_split k]
    have := nf_pair acc.dropLast [] (iv x)
    rw [iv_iv, List.append_nil] at this
    rw [List.append_assoc]
    exact this.symm
  · rw [stp_none k]
theorem foldl_stp : ∀ (l acc : List Int), Red acc → l.foldl stp acc = nf (acc ++ l)
  | [], acc, h => by rw [List.append_nil, nf_red h]; rfl
  | x :: l, acc, h => by
    rw [List.foldl_cons, foldl_stp l _ (red_stp h), ← nf_app_l, nf_stp, nf_app_l, List.append_assoc]; rfl
theorem frd_nf (l : List Int) : frd l = nf l := foldl_stp l [] trivial
theorem frd_snoc (l : List Int) (x : Int) : frd (l ++ [x]) = stp (frd l) x := by unfold frd; rw [List.foldl_append]; rfl
theorem frd_len (l : List Int) : (frd l).length ≤ l.length := by rw [frd_nf]; exact nf_len l
/-! ### sums -/
def smk (l : List Int) (k : Nat) : Int := (l.filter fun x => x == 2 * (k : Int)).length - (l.filter fun x => x == 2 * (k : Int) + 1).length
def sm (s : Int) (l : List Int) : List Int := (List.range s.toNat).map (smk l)
def sv (k : Nat) (x : Int) : Int := if x = 2 * (k : Int) then 1 else if x = 2 * (k : Int) + 1 then -1 else 0
theorem smk_cons (x : Int) (l : List Int) (k : Nat) : smk (x :: l) k = sv k x + smk l k := by
  unfold smk sv
  rw [List.filter_cons, List.filter_cons]
  by_cases h : x = 2 * (k : Int)
  · have h2 : ¬ x = 2 * (k : Int) + 1 := by omega
    have b1 : (x == 2 * (k : Int)) = true := by simpa using h
    have b2 : (x == 2 * (k : Int) + 1) = false := by simpa using h2
    rw [b1, b2, if_pos rfl, if_neg (by decide), if_pos h, List.length_cons]; omega
  · have b1 : (x == 2 * (k : Int)) = false := by simpa using h
    by_cases h2 : x = 2 * (k : Int) + 1
    · have b2 : (x == 2 * (k : Int) + 1) = true := by simpa using h2
      rw [b1, b2, if_pos rfl, if_neg (by decide), if_neg h, if_pos h2, List.length_cons]; omega
    · have b2 : (x == 2 * (k : Int) + 1) = false := by simpa using h2
      rw [b1, b2, if_neg (by decide), if_neg (by decide), if_neg h, if_neg h2]; omega
theorem smk_eq (l : List Int) (k : Nat) : smk l k = (l.map (sv k)).sum := by
  induction l with
  | nil => rfl
  | cons x l ih => rw [smk_cons, ih]; rfl
theorem smk_nil (k : Nat) : smk [] k = 0 := rfl
theorem smk_snoc (l : List Int) (x : Int) (k : Nat) : smk (l ++ [x]) k = smk l k + sv k x := by
  rw [smk_eq, smk_eq, List.map_append, List.sum_append]; simp
theorem smk_app (a b : List Int) (k : Nat) : smk (a ++ b) k = smk a k + smk b k := by
  rw [smk_eq, smk_eq, smk_eq, List.map_append, List.sum_append]
theorem sm_len (s : Int) (l : List Int) : (sm s l).length = s.toNat := by simp [sm]
theorem sm_get {s : Int} {l : List Int} {k : Nat} (h : k < s.toNat) : (sm s l)[k]? = some (smk l k) := by
  unfold sm
  rw [List.getElem?_map, List.getElem?_range h]; rfl
theorem sm_snoc {s : Int} {l : List Int} {x : Int} (h : 0 ≤ x) (k : x ≤ 2 * s - 1) : (sm s l).set (x / 2).toNat (smk l (x / 2).toNat + sv (x / 2).toNat x) = sm s (l ++ [x]) := by
  refine List.ext_getElem? fun i => ?_
  by_cases hi : i < s.toNat
  · rw [sm_get hi, smk_snoc]
    by_cases e : (x / 2).toNat = i
    · subst e
      rw [List.getElem?_set_self (by rw [sm_len]; exact hi)]
    · rw [List.getElem?_set_ne e, sm_get hi]
      have : sv i x = 0 := by unfold sv; rw [if_neg (by omega), if_neg (by omega)]
      rw [this]; simp
  · rw [List.getElem?_eq_none (by simp [sm_len]; omega), List.getElem?_eq_none (by rw [sm_len]; omega)]
theorem sm_nil (s : Int) : sm s [] = List.replicate s.toNat 0 := by
  refine List.ext_getElem? fun i => ?_
  by_cases hi : i < s.toNat
  · rw [sm_get hi, List.getElem?_replicate, if_pos hi]; rfl
  · rw [List.getElem?_eq_none (by rw [sm_len]; omega), List.getElem?_replicate, if_neg hi]
theorem sv_iv (k : Nat) (x : Int) : sv k (iv x) = - sv k x := by
  unfold sv iv
  split <;> split <;> (try split) <;> (try split) <;> omega
theorem smk_psh (x : Int) (w : List Int) (k : Nat) : smk (psh x w) k = sv k x + smk w k := by
  cases w with
  | nil => rw [← smk_cons]; rfl
  | cons y t =>
    rw [psh_c]
    split
    · rename_i e
      subst e
      rw [smk_cons, sv_iv]; omega
    · rw [smk_cons]
theorem smk_nf (l : List Int) (k : Nat) : smk (nf l) k = smk l k := by
  induction l with
  | nil => rfl
  | cons x l ih => show smk (psh x (nf l)) k = _; rw [smk_psh, smk_cons, ih]
theorem smk_le (l : List Int) (k : Nat) : -(l.length : Int) ≤ smk l k ∧ smk l k ≤ l.length := by
  unfold smk
  have h1 := List.length_filter_le (fun x => x == 2 * (k : Int)) l
  have h2 := List.length_filter_le (fun x => x == 2 * (k : Int) + 1) l
  omega
theorem frd_one (x : Int) : frd [x] = [x] := rfl
theorem sm_nf (s : Int) (l : List Int) : sm s (nf l) = sm s l := by
  unfold sm
  exact List.map_congr_left fun k _ => smk_nf l k
end WM
set_option Elab.async false
set_option linter.all false
/-! ## turns of a row, its least one (plain mathematics) -/
namespace WM
def rot (l : List Int) (k : Nat) : List Int := l.drop k ++ l.take k
theorem rot_len (l : List Int) (k : Nat) : (rot l k).length = l.length := by
  unfold rot
  rw [List.length_append, List.length_drop, List.length_take]
  omega
theorem rot_zero (l : List Int) : rot l 0 = l := by simp [rot]
theorem rot_full (l : List Int) : rot l l.length = l := by simp [rot]
theorem rot_app (a b : List Int) : rot (a ++ b) a.length = b ++ a := by simp [rot]
theorem rot_get {l : List Int} {k i : Nat} (hk : k ≤ l.length) (hi : i < l.length) : (rot l k)[i]? = l[(k + i) % l.length]? := by
  unfold rot
  by_cases h : i < l.length - k
  · rw [List.getElem?_append_left (by simpa using h), List.getElem?_drop, Nat.mod_eq_of_lt (by omega)]
  · rw [List.getElem?_append_right (by simp; omega), List.getElem?_take]
    have e : (k + i) % l.length = i - (l.drop k).length := by
      rw [List.length_drop, Nat.mod_eq_sub_mod (by omega), Nat.mod_eq_of_lt (by omega)]
      omega
    rw [if_pos (by simp; omega), e]
theorem list_ext {a b : List Int} (h : a.length = b.length) (k : ∀ i, i < a.length → a[i]? = b[i]?) : a = b := by
  apply List.ext_getElem?
  intro i
  by_cases hi : i < a.length
  · exact k i hi
  · rw [List.getElem?_eq_none (by omega), List.getElem?_eq_none (by omega)]
theorem rot_rot {l : List Int} {j k : Nat} (hj : j ≤ l.length) (hk : k ≤ l.length) : rot (rot l j) k = rot l ((j + k) % l.length) := by
  by_cases h0 : l.length = 0
  · have : l = [] := List.eq_nil_of_length_eq_zero h0
    subst this
    simp [rot]
  · have hlt : (j + k) % l.length < l.length := Nat.mod_lt _ (by omega)
    refine list_ext (by rw [rot_len, rot_len, rot_len]) fun i hi => ?_
    rw [rot_len, rot_len] at hi
    rw [rot_get (by rw [rot_len]; exact hk) (by rw [rot_len]; exact hi), rot_len, rot_get hj (Nat.mod_lt _ (by omega)), rot_get (Nat.le_of_lt hlt) hi]
    congr 1
    rw [Nat.mod_add_mod, Nat.add_mod_mod, Nat.add_assoc]
/-- b is a turn of a -/
def Turn (a b : List Int) : Prop := ∃ k, k ≤ a.length ∧ b = rot a k
theorem Turn.refl (a : List Int) : Turn a a := ⟨0, Nat.zero_le _, (rot_zero a).symm⟩
theorem Turn.len {a b : List Int} (h : Turn a b) : b.length = a.length := by
  obtain ⟨k, _, rfl⟩ := h
  exact rot_len a k
theorem Turn.symm {a b : List Int} (h : Turn a b) : Turn b a := by
  obtain ⟨k, hk, rfl⟩ := h
  refine ⟨a.length - k, by rw [rot_len]; omega, ?_⟩
  rw [rot_rot hk (by omega), show k + (a.length - k) = a.length by omega, Nat.mod_self, rot_zero]
theorem Turn.trans {a b c : List Int} (h : Turn a b) (h2 : Turn b c) : Turn a c := by
  obtain ⟨k, hk, rfl⟩ := h
  obtain ⟨j, hj, rfl⟩ := h2
  rw [rot_len] at hj
  rw [rot_rot hk hj]
  by_cases h0 : a.length = 0
  · exact ⟨0, by omega, by rw [h0]; simp [List.eq_nil_of_length_eq_zero h0, rot]⟩
  · exact ⟨_, Nat.le_of_lt (Nat.mod_lt _ (by omega)), rfl⟩
theorem Turn.app (a b : List Int) : Turn (a ++ b) (b ++ a) := ⟨a.length, by simp, (rot_app a b).symm⟩
theorem Turn.lt {a b : List Int} (h : Turn a b) (n : a ≠ []) : ∃ k, k < a.length ∧ b = rot a k := by
  obtain ⟨k, hk, rfl⟩ := h
  have h0 : 0 < a.length := List.length_pos_iff.mpr n
  by_cases e : k = a.length
  · subst e
    exact ⟨0, h0, by rw [rot_full, rot_zero]⟩
  · exact ⟨k, by omega, rfl⟩
theorem Turn.mem {a b : List Int} (h : Turn a b) (x : Int) : x ∈ b ↔ x ∈ a := by
  obtain ⟨k, _, rfl⟩ := h
  unfold rot
  rw [List.mem_append, or_comm, ← List.mem_append, List.take_append_drop]
/-! the least one -/
def lst1 (a y : List Int) : List Int := if y < a then y else a
def lturn (l : List Int) : List Int := ((List.range l.length).map (rot l)).foldl lst1 l
/-- m is the least turn of l -/
def Lst (l m : List Int) : Prop := Turn l m ∧ ∀ y, Turn l y → ¬ y < m
theorem fold_lst : ∀ (xs : List (List Int)) (x : List Int), xs.foldl lst1 x ∈ x :: xs ∧ ∀ y ∈ x :: xs, ¬ y < xs.foldl lst1 x
  | [], x => by simp [List.lt_irrefl]
  | y :: ys, x => by
    obtain ⟨h1, h2⟩ := fold_lst ys (lst1 x y)
    simp only [List.foldl_cons]
    generalize ys.foldl lst1 (lst1 x y) = m at h1 h2
    unfold lst1 at h1 h2
    by_cases c : y < x
    · rw [if_pos c] at h1 h2
      refine ⟨?_, fun z hz => ?_⟩
      · rcases List.mem_cons.mp h1 with e | e <;> simp [e]
      · rcases List.mem_cons.mp hz with e | e
        · subst e
          exact fun q => h2 y List.mem_cons_self (List.lt_trans c q)
        · exact h2 z e
    · rw [if_neg c] at h1 h2
      refine ⟨?_, fun z hz => ?_⟩
      · rcases List.mem_cons.mp h1 with e | e <;> simp [e]
      · rcases List.mem_cons.mp hz with e | e
        · exact h2 z (by simp [e])
        · rcases List.mem_cons.mp e with e | e
          · subst e
            exact fun q => h2 x List.mem_cons_self (List.lt_of_le_of_lt (List.not_lt.mp c) q)
          · exact h2 z (by simp [e])
theorem lturn_lst (l : List Int) : Lst l (lturn l) := by
  obtain ⟨h1, h2⟩ := fold_lst ((List.range l.length).map (rot l)) l
  refine ⟨?_, fun y hy => ?_⟩
  · rcases List.mem_cons.mp h1 with e | e
    · unfold lturn; rw [e]; exact .refl l
    · obtain ⟨k, hk, e⟩ := List.mem_map.mp e
      refine ⟨k, by have := List.mem_range.mp hk; omega, ?_⟩
      unfold lturn
      exact e.symm
  · by_cases n : l = []
    · subst n
      obtain ⟨k, hk, rfl⟩ := hy
      have hk : k = 0 := by simpa using hk
      subst hk
      exact h2 _ (by simp [rot])
    · obtain ⟨k, hk, rfl⟩ := hy.lt n
      exact h2 _ (List.mem_cons_of_mem _ (List.mem_map.mpr ⟨k, List.mem_range.mpr hk, rfl⟩))
theorem Lst.eq {l m m' : List Int} (h : Lst l m) (h' : Lst l m') : m = m' := List.le_antisymm (List.not_lt.mp (h.2 _ h'.1)) (List.not_lt.mp (h'.2 _ h.1)) |> fun e => e.symm ▸ rfl
theorem lturn_eq {l m : List Int} (h : Lst l m) : lturn l = m := (lturn_lst l).eq h
theorem lturn_turn (l : List Int) : Turn l (lturn l) := (lturn_lst l).1
theorem lturn_len (l : List Int) : (lturn l).length = l.length := (lturn_turn l).len
theorem lturn_of {a b : List Int} (h : Turn a b) : lturn b = lturn a := lturn_eq ⟨h.symm.trans (lturn_turn a), fun y hy => (lturn_lst a).2 y (h.trans hy)⟩
theorem lturn_iff {a b : List Int} : lturn a = lturn b ↔ Turn a b := ⟨fun e => (lturn_turn a).trans (e ▸ (lturn_turn b).symm), fun h => (lturn_of h).symm⟩
theorem lturn_nil : lturn [] = [] := rfl
theorem lturn_ne {l : List Int} : lturn l = [] ↔ l = [] := by
  rw [← List.length_eq_zero_iff, lturn_len, List.length_eq_zero_iff]
theorem lturn_lturn (l : List Int) : lturn (lturn l) = lturn l := lturn_of (lturn_turn l)
/-! two pointers -/
/-- the letter at place i of the turn that begins at p -/
def atp (l : List Int) (p i : Nat) : Option Int := l[(p + i) % l.length]?
theorem atp_add (l : List Int) (p k i : Nat) : atp l (p + k) i = atp l p (k + i) := by unfold atp; rw [Nat.add_assoc]
def tn (l : List Int) (p : Nat) : List Int := rot l (p % l.length)
theorem tn_get {l : List Int} {p i : Nat} (hi : i < l.length) : (tn l p)[i]? = atp l p i := by
  unfold tn atp
  rw [rot_get (Nat.le_of_lt (Nat.mod_lt _ (by omega))) hi, Nat.mod_add_mod]
theorem tn_len (l : List Int) (p : Nat) : (tn l p).length = l.length := rot_len _ _
theorem lt_at {a b : List Int} {j : Nat} {x y : Int} (h : a.length = b.length) (hj : ∀ i, i < j → a[i]? = b[i]?) (ha : a[j]? = some x) (hb : b[j]? = some y) (hxy : x < y) : a < b := by
  obtain ⟨la, ea⟩ := List.getElem?_eq_some_iff.mp ha
  obtain ⟨lb, eb⟩ := List.getElem?_eq_some_iff.mp hb
  rw [List.lt_iff_exists]
  refine .inr ⟨j, la, lb, fun i hi => ?_, by rw [ea, eb]; exact hxy⟩
  have := hj i hi
  rw [List.getElem?_eq_getElem (by omega), List.getElem?_eq_getElem (by omega)] at this
  exact Option.some.inj this
/-- not the least one -/
def Nl (l : List Int) (p : Nat) : Prop := ∃ q, tn l q < tn l p
theorem nl_not {l : List Int} {p : Nat} (n : l ≠ []) (h : Nl l p) : tn l p ≠ lturn l := fun e => by
  obtain ⟨q, hq⟩ := h
  rw [e] at hq
  exact (lturn_lst l).2 _ ⟨q % l.length, Nat.le_of_lt (Nat.mod_lt _ (List.length_pos_iff.mpr n)), rfl⟩ hq
theorem nl_run {l : List Int} {a b s k : Nat} {x y : Int} (hs : s < l.length) (he : ∀ i, i < s → atp l a i = atp l b i) (ha : atp l a s = some x) (hb : atp l b s = some y) (hxy : y < x) (hk : k ≤ s) : Nl l (a + k) := by
  refine ⟨b + k, lt_at (j := s - k) (by rw [tn_len, tn_len]) (fun i hi => ?_) ?_ ?_ hxy⟩
  · rw [tn_get (by omega), tn_get (by omega), atp_add, atp_add, he (k + i) (by omega)]
  · rw [tn_get (by omega), atp_add, show k + (s - k) = s by omega, hb]
  · rw [tn_get (by omega), atp_add, show k + (s - k) = s by omega, ha]
structure Spt (l : List Int) (a b s : Nat) : Prop where
  ne : a ≠ b
  out : ∀ p, p < max a b → p ≠ min a b → Nl l p
  eqs : ∀ i, i < s → atp l a i = atp l b i
theorem spt_start (l : List Int) : Spt l 0 1 0 := ⟨by decide, fun p hp hn => by simp at hp hn; omega, fun i hi => by omega⟩
theorem Spt.more {l : List Int} {a b s : Nat} (h : Spt l a b s) (e : atp l a s = atp l b s) : Spt l a b (s + 1) := ⟨h.ne, h.out, fun i hi => by
  by_cases q : i = s
  · subst q; exact e
  · exact h.eqs i (by omega)⟩
theorem Spt.swap {l : List Int} {a b s : Nat} (h : Spt l a b s) : Spt l b a s := ⟨h.ne.symm, fun p hp hn => h.out p (by omega) (by omega), fun i hi => (h.eqs i hi).symm⟩
/-- the first is greater: it goes on, the other one steps aside -/
theorem Spt.first {l : List Int} {a b s : Nat} {x y : Int} (h : Spt l a b s) (hs : s < l.length) (ha : atp l a s = some x) (hb : atp l b s = some y) (hxy : y < x) : Spt l (a + s + 1) (b + if a + s + 1 = b then 1 else 0) 0 := by
  have run : ∀ p, a ≤ p → p ≤ a + s → Nl l p := fun p h1 h2 => by
    have := nl_run (k := p - a) hs h.eqs ha hb hxy (by omega)
    rwa [show a + (p - a) = p by omega] at this
  refine ⟨by split <;> omega, fun p hp hn => ?_, fun i hi => by omega⟩
  by_cases c : a ≤ p ∧ p ≤ a + s
  · exact run p c.1 c.2
  · refine h.out p ?_ ?_
    · split at hp <;> split at hn <;> omega
    · split at hp <;> split at hn <;> omega
theorem Spt.second {l : List Int} {a b s : Nat} {x y : Int} (h : Spt l a b s) (hs : s < l.length) (ha : atp l a s = some x) (hb : atp l b s = some y) (hxy : x < y) : Spt l a (b + s + 1 + if a = b + s + 1 then 1 else 0) 0 := by
  have run : ∀ p, b ≤ p → p ≤ b + s → Nl l p := fun p h1 h2 => by
    have := nl_run (k := p - b) hs h.swap.eqs hb ha hxy (by omega)
    rwa [show b + (p - b) = p by omega] at this
  refine ⟨by split <;> omega, fun p hp hn => ?_, fun i hi => by omega⟩
  by_cases c : b ≤ p ∧ p ≤ b + s
  · exact run p c.1 c.2
  · refine h.out p ?_ ?_
    · split at hp <;> split at hn <;> omega
    · split at hp <;> split at hn <;> omega
theorem atp_per {l : List Int} {a d : Nat} (n : l ≠ []) (h : ∀ i, i < l.length → atp l a i = atp l (a + d) i) (p : Nat) : tn l p = tn l (p + d) := by
  have h0 : 0 < l.length := List.length_pos_iff.mpr n
  have all : ∀ i, atp l a i = atp l (a + d) i := fun i => by
    have := h (i % l.length) (Nat.mod_lt _ h0)
    unfold atp at this ⊢
    rwa [Nat.add_mod_mod, Nat.add_mod_mod] at this
  refine list_ext (by rw [tn_len, tn_len]) fun i hi => ?_
  rw [tn_len] at hi
  rw [tn_get hi, tn_get hi]
  -- p + i is a + j, up to turns
  have := all (p + i + a * (l.length - 1))
  unfold atp at this ⊢
  have e1 : (a + (p + i + a * (l.length - 1))) % l.length = (p + i) % l.length := by
    rw [show a + (p + i + a * (l.length - 1)) = (p + i) + a * l.length by
      have : a * l.length = a * (l.length - 1) + a := by
        conv => lhs; rw [show l.length = (l.length - 1) + 1 by omega, Nat.mul_add, Nat.mul_one]
      omega, Nat.add_mul_mod_self_right]
  have e2 : (a + d + (p + i + a * (l.length - 1))) % l.length = (p + d + i) % l.length := by
    rw [show a + d + (p + i + a * (l.length - 1)) = (p + d + i) + a * l.length by
      have : a * l.length = a * (l.length - 1) + a := by
        conv => lhs; rw [show l.length = (l.length - 1) + 1 by omega, Nat.mul_add, Nat.mul_one]
      omega, Nat.add_mul_mod_self_right]
  rwa [e1, e2] at this
theorem Spt.done {l : List Int} {a b s : Nat} (h : Spt l a b s) (n : l ≠ []) (e : l.length ≤ max a b ∨ l.length ≤ s) : min a b < l.length ∧ rot l (min a b) = lturn l := by
  have h0 : 0 < l.length := List.length_pos_iff.mpr n
  obtain ⟨m, hm, em⟩ := (lturn_turn l).lt n
  have tm : tn l m = lturn l := by unfold tn; rw [Nat.mod_eq_of_lt hm]; exact em.symm
  by_cases c : m < max a b
  · by_cases q : m = min a b
    · rw [← q]; exact ⟨hm, em.symm⟩
    · exact absurd tm (nl_not n (h.out m c q))
  · have hs : l.length ≤ s := by rcases e with e | e <;> omega
    obtain ⟨d, hd, hd0⟩ : ∃ d, max a b = min a b + d ∧ 0 < d := ⟨max a b - min a b, by omega, by have := h.ne; omega⟩
    have per : ∀ p, tn l p = tn l (p + d) := atp_per (a := min a b) n fun i hi => by
      rw [← hd]
      have := h.eqs i (by omega)
      rcases Nat.le_total a b with q | q
      · rw [Nat.min_eq_left q, Nat.max_eq_right q]; exact this
      · rw [Nat.min_eq_right q, Nat.max_eq_left q]; exact this.symm
    have down : ∀ k p, p ≤ k → min a b ≤ p → tn l p = lturn l → tn l (min a b) = lturn l := by
      intro k
      induction k with
      | zero =>
        intro p h1 h2 h3
        have : p = min a b := by omega
        rw [← this]; exact h3
      | succ k ih =>
        intro p h1 h2 h3
        by_cases q : p < max a b
        · by_cases q2 : p = min a b
          · rw [← q2]; exact h3
          · exact absurd h3 (nl_not n (h.out p q q2))
        · refine ih (p - d) (by omega) (by omega) ?_
          rw [per (p - d), show p - d + d = p by omega]; exact h3
    have z := down m m (Nat.le_refl _) (by omega) tm
    have lt : min a b < l.length := by omega
    refine ⟨lt, ?_⟩
    unfold tn at z
    rwa [Nat.mod_eq_of_lt lt] at z
end WM
set_option Elab.async false
set_option linter.all false
/-! ## words read round (plain mathematics) -/
namespace WM
/-! cut at both ends -/
def cyc (l : List Int) : List Int := if 1 < l.length ∧ l.head? = l.getLast?.map iv then cyc (l.drop 1).dropLast else l
termination_by l.length
decreasing_by simp; omega
theorem cyc_in {l : List Int} (h : 1 < l.length ∧ l.head? = l.getLast?.map iv) : cyc l = cyc (l.drop 1).dropLast := by
  rw [cyc, if_pos h]
theorem cyc_out {l : List Int} (h : ¬(1 < l.length ∧ l.head? = l.getLast?.map iv)) : cyc l = l := by
  rw [cyc, if_neg h]
theorem last_wrap (x y : Int) (m : List Int) : (x :: (m ++ [y])).getLast? = some y := by
  rw [← List.cons_append, List.getLast?_concat]
theorem cyc_wrap (x : Int) (m : List Int) : cyc (x :: (m ++ [iv x])) = cyc m := by
  rw [cyc_in ⟨by simp, by rw [last_wrap]; simp [iv_iv]⟩]
  simp
theorem cyc_keep {x y : Int} {m : List Int} (h : x ≠ iv y) : cyc (x :: (m ++ [y])) = x :: (m ++ [y]) := cyc_out (by rw [last_wrap]; simp [h])
theorem cyc_len (l : List Int) : (cyc l).length ≤ l.length := by
  induction l using cyc.induct with
  | case1 l h ih => rw [cyc_in h]; simp only [List.length_dropLast, List.length_drop] at ih; omega
  | case2 l h => rw [cyc_out h]; exact Nat.le_refl _
theorem cyc_mid (l : List Int) : ∃ a b, l = a ++ cyc l ++ b := by
  induction l using cyc.induct with
  | case1 l h ih =>
    obtain ⟨a, b, e⟩ := ih
    rw [cyc_in h]
    match l, h with
    | x :: y :: t, h =>
      refine ⟨x :: a, b ++ [(y :: t).getLast (by simp)], ?_⟩
      have e2 : (y :: t) = (y :: t).dropLast ++ [(y :: t).getLast (by simp)] := (List.dropLast_concat_getLast (by simp)).symm
      have e : (y :: t).dropLast = a ++ cyc (y :: t).dropLast ++ b := e
      show x :: y :: t = x :: a ++ cyc (y :: t).dropLast ++ (b ++ [(y :: t).getLast (by simp)])
      rw [List.cons_append, List.cons_append, ← List.append_assoc, ← e, ← e2]
  | case2 l h => exact ⟨[], [], by rw [cyc_out h]; simp⟩
theorem cyc_cyc (l : List Int) : cyc (cyc l) = cyc l := by
  induction l using cyc.induct with
  | case1 l h ih => rw [cyc_in h]; exact ih
  | case2 l h => rw [cyc_out h, cyc_out h]
theorem cyc_nil : cyc [] = [] := cyc_out (by simp)
theorem cyc_sub {l : List Int} {x : Int} (h : x ∈ cyc l) : x ∈ l := by
  obtain ⟨a, b, e⟩ := cyc_mid l
  rw [e]
  simp [h]
theorem red_cyc {l : List Int} (h : Red l) : Red (cyc l) := by
  obtain ⟨a, b, e⟩ := cyc_mid l
  rw [e] at h
  exact (red_app (red_app h).1).2
/-! the round of a word -/
def rnd (l : List Int) : List Int := lturn (cyc (nf l))
theorem rnd_of_nf {a b : List Int} (h : nf a = nf b) : rnd a = rnd b := by unfold rnd; rw [h]
theorem rnd_nf (l : List Int) : rnd (nf l) = rnd l := rnd_of_nf (nf_nf l)
theorem rnd_len (l : List Int) : (rnd l).length ≤ l.length := by
  unfold rnd
  rw [lturn_len]
  exact Nat.le_trans (cyc_len _) (nf_len l)
theorem rnd_mem {l : List Int} {x : Int} (h : x ∈ rnd l) : x ∈ l := nf_mem (cyc_sub (((lturn_turn (cyc (nf l))).mem x).mp h))
theorem conj_red {w : List Int} (h : Red w) (x : Int) : Turn (cyc w) (cyc (psh x (stp w (iv x)))) := by
  by_cases k : w.getLast? = some x
  · rw [stp_some (by rw [iv_iv]; exact k)]
    have e := last_split k
    generalize w.dropLast = w' at e
    subst e
    match w' with
    | [] => exact .refl _
    | y :: v =>
      rw [psh_c]
      by_cases q : y = iv x
      · rw [if_pos q, q]
        have := cyc_wrap (iv x) v
        rw [iv_iv] at this
        show Turn (cyc (iv x :: (v ++ [x]))) _
        rw [this]
        exact .refl _
      · rw [if_neg q]
        show Turn (cyc (y :: (v ++ [x]))) _
        rw [cyc_keep q]
        have e3 : cyc (x :: y :: v) = x :: y :: v := by
          rcases List.eq_nil_or_concat v with rfl | ⟨v', z, rfl⟩
          · exact cyc_keep (m := []) (x := x) (y := y) fun e => by
              have e : y = iv x := by rw [e, iv_iv]
              exact q e
          · have hz : Red ((y :: v') ++ ([z] ++ [x])) := by simpa using h
            have := (red_app hz).2
            have hzx : x ≠ iv z := this.1
            have := cyc_keep (x := x) (y := z) (m := y :: v') hzx
            simpa using this
        rw [e3]
        exact Turn.app (y :: v) [x]
  · rw [stp_none (by rw [iv_iv]; exact k)]
    match w with
    | [] =>
      show Turn (cyc []) (cyc (psh x [iv x]))
      rw [psh_c, if_pos rfl]
      exact .refl _
    | y :: v =>
      rw [List.cons_append, psh_c]
      by_cases q : y = iv x
      · rw [if_pos q]
        subst q
        rcases List.eq_nil_or_concat v with rfl | ⟨v', z, rfl⟩
        · exact .refl _
        · have hzx : z ≠ x := fun e => k (by rw [e, List.concat_eq_append, last_wrap])
          have e1 : cyc (iv x :: (v' ++ [z])) = iv x :: (v' ++ [z]) := cyc_keep fun e => hzx (iv_inj e).symm
          have e2 : cyc ((v' ++ [z]) ++ [iv x]) = (v' ++ [z]) ++ [iv x] := by
            match v' with
            | [] =>
              have hr : z ≠ x := hzx
              exact cyc_keep (m := []) (x := z) (y := iv x) (by rw [iv_iv]; exact hr)
            | a :: v'' =>
              have h0 : a ≠ iv (iv x) := h.1
              have := cyc_keep (x := a) (y := iv x) (m := v'' ++ [z]) h0
              simpa using this
          rw [show (v'.concat z) = v' ++ [z] by simp, e1, e2]
          exact Turn.app [iv x] (v' ++ [z])
      · rw [if_neg q]
        have := cyc_wrap x (y :: v)
        rw [show x :: y :: (v ++ [iv x]) = x :: ((y :: v) ++ [iv x]) from rfl, this]
        exact .refl _
theorem rnd_conj1 (x : Int) (l : List Int) : rnd (x :: (l ++ [iv x])) = rnd l := by
  have e : nf (x :: (l ++ [iv x])) = psh x (stp (nf l) (iv x)) := by
    show psh x (nf (l ++ [iv x])) = _
    rw [← nf_app_l, ← nf_stp, nf_red (red_stp (red_nf l))]
  unfold rnd
  rw [e]
  exact lturn_of (conj_red (red_nf l) x)
theorem rnd_turn1 (x : Int) (l : List Int) : rnd (x :: l) = rnd (l ++ [x]) := by
  rw [← rnd_conj1 x (l ++ [x])]
  refine rnd_of_nf ?_
  have := nf_pair (x :: l) [] x
  simp at this
  simpa using this.symm
theorem rnd_app : ∀ (a b : List Int), rnd (a ++ b) = rnd (b ++ a)
  | [], b => by simp
  | x :: a, b => by
    rw [List.cons_append, rnd_turn1, List.append_assoc, rnd_app a (b ++ [x]), List.append_assoc]; rfl
theorem rnd_turn {a b : List Int} (h : Turn a b) : rnd b = rnd a := by
  obtain ⟨k, _, rfl⟩ := h
  unfold rot
  rw [rnd_app, List.take_append_drop]
theorem rnd_conj : ∀ (u l : List Int), rnd (u ++ l ++ und u) = rnd l
  | [], l => by simp [und]
  | x :: u, l => by
    rw [und_cons, show x :: u ++ l ++ (und u ++ [iv x]) = x :: ((u ++ l ++ und u) ++ [iv x]) by simp, rnd_conj1, rnd_conj u l]
theorem rnd_pair (a b : List Int) (x : Int) : rnd (a ++ x :: iv x :: b) = rnd (a ++ b) := rnd_of_nf (nf_pair a b x)
/-! rows without neighbours that undo one another, read round -/
def CR (l : List Int) : Prop := ∀ (i : Nat) (a b : Int), i < l.length → l[i]? = some a → l[(i + 1) % l.length]? = some b → b ≠ iv a
theorem red_iff : ∀ {l : List Int}, Red l ↔ ∀ (i : Nat) (a b : Int), l[i]? = some a → l[i + 1]? = some b → b ≠ iv a
  | [] => by simp [Red]
  | [x] => by simp [Red]
  | x :: y :: t => by
    have ih := red_iff (l := y :: t)
    constructor
    · intro h i a b ha hb
      cases i with
      | zero => simp at ha hb; subst ha hb; exact h.1
      | succ i => exact ih.mp h.2 i a b (by simpa using ha) (by simpa using hb)
    · intro h
      exact ⟨h 0 x y rfl rfl, ih.mpr fun i a b ha hb => h (i + 1) a b (by simpa using ha) (by simpa using hb)⟩
theorem cr_iff {l : List Int} : CR l ↔ Red l ∧ cyc l = l := by
  by_cases h0 : l = []
  · subst h0
    simp [CR, Red, cyc_nil]
  have hp : 0 < l.length := List.length_pos_iff.mpr h0
  have hl : l.getLast? = l[l.length - 1]? := List.getLast?_eq_getElem?
  have hh : l.head? = l[0]? := List.head?_eq_getElem?
  constructor
  · intro h
    refine ⟨red_iff.mpr fun i a b ha hb => ?_, cyc_out ?_⟩
    · have hi := (List.getElem?_eq_some_iff.mp hb).1
      exact h i a b (by omega) ha (by rw [Nat.mod_eq_of_lt hi]; exact hb)
    · rintro ⟨h1, h2⟩
      rw [hh, hl] at h2
      have e1 := List.getElem?_eq_getElem (l := l) (i := l.length - 1) (by omega)
      rw [e1] at h2
      simp at h2
      exact h (l.length - 1) _ _ (by omega) e1 (by rw [show l.length - 1 + 1 = l.length by omega, Nat.mod_self]; exact h2) rfl
  · rintro ⟨h1, h2⟩ i a b hi ha hb
    by_cases q : i + 1 < l.length
    · rw [Nat.mod_eq_of_lt q] at hb
      exact red_iff.mp h1 i a b ha hb
    · have e : i = l.length - 1 := by omega
      rw [e, show l.length - 1 + 1 = l.length by omega, Nat.mod_self] at hb
      intro eb
      by_cases one : l.length = 1
      · rw [e, one] at ha
        rw [ha] at hb
        injection hb with hb
        rw [← hb] at eb
        exact iv_ne _ eb.symm
      · have c : 1 < l.length ∧ l.head? = l.getLast?.map iv := ⟨by omega, by rw [hh, hl, hb, ← e, ha, eb]; rfl⟩
        have := cyc_in c
        rw [h2] at this
        have z := cyc_len (l.drop 1).dropLast
        rw [← this] at z
        simp at z
        omega
theorem CR.turn {a b : List Int} (h : CR a) (t : Turn a b) : CR b := by
  obtain ⟨k, hk, rfl⟩ := t
  intro i x y hi hx hy
  rw [rot_len] at hi hy
  have hm : 0 < a.length := by omega
  rw [rot_get hk hi] at hx
  rw [rot_get hk (Nat.mod_lt _ hm)] at hy
  refine h ((k + i) % a.length) x y (Nat.mod_lt _ hm) hx ?_
  rw [Nat.mod_add_mod]
  rw [Nat.add_mod_mod] at hy
  rw [Nat.add_assoc]; exact hy
theorem cr_cyc {l : List Int} (h : Red l) : CR (cyc l) := cr_iff.mpr ⟨red_cyc h, cyc_cyc l⟩
theorem cr_rnd (l : List Int) : CR (rnd l) := (cr_cyc (red_nf l)).turn (lturn_turn _)
/-- a round -/
def Rd (l : List Int) : Prop := CR l ∧ lturn l = l
theorem CR.rnd {l : List Int} (h : CR l) : WM.rnd l = lturn l := by
  obtain ⟨h1, h2⟩ := cr_iff.mp h
  unfold WM.rnd
  rw [nf_red h1, h2]
theorem Rd.rnd {l : List Int} (h : Rd l) : WM.rnd l = l := by rw [h.1.rnd, h.2]
theorem rd_rnd (l : List Int) : Rd (rnd l) := ⟨cr_rnd l, lturn_lturn _⟩
theorem rd_iff {l : List Int} : rnd l = l ↔ Rd l := ⟨fun e => e ▸ rd_rnd l, Rd.rnd⟩
theorem rnd_rnd (l : List Int) : rnd (rnd l) = rnd l := (rd_rnd l).rnd
/-! undone -/
theorem und_turn {a b : List Int} (h : Turn a b) : Turn (und a) (und b) := by
  obtain ⟨k, _, rfl⟩ := h
  have := Turn.app (und (a.drop k)) (und (a.take k))
  rw [← und_app, ← und_app, List.take_append_drop] at this
  exact this
theorem und_get {l : List Int} {i : Nat} (hi : i < l.length) : (und l)[i]? = l[l.length - 1 - i]?.map iv := by
  unfold und
  rw [List.getElem?_reverse (by simpa using hi), List.getElem?_map]
  simp
theorem und_self {l : List Int} (h : Red l) (e : und l = l) : l = [] := by
  by_cases h0 : l = []
  · exact h0
  exfalso
  have hp : 0 < l.length := List.length_pos_iff.mpr h0
  have at_ : ∀ i (hi : i < l.length), l[i] = iv (l[l.length - 1 - i]'(by omega)) := fun i hi => by
    have := und_get hi
    rw [e, List.getElem?_eq_getElem hi, List.getElem?_eq_getElem (by omega)] at this
    simpa using this
  by_cases odd : l.length % 2 = 1
  · have := at_ (l.length / 2) (by omega)
    have e2 : l.length - 1 - l.length / 2 = l.length / 2 := by omega
    simp only [e2] at this
    exact iv_ne _ this.symm
  · have := at_ (l.length / 2) (by omega)
    have e2 : l.length - 1 - l.length / 2 = l.length / 2 - 1 := by omega
    simp only [e2] at this
    refine red_iff.mp h (l.length / 2 - 1) _ _ (List.getElem?_eq_getElem (by omega)) (List.getElem?_eq_getElem (by omega)) ?_
    have e3 : l.length / 2 - 1 + 1 = l.length / 2 := by omega
    simp only [e3]
    exact this
theorem cr_und {l : List Int} (h : CR l) : CR (und l) := by
  obtain ⟨h1, h2⟩ := cr_iff.mp h
  by_cases h0 : l = []
  · subst h0; exact h
  have hp : 0 < l.length := List.length_pos_iff.mpr h0
  intro i a b hi ha hb
  rw [und_len] at hi hb
  rw [und_get hi] at ha
  rw [und_get (Nat.mod_lt _ hp)] at hb
  obtain ⟨x, hx, rfl⟩ := Option.map_eq_some_iff.mp ha
  obtain ⟨y, hy, rfl⟩ := Option.map_eq_some_iff.mp hb
  have key : (l.length - 1 - (i + 1) % l.length + 1) % l.length = l.length - 1 - i := by
    by_cases q : i + 1 < l.length
    · rw [Nat.mod_eq_of_lt q, Nat.mod_eq_of_lt (by omega)]; omega
    · have : i + 1 = l.length := by omega
      rw [this, Nat.mod_self, show l.length - 1 - 0 + 1 = l.length by omega, Nat.mod_self]; omega
  have := h (l.length - 1 - (i + 1) % l.length) y x (by omega) hy (by rw [key]; exact hx)
  intro e
  have e := iv_inj e
  exact this (by rw [e, iv_iv])
/-- no round is that of its undone -/
theorem back_ne {l : List Int} (h : Rd l) (n : l ≠ []) : rnd (und l) ≠ l := by
  intro e
  rw [(cr_und h.1).rnd] at e
  obtain ⟨k, hk, ek⟩ := (lturn_turn (und l))
  rw [e] at ek
  have hl : l = (und l).drop k ++ (und l).take k := ek
  generalize ha : (und l).take k = a at hl
  generalize hb : (und l).drop k = b at hl
  have hu : und l = a ++ b := by rw [← ha, ← hb, List.take_append_drop]
  have hu2 : und l = und a ++ und b := by rw [hl, und_app]
  rw [hu] at hu2
  obtain ⟨e1, e2⟩ := List.append_inj hu2 (by rw [und_len])
  have hr := (cr_iff.mp h.1).1
  rw [hl] at hr
  have za := und_self (red_app hr).2 e1.symm
  have zb := und_self (red_app hr).1 e2.symm
  rw [za, zb] at hl
  exact n hl
theorem rnd_und_und {l : List Int} (h : Rd l) : rnd (und (rnd (und l))) = l := by
  have t := und_turn (lturn_turn (und l))
  rw [und_und] at t
  rw [(cr_und h.1).rnd, (cr_und (((cr_und h.1)).turn (lturn_turn _))).rnd, lturn_of t, h.2]
/-! ### the root -/
def Per (l : List Int) (s : Nat) : Prop := rot l s = l
instance (l : List Int) (s : Nat) : Decidable (Per l s) := inferInstanceAs (Decidable (_ = _))
theorem per_full (l : List Int) : Per l l.length := rot_full l
theorem per_get {l : List Int} {s : Nat} (hs : s ≤ l.length) : Per l s ↔ ∀ i, i < l.length → l[(s + i) % l.length]? = l[i]? := by
  constructor
  · intro h i hi
    rw [← rot_get hs hi, h]
  · intro h
    exact list_ext (rot_len _ _) fun i hi => by rw [rot_len] at hi; rw [rot_get hs hi, h i hi]
theorem per_mul {l : List Int} {s : Nat} (hs : s ≤ l.length) (h : Per l s) (k : Nat) {i : Nat} (hi : i < l.length) : l[(k * s + i) % l.length]? = l[i]? := by
  induction k with
  | zero => rw [Nat.zero_mul, Nat.zero_add, Nat.mod_eq_of_lt hi]
  | succ k ih =>
    have := (per_get hs).mp h ((k * s + i) % l.length) (Nat.mod_lt _ (by omega))
    rw [Nat.add_mod_mod] at this
    rw [Nat.succ_mul, show k * s + s + i = s + (k * s + i) by omega, this]
    exact ih
/-- s is the least period -/
def LP (l : List Int) (s : Nat) : Prop := (0 < s ∧ s ≤ l.length ∧ Per l s) ∧ ∀ t, 0 < t → t ≤ l.length → Per l t → s ≤ t
theorem lp_dvd_of {l : List Int} {s t : Nat} (h : LP l s) (ht : t ≤ l.length) (p : Per l t) : s ∣ t := by
  obtain ⟨⟨h1, h2, h3⟩, h4⟩ := h
  have h0 : 0 < l.length := by omega
  by_cases z : t % s = 0
  · exact Nat.dvd_of_mod_eq_zero z
  have hr : t % s < s := Nat.mod_lt _ h1
  have : Per l (t % s) := (per_get (by omega)).mpr fun i hi => by
    have a := per_mul h2 h3 (t / s) (i := (t % s + i) % l.length) (Nat.mod_lt _ h0)
    rw [Nat.add_mod_mod, ← Nat.add_assoc, show t / s * s + t % s = t by rw [Nat.mul_comm]; exact Nat.div_add_mod t s] at a
    rw [← a]
    exact (per_get ht).mp p i hi
  have := h4 _ (by omega) (by omega) this
  omega
theorem lp_dvd {l : List Int} {s : Nat} (h : LP l s) : s ∣ l.length := lp_dvd_of h (Nat.le_refl _) (per_full l)
theorem lp_ex {l : List Int} (n : l ≠ []) : ∃ s, LP l s := by
  have hp : 0 < l.length := List.length_pos_iff.mpr n
  have : ∀ m, (∃ t, t ≤ m ∧ 0 < t ∧ t ≤ l.length ∧ Per l t) → ∃ s, LP l s := by
    intro m
    induction m with
    | zero => rintro ⟨t, a, b, _⟩; omega
    | succ m ih =>
      rintro ⟨t, a, b, c, d⟩
      by_cases q : ∃ t, t ≤ m ∧ 0 < t ∧ t ≤ l.length ∧ Per l t
      · exact ih q
      · refine ⟨t, ⟨b, c, d⟩, fun u u1 u2 u3 => ?_⟩
        by_cases z : u ≤ m
        · exact absurd ⟨u, z, u1, u2, u3⟩ q
        · omega
  exact this l.length ⟨l.length, Nat.le_refl _, hp, Nat.le_refl _, per_full l⟩
theorem LP.uniq {l : List Int} {s t : Nat} (h : LP l s) (k : LP l t) : s = t := Nat.le_antisymm (h.2 _ k.1.1 k.1.2.1 k.1.2.2) (k.2 _ h.1.1 h.1.2.1 h.1.2.2)
/-- so often -/
def rep (k : Nat) (u : List Int) : List Int := (List.replicate k u).flatten
theorem rep_zero (u : List Int) : rep 0 u = [] := rfl
theorem rep_succ (k : Nat) (u : List Int) : rep (k + 1) u = u ++ rep k u := by unfold rep; rw [List.replicate_succ, List.flatten_cons]
theorem rep_len (k : Nat) (u : List Int) : (rep k u).length = k * u.length := by
  induction k with
  | zero => simp [rep]
  | succ k ih => rw [rep_succ, List.length_append, ih, Nat.succ_mul, Nat.add_comm]
theorem rep_get {k : Nat} {u : List Int} {i : Nat} (h : i < k * u.length) : (rep k u)[i]? = u[i % u.length]? := by
  induction k generalizing i with
  | zero => omega
  | succ k ih =>
    rw [rep_succ]
    by_cases q : i < u.length
    · rw [List.getElem?_append_left q, Nat.mod_eq_of_lt q]
    · rw [List.getElem?_append_right (by omega), ih (by rw [Nat.succ_mul] at h; omega), ← Nat.mod_eq_sub_mod (by omega)]
theorem rep_one (u : List Int) : rep 1 u = u := by rw [rep_succ, rep_zero, List.append_nil]
theorem lp_rep {l : List Int} {s : Nat} (h : LP l s) : rep (l.length / s) (l.take s) = l := by
  obtain ⟨⟨h1, h2, h3⟩, h4⟩ := id h
  have hd := Nat.div_mul_cancel (lp_dvd h)
  have ht : (l.take s).length = s := by rw [List.length_take]; omega
  refine list_ext (by rw [rep_len, ht, hd]) fun i hi => ?_
  rw [rep_len, ht, hd] at hi
  rw [rep_get (by rw [ht, hd]; exact hi), ht, List.getElem?_take, if_pos (Nat.mod_lt _ h1)]
  have a := per_mul h2 h3 (i / s) (i := i % s) (by have := Nat.mod_lt i h1; omega)
  rw [Nat.mul_comm, Nat.div_add_mod, Nat.mod_eq_of_lt hi] at a
  exact a.symm
theorem per_rep {k : Nat} {u : List Int} (hk : 0 < k) : Per (rep k u) u.length := by
  have hl : u.length ≤ (rep k u).length := by rw [rep_len]; exact Nat.le_mul_of_pos_left _ hk
  refine (per_get hl).mpr fun i hi => ?_
  have h0 : 0 < (rep k u).length := by omega
  have hm := Nat.mod_lt (u.length + i) h0
  rw [rep_len] at hi hm
  rw [rep_get (by rw [rep_len]; exact hm), rep_get hi, rep_len]
  congr 1
  rw [Nat.mod_mod_of_dvd _ ⟨k, Nat.mul_comm _ _⟩, Nat.add_mod_left]
theorem per_of_rep {l : List Int} {s : Nat} (hs : 0 < s) (hle : s ≤ l.length) (e : rep (l.length / s) (l.take s) = l) : Per l s := by
  have ht : (l.take s).length = s := by rw [List.length_take]; omega
  have := per_rep (k := l.length / s) (u := l.take s) (Nat.div_pos hle hs)
  rwa [e, ht] at this
theorem rot_rep {k : Nat} {u : List Int} {j : Nat} (hk : 0 < k) (hj : j ≤ u.length) : rot (rep k u) j = rep k (rot u j) := by
  have hl : j ≤ (rep k u).length := by rw [rep_len]; exact Nat.le_trans hj (Nat.le_mul_of_pos_left _ hk)
  refine list_ext (by rw [rot_len, rep_len, rep_len, rot_len]) fun i hi => ?_
  rw [rot_len, rep_len] at hi
  have hu : 0 < u.length := by
    rcases Nat.eq_zero_or_pos u.length with z | z
    · rw [z] at hi; omega
    · exact z
  rw [rot_get hl (by rw [rep_len]; exact hi), rep_len, rep_get (Nat.mod_lt _ (by omega)), rep_get (by rw [rot_len]; exact hi), rot_len, rot_get hj (Nat.mod_lt _ hu)]
  congr 1
  rw [Nat.mod_mod_of_dvd _ ⟨k, Nat.mul_comm _ _⟩, Nat.add_mod_mod]
theorem rep_lt {k : Nat} {a b : List Int} (hk : 0 < k) (hl : a.length = b.length) (h : a < b) : rep k a < rep k b := by
  rw [List.lt_iff_exists] at h
  rcases h with ⟨_, h2⟩ | ⟨i, h1, h2, h3, h4⟩
  · omega
  · have hi : i < k * a.length := Nat.lt_of_lt_of_le h1 (Nat.le_mul_of_pos_left _ hk)
    refine lt_at (j := i) (by rw [rep_len, rep_len, hl]) (fun j hj => ?_) (x := a[i]) (y := b[i]) ?_ ?_ h4
    · rw [rep_get (by omega), rep_get (by rw [← hl]; omega), Nat.mod_eq_of_lt (by omega), Nat.mod_eq_of_lt (by omega), List.getElem?_eq_getElem (by omega), List.getElem?_eq_getElem (by omega), h3 j hj]
    · rw [rep_get hi, Nat.mod_eq_of_lt h1, List.getElem?_eq_getElem h1]
    · rw [rep_get (by rw [← hl]; exact hi), Nat.mod_eq_of_lt h2, List.getElem?_eq_getElem h2]
theorem lturn_rep {k : Nat} {u : List Int} (hk : 0 < k) : lturn (rep k u) = rep k (lturn u) := by
  by_cases n : u = []
  · subst n
    have : ∀ k, rep k [] = [] := fun k => List.eq_nil_of_length_eq_zero (by rw [rep_len]; simp)
    rw [this, lturn_nil, this]
  have hu : 0 < u.length := List.length_pos_iff.mpr n
  obtain ⟨j, hj, ej⟩ := (lturn_turn u).lt n
  refine lturn_eq ⟨⟨j, by rw [rep_len]; exact Nat.le_trans (Nat.le_of_lt hj) (Nat.le_mul_of_pos_left _ hk), by rw [rot_rep hk (Nat.le_of_lt hj), ej]⟩, fun y hy => ?_⟩
  obtain ⟨m, hm, rfl⟩ := hy
  -- turns of so many are those of one
  have red : rot (rep k u) m = rep k (rot u (m % u.length)) := by
    have hml := Nat.le_of_lt (Nat.mod_lt m hu)
    have hl : m ≤ (rep k u).length := hm
    rw [← rot_rep hk hml]
    have hl2 : m % u.length ≤ (rep k u).length := by rw [rep_len]; exact Nat.le_trans hml (Nat.le_mul_of_pos_left _ hk)
    refine list_ext (by rw [rot_len, rot_len]) fun i hi => ?_
    rw [rot_len] at hi
    have hb := Nat.mod_lt (m + i) (show 0 < k * u.length by rw [rep_len] at hi; omega)
    have hb2 := Nat.mod_lt (m % u.length + i) (show 0 < k * u.length by rw [rep_len] at hi; omega)
    rw [rot_get hl hi, rot_get hl2 hi, rep_len, rep_get hb, rep_get hb2, Nat.mod_mod_of_dvd _ ⟨k, Nat.mul_comm _ _⟩, Nat.mod_mod_of_dvd _ ⟨k, Nat.mul_comm _ _⟩, Nat.mod_add_mod]
  rw [red]
  have hle : lturn u ≤ rot u (m % u.length) := List.not_lt.mp ((lturn_lst u).2 _ ⟨_, Nat.le_of_lt (Nat.mod_lt m hu), rfl⟩)
  intro q
  by_cases e : lturn u = rot u (m % u.length)
  · rw [e] at q
    exact List.lt_irrefl _ q
  · have : lturn u < rot u (m % u.length) := by
      rcases Classical.em (lturn u < rot u (m % u.length)) with z | z
      · exact z
      · exact absurd (List.le_antisymm hle (List.not_lt.mp z)) e
    exact List.lt_irrefl _ (List.lt_trans q (rep_lt hk (by rw [lturn_len, rot_len]) this))
theorem lp_of_rep {k : Nat} {u : List Int} {s : Nat} (hk : 0 < k) (h : LP u s) : LP (rep k u) s := by
  obtain ⟨⟨h1, h2, h3⟩, h4⟩ := id h
  have hu : 0 < u.length := by omega
  have big : u.length ≤ (rep k u).length := by rw [rep_len]; exact Nat.le_mul_of_pos_left _ hk
  have down : ∀ t, t ≤ u.length → (Per (rep k u) t ↔ Per u t) := fun t ht => by
    unfold Per
    rw [rot_rep hk ht]
    constructor
    · intro e
      have := congrArg (List.take u.length) e
      have tk : ∀ v : List Int, v.length = u.length → (rep k v).take u.length = v := fun v hv => by
        obtain ⟨j, rfl⟩ : ∃ j, k = j + 1 := ⟨k - 1, by omega⟩
        rw [rep_succ, ← hv, List.take_left]
      rwa [tk _ (rot_len _ _), tk _ rfl] at this
    · intro e; rw [e]
  refine ⟨⟨h1, by omega, (down s h2).mpr h3⟩, fun t t1 t2 t3 => ?_⟩
  by_cases q : t ≤ u.length
  · exact h4 t t1 q ((down t q).mp t3)
  · omega
theorem lp_turn {a b : List Int} {s : Nat} (t : Turn a b) (h : LP a s) : LP b s := by
  have go : ∀ {a b : List Int} {u : Nat}, Turn a b → u ≤ a.length → Per a u → Per b u := fun {a b u} t hu p => by
    obtain ⟨k, hk, rfl⟩ := t
    unfold Per at p ⊢
    rw [rot_rot hk hu, Nat.add_comm, ← rot_rot hu hk, p]
  obtain ⟨⟨h1, h2, h3⟩, h4⟩ := h
  refine ⟨⟨h1, by rw [t.len]; exact h2, go t h2 h3⟩, fun u u1 u2 u3 => h4 u u1 (by rw [← t.len]; exact u2) (go t.symm u2 u3)⟩
theorem lp_und {l : List Int} {s : Nat} (h : LP l s) : LP (und l) s := by
  have go : ∀ {l : List Int} {u : Nat}, 0 < u → u ≤ l.length → Per l u → Per (und l) u := fun {l u} hu0 hu p => by
    unfold Per at p ⊢
    have e : und (rot l u) = rot (und l) (l.length - u) := by
      have e0 : und l = und (l.drop u) ++ und (l.take u) := by rw [← und_app, List.take_append_drop]
      have e1 : l.length - u = (und (l.drop u)).length := by rw [und_len, List.length_drop]
      unfold rot
      rw [und_app, e0, e1]
      simp
    rw [p] at e
    have : rot (rot (und l) (l.length - u)) u = rot (und l) u := by rw [← e]
    rw [rot_rot (by rw [und_len]; omega) (by rw [und_len]; exact hu), und_len, show l.length - u + u = l.length by omega, Nat.mod_self, rot_zero] at this
    exact this.symm
  obtain ⟨⟨h1, h2, h3⟩, h4⟩ := h
  refine ⟨⟨h1, by rw [und_len]; exact h2, go h1 h2 h3⟩, fun u u1 u2 u3 => ?_⟩
  have := go u1 u2 u3
  rw [und_und] at this
  exact h4 u u1 (by rw [← und_len]; exact u2) this
theorem und_rep (k : Nat) (u : List Int) : und (rep k u) = rep k (und u) := by
  induction k with
  | zero => rfl
  | succ k ih =>
    rw [rep_succ, und_app, ih]
    have : ∀ k, rep k (und u) ++ und u = und u ++ rep k (und u) := by
      intro k
      induction k with
      | zero => simp [rep]
      | succ k ih => rw [rep_succ, List.append_assoc, ih]
    rw [this, rep_succ]
theorem cr_rep_down {k : Nat} {u : List Int} (hk : 0 < k) (h : CR (rep k u)) : CR u := by
  by_cases n : u = []
  · subst n
    intro i a b hi; simp at hi
  have hu : 0 < u.length := List.length_pos_iff.mpr n
  have big : u.length ≤ k * u.length := Nat.le_mul_of_pos_left _ hk
  intro i a b hi ha hb
  refine h i a b (by rw [rep_len]; omega) (by rw [rep_get (by omega), Nat.mod_eq_of_lt hi]; exact ha) ?_
  rw [rep_len, rep_get (Nat.mod_lt _ (by omega)), Nat.mod_mod_of_dvd _ ⟨k, Nat.mul_comm _ _⟩]
  exact hb
theorem cr_rep {k : Nat} {u : List Int} (h : CR u) : CR (rep k u) := by
  intro i a b hi ha hb
  rw [rep_len] at hi hb
  have hu : 0 < u.length := by
    rcases Nat.eq_zero_or_pos u.length with z | z
    · rw [z] at hi; omega
    · exact z
  rw [rep_get hi] at ha
  rw [rep_get (Nat.mod_lt _ (by omega)), Nat.mod_mod_of_dvd _ ⟨k, Nat.mul_comm _ _⟩] at hb
  refine h (i % u.length) a b (Nat.mod_lt _ hu) ha ?_
  rw [Nat.mod_add_mod]; exact hb
/-- the root of a round: its row, how often -/
theorem Rd.root {l : List Int} {s : Nat} (h : Rd l) (p : LP l s) : Rd (l.take s) ∧ LP (l.take s) s ∧ (l.take s).length = s ∧ rep (l.length / s) (l.take s) = l ∧ 0 < l.length / s := by
  have e := lp_rep p
  obtain ⟨⟨h1, h2, h3⟩, h4⟩ := id p
  have ht : (l.take s).length = s := by rw [List.length_take]; omega
  have hk : 0 < l.length / s := Nat.div_pos h2 h1
  have c : CR (l.take s) := cr_rep_down hk (by rw [e]; exact h.1)
  have tk : ∀ v : List Int, v.length = s → (rep (l.length / s) v).take s = v := fun v hv => by
    obtain ⟨j, hj⟩ : ∃ j, l.length / s = j + 1 := ⟨l.length / s - 1, by omega⟩
    rw [hj, rep_succ, ← hv, List.take_left]
  have t : lturn (l.take s) = l.take s := by
    have a := lturn_rep (k := l.length / s) (u := l.take s) hk
    rw [e, h.2] at a
    have b := tk _ (show (lturn (l.take s)).length = s by rw [lturn_len, ht])
    rw [← a] at b
    exact b.symm
  have q : LP (l.take s) s := by
    refine ⟨⟨h1, by omega, by have := per_full (l.take s); rwa [ht] at this⟩, fun u u1 u2 u3 => ?_⟩
    rw [ht] at u2
    refine h4 u u1 (by omega) ?_
    have := rot_rep (k := l.length / s) (u := l.take s) (j := u) hk (by omega)
    rw [e, u3, e] at this
    exact this
  exact ⟨⟨c, t⟩, q, ht, e, hk⟩
theorem rd_rep {k : Nat} {u : List Int} (hk : 0 < k) (h : Rd u) : Rd (rep k u) := ⟨cr_rep h.1, by rw [lturn_rep hk, h.2]⟩
/-- the root of the one that goes back -/
theorem root_back {l : List Int} {s : Nat} (h : Rd l) (p : LP l s) : LP (rnd (und l)) s ∧ (rnd (und l)).take s = rnd (und (l.take s)) ∧ (rnd (und l)).length = l.length := by
  obtain ⟨r1, r2, r3, r4, r5⟩ := h.root p
  have e : rnd (und l) = rep (l.length / s) (rnd (und (l.take s))) := by
    rw [(cr_und h.1).rnd, (cr_und r1.1).rnd, ← lturn_rep r5, ← und_rep, r4]
  have hl : (rnd (und (l.take s))).length = s := by rw [(cr_und r1.1).rnd, lturn_len, und_len, r3]
  refine ⟨?_, ?_, ?_⟩
  · rw [(cr_und h.1).rnd]
    exact lp_turn (lturn_turn _) (lp_und p)
  · rw [e]
    obtain ⟨j, hj⟩ : ∃ j, l.length / s = j + 1 := ⟨l.length / s - 1, by omega⟩
    rw [hj, rep_succ]
    exact List.take_left' hl
  · rw [e, rep_len, hl]
    exact Nat.div_mul_cancel (lp_dvd p)
theorem back_iff {a b : List Int} (ha : Rd a) (hb : Rd b) : a = rnd (und b) ↔ b = rnd (und a) := ⟨fun e => by rw [e, rnd_und_und hb], fun e => by rw [e, rnd_und_und ha]⟩
end WM
set_option Elab.async false
set_option linter.all false
set_option maxRecDepth 100000
/-! words and kinds: what the defs tell, in plain words (for all laws) -/
namespace LW
open PySem PySem.Spec PyProof.Rows FW WM
/-- its class is known -/
def ins : D → Bool
  | .non => true
  | .bl _ => true
  | .int _ => true
  | .str _ => true
  | .tup _ => true
  | .lst _ => true
  | .dic _ _ => true
  | _ => false
def ins1 : D → Bool
  | .tup ds => ds.all ins && decide (ds.length ≤ 500000)
  | _ => true
def isNum : D → Bool
  | .int _ => true
  | _ => false
def betw : D → Int → Int → Bool
  | .int i, lo, hi => decide (lo ≤ i) && decide (i ≤ hi)
  | _, _, _ => false
def isLet (s : Int) : D → Bool
  | .tup ds => ds.all fun d => betw d 0 (2 * s - 1)
  | _ => false
def isWd (s : Int) (t : D) : Bool := isLet s t && (match t with | .tup ds => decide (ds.length ≤ 200) | _ => false)
def intOf : D → Int
  | .int i => i
  | _ => 0
def lts : D → List Int
  | .tup ds => ds.map intOf
  | _ => []
abbrev wd (l : List Int) : D := .tup (l.map .int)
/-- letters of that size -/
def Lt (s : Int) (l : List Int) : Prop := ∀ x ∈ l, 0 ≤ x ∧ x ≤ 2 * s - 1
abbrev bsz : D := .exc "BadSize" [] []
abbrev bwd : D := .exc "BadWord" [] []
@[simp] theorem bx1 (x : Int) : Builtin.bitXor x 1 = iv x := by rw [bitXor_and, bitAnd_m1]; rfl
def r_is_number : Rn := fun ds ts Pn _ => ∃ t, ds = [t] ∧ ts = [] ∧ ins t = true ∧ Pn (.val (.bl (isNum t))) []
def r_is_between : Rn := fun ds ts Pn _ => ∃ t lo hi, ds = [t, .int lo, .int hi] ∧ ts = [] ∧ ins t = true ∧ Pn (.val (.bl (betw t lo hi))) []
def r_need_size : Rn := fun ds ts Pn Pe => ∃ t, ds = [t] ∧ ts = [] ∧ ins t = true ∧ (betw t 2 4 = true → Pn (.val .non) []) ∧ (betw t 2 4 = false → Pe bsz [])
def r_are_letters : Rn := fun ds ts Pn _ => ∃ s t, ds = [.int s, t] ∧ ts = [] ∧ ins t = true ∧ ins1 t = true ∧ Pn (.val (.bl (isLet s t))) []
def r_is_word : Rn := fun ds ts Pn Pe => ∃ z t, ds = [z, t] ∧ ts = [] ∧ ins z = true ∧ ins t = true ∧ ins1 t = true ∧ (betw z 2 4 = true → Pn (.val (.bl (isWd (intOf z) t))) []) ∧ (betw z 2 4 = false → Pe bsz [])
def r_need_word : Rn := fun ds ts Pn Pe => ∃ s t, ds = [.int s, t] ∧ ts = [] ∧ 2 ≤ s ∧ s ≤ 4 ∧ ins t = true ∧ ins1 t = true ∧ (isWd s t = true → Pn (.val .non) []) ∧ (isWd s t = false → Pe bwd [])
def r_freed : Rn := fun ds ts Pn _ => ∃ (l : List Int) (t : D), (t = wd l ∨ t = .lst (l.map .int)) ∧ ds = [t] ∧ ts = [] ∧ l.length ≤ 500000 ∧ Pn (.val (wd (frd l))) []
def r_undone_word : Rn := fun ds ts Pn _ => ∃ (l : List Int) (t : D), (t = wd l ∨ t = .lst (l.map .int)) ∧ ds = [t] ∧ ts = [] ∧ l.length ≤ 500000 ∧ Pn (.val (wd (und l))) []
def r_sums_of_letters : Rn := fun ds ts Pn _ => ∃ s l, ds = [.int s, wd l] ∧ ts = [] ∧ 2 ≤ s ∧ s ≤ 4 ∧ l.length ≤ 500000 ∧ Lt s l ∧ Pn (.val (wd (sm s l))) []
/-- a word of its size, refusals first -/
def r_worded (f : Int → List Int → List Int) : Rn := fun ds ts Pn Pe => ∃ z t, ds = [z, t] ∧ ts = [] ∧ ins z = true ∧ ins t = true ∧ ins1 t = true ∧ (betw z 2 4 = false → Pe bsz []) ∧
  (betw z 2 4 = true → isWd (intOf z) t = false → Pe bwd []) ∧ (betw z 2 4 = true → isWd (intOf z) t = true → Pn (.val (wd (f (intOf z) (lts t)))) [])
def r_free : Rn := r_worded fun _ l => frd l
def r_undone : Rn := r_worded fun _ l => und l
def r_sums_of : Rn := r_worded sm
end LW
set_option Elab.async false
set_option linter.all false
set_option maxRecDepth 100000
namespace LW
open PySem PySem.Spec PyProof.Rows FW WM
def c_is_number : Con := { io := [false], gd := false, kws := [], run := r_is_number }
def c_is_between : Con := { io := [false, false, false], gd := false, kws := [], run := r_is_between }
def c_need_size : Con := { io := [false], gd := false, kws := [], run := r_need_size }
def c_are_letters : Con := { io := [false, false], gd := false, kws := [], run := r_are_letters }
def c_is_word : Con := { io := [false, false], gd := false, kws := [(["thing", "size"], [1, 0])], run := r_is_word }
def c_need_word : Con := { io := [false, false], gd := false, kws := [], run := r_need_word }
def c_freed : Con := { io := [false], gd := false, kws := [], run := r_freed }
def c_undone_word : Con := { io := [false], gd := false, kws := [], run := r_undone_word }
def c_free : Con := { io := [false, false], gd := false, kws := [(["word", "size"], [1, 0])], run := r_free }
def c_undone : Con := { io := [false, false], gd := false, kws := [(["word", "size"], [1, 0])], run := r_undone }
def c_sums_of : Con := { io := [false, false], gd := false, kws := [(["word", "size"], [1, 0])], run := r_sums_of }
def c_sums_of_letters : Con := { io := [false, false], gd := false, kws := [], run := r_sums_of_letters }
def b_is_number : I :=
  (.scons (.ret (.andv (.blt .isi (.acons (.var 0) (.acons (.con (.ty "int")) .anil))) (.notv (.blt .isi (.acons (.var 0) (.acons (.con (.ty "bool")) .anil))))))
  .snil)
def b_is_between : I :=
  (.scons (.ret (.andv (.call "is_number" c_is_number (.acons (.var 0) .anil)) (.chain .le .le (.var 1) (.var 0) (.var 2))))
  .snil)
def b_need_size : I :=
  (.scons (.ife (.tnot (.tval (.call "is_between" c_is_between (.acons (.var 0) (.acons (.con (.int 2)) (.acons (.con (.int 4)) .anil)))))) (.scons (.raiseM "BadSize")
  .snil) .snil)
  .snil)
def b_are_letters : I :=
  (.scons (.ret (.andv (.blt .isi (.acons (.var 1) (.acons (.con (.ty "tuple")) .anil))) (.blt .all (.acons (.comp (.gname 2) (.iseq (.var 1)) .tt (.call "is_between" c_is_between (.acons (.var 2) (.acons (.con (.int 0)) (.acons (.op2 .sub (.op2 .mul (.con (.int 2)) (.var 0)) (.con (.int 1))) .anil))))) .anil))))
  .snil)
def b_is_word : I :=
  (.scons (.expr (.call "need_size" c_need_size (.acons (.var 0) .anil)))
  (.scons (.ret (.andv (.call "are_letters" c_are_letters (.acons (.var 0) (.acons (.var 1) .anil))) (.op2 .le (.blt .len (.acons (.var 1) .anil)) (.glob "MOST_LETTERS" 200))))
  .snil))
def b_need_word : I :=
  (.scons (.ife (.tnot (.tval (.call "is_word" c_is_word (.acons (.var 0) (.acons (.var 1) .anil))))) (.scons (.raiseM "BadWord")
  .snil) .snil)
  .snil)
def b_freed : I :=
  (.scons (.asg 1 (.lst .anil))
  (.scons (.forS (.gname 2) (.iseq (.var 0)) (.scons (.ife (.tand (.tval (.var 1)) (.tcmp .eq (.op2 .idx (.var 1) (.op1 .neg (.con (.int 1)))) (.op2 .xor (.var 2) (.con (.int 1))))) (.scons (.expr (.pop 1))
  .snil) (.scons (.app 1 (.var 2))
  .snil))
  .snil))
  (.scons (.ret (.blt .tupl (.acons (.var 1) .anil)))
  .snil)))
def b_undone_word : I :=
  (.scons (.ret (.blt .tupl (.acons (.comp (.gname 1) (.irev (.var 0)) .tt (.op2 .xor (.var 1) (.con (.int 1)))) .anil)))
  .snil)
def b_free : I :=
  (.scons (.expr (.call "need_size" c_need_size (.acons (.var 0) .anil)))
  (.scons (.expr (.call "need_word" c_need_word (.acons (.var 0) (.acons (.var 1) .anil))))
  (.scons (.ret (.call "freed" c_freed (.acons (.var 1) .anil)))
  .snil)))
def b_undone : I :=
  (.scons (.expr (.call "need_size" c_need_size (.acons (.var 0) .anil)))
  (.scons (.expr (.call "need_word" c_need_word (.acons (.var 0) (.acons (.var 1) .anil))))
  (.scons (.ret (.call "undone_word" c_undone_word (.acons (.var 1) .anil)))
  .snil)))
def b_sums_of : I :=
  (.scons (.expr (.call "need_size" c_need_size (.acons (.var 0) .anil)))
  (.scons (.expr (.call "need_word" c_need_word (.acons (.var 0) (.acons (.var 1) .anil))))
  (.scons (.ret (.call "sums_of_letters" c_sums_of_letters (.acons (.var 0) (.acons (.var 1) .anil))))
  .snil)))
def b_sums_of_letters : I :=
  (.scons (.asg 2 (.op2 .mul (.lst (.acons (.con (.int 0)) .anil)) (.var 0)))
  (.scons (.forS (.gname 3) (.iseq (.var 1)) (.scons (.augS 2 .add (.op2 .fdiv (.var 3) (.con (.int 2))) (.ite (.tval (.op2 .band (.var 3) (.con (.int 1)))) (.op1 .neg (.con (.int 1))) (.con (.int 1))))
  .snil))
  (.scons (.ret (.blt .tupl (.acons (.var 2) .anil)))
  .snil)))
end LW
set_option Elab.async false
set_option linter.all false
set_option maxRecDepth 100000
set_option maxHeartbeats 4000000
namespace LW
open PySem PySem.Spec PyProof.Rows FW WM
theorem w_is_number : W b_is_number [false] r_is_number 0 := by
  rintro ds ts as Pn Pe ha ⟨t, rfl, rfl, hi, hp⟩
  simp at ha
  subst ha
  unfold b_is_number
  cases t <;> simp [ins] at hi <;> simp [isNum] at hp ⊢ <;> exact hp
theorem w_is_between : W b_is_between [false, false, false] r_is_between 0 := by
  rintro ds ts as Pn Pe ha ⟨t, lo, hi, rfl, rfl, h1, hp⟩
  simp at ha
  subst ha
  unfold b_is_between
  simp
  refine call0_of ⟨t, rfl, rfl, h1, ?_⟩
  cases t <;> simp [isNum, betw] at hp ⊢ <;> try exact hp
  rename_i i
  refine condK_dec (fun q => ?_) (fun q => ?_)
  · simp [q] at hp ⊢; exact hp
  · simp [q] at hp ⊢; exact hp
theorem w_need_size : W b_need_size [false] r_need_size 0 := by
  rintro ds ts as Pn Pe ha ⟨t, rfl, rfl, h1, hp, he⟩
  simp at ha
  subst ha
  unfold b_need_size
  simp
  refine call0_of ⟨t, 2, 4, rfl, rfl, h1, ?_⟩
  cases q : betw t 2 4 with
  | true => simp; exact hp q
  | false => simp; exact he q
theorem w_are_letters : W b_are_letters [false, false] r_are_letters 1 := by
  rintro ds ts as Pn Pe ha ⟨s, t, rfl, rfl, h1, h2, hp⟩
  simp at ha
  subst ha
  unfold b_are_letters
  cases t with
  | tup ds =>
    simp
    simp [ins1] at h2
    refine cmpM (ds.map fun d => .bl (betw d 0 (2 * s - 1))) (by simp) (by simp) (by have := Lim_eq; omega) (fun n d r K hd hr hK => ?_) ?_
    · rw [List.getElem?_map, hd] at hr
      simp at hr
      subst hr
      simp
      refine call0_of ⟨d, 0, 2 * s - 1, rfl, rfl, h2.1 d (List.mem_of_getElem? hd), ?_⟩
      exact hK _ rfl
    · simp
      refine blsK_of (bs := ds.map fun d => betw d 0 (2 * s - 1)) (by simp [Function.comp_def]) ?_
      simp [isLet] at hp
      simpa [List.all_map, Function.comp_def] using hp
  | _ => simp [ins] at h1 <;> (simp [isLet] at hp ⊢; exact hp)
theorem betw_sz {z : D} (h : betw z 2 4 = true) : ∃ s, z = .int s ∧ 2 ≤ s ∧ s ≤ 4 := by
  cases z <;> simp [betw] at h
  exact ⟨_, rfl, h⟩
theorem betw_int {s lo hi : Int} (h1 : lo ≤ s) (h2 : s ≤ hi) : betw (.int s) lo hi = true := by simp [betw, h1, h2]
theorem w_is_word : W b_is_word [false, false] r_is_word 0 := by
  rintro ds ts as Pn Pe ha ⟨z, t, rfl, rfl, h1, h2, h3, hp, he⟩
  simp at ha
  subst ha
  unfold b_is_word
  simp
  refine call0_of ⟨z, rfl, rfl, h1, fun q => ?_, fun q => ?_⟩
  · obtain ⟨i, rfl, i1, i2⟩ := betw_sz q
    have hp : Pn (.val (.bl (isWd i t))) [] := hp q
    simp
    refine call0_of ⟨i, t, rfl, rfl, h2, h3, ?_⟩
    cases hl : isLet i t with
    | true =>
      obtain ⟨ds, rfl⟩ : ∃ ds, t = .tup ds := by cases t <;> simp [isLet] at hl <;> exact ⟨_, rfl⟩
      have e : isWd i (.tup ds) = decide (ds.length ≤ 200) := by unfold isWd; rw [hl]; rfl
      rw [e] at hp
      have e2 : decide (ds.length ≤ 200) = decide ((ds.length : Int) ≤ 200) := by simp only [decide_eq_decide]; omega
      rw [e2] at hp
      simp
      exact hp
    | false =>
      have e : isWd i t = false := by unfold isWd; rw [hl]; rfl
      rw [e] at hp
      simpa using hp
  · simp; exact he q
theorem w_need_word : W b_need_word [false, false] r_need_word 0 := by
  rintro ds ts as Pn Pe ha ⟨s, t, rfl, rfl, h1, h2, h3, h4, hp, he⟩
  simp at ha
  subst ha
  unfold b_need_word
  simp
  refine call0_of ⟨.int s, t, rfl, rfl, rfl, h3, h4, fun q => ?_, fun q => ?_⟩
  · cases e : isWd s t with
    | true => simp [intOf, e]; exact hp e
    | false => simp [intOf, e]; exact he e
  · simp [betw] at q; omega
theorem last_idx {l : List Int} (h : l ≠ []) : ∃ y, l.getLast? = some y ∧ L2.atI (l.map D.int) (-1) = some (.int y) := by
  have hp : 0 < l.length := List.length_pos_iff.mpr h
  refine ⟨l.getLast h, List.getLast?_eq_getLast h, ?_⟩
  unfold L2.atI L2.ixN
  rw [if_neg (by decide), if_pos (by simp; omega)]
  have e : ((-1 : Int) + ((l.map D.int).length : Int)).toNat = l.length - 1 := by simp; omega
  rw [e]
  simp [List.getLast_eq_getElem]
theorem w_freed : W b_freed [false] r_freed 2 := by
  rintro ds ts as Pn Pe ha ⟨l, t, ht, rfl, rfl, hl, hp⟩
  have hL := Lim_eq
  simp at ha
  subst ha
  unfold b_freed
  have main : ∀ (t : D), (∀ f : List D → Prop, itK (some t) f = f (l.map .int)) → wpX b_freed [some (.val t), none, none] (outK [false] Pn (.val .non)) (PD [false] Pn Pe) := by
    intro t ht
    unfold b_freed
    simp [ht, Lim_eq]
    refine forL (fun n e => ∃ o, e = [some (.val t), some (.lst (vals ((frd (l.take n)).map .int))), o]) ⟨rfl, rfl⟩ ⟨none, rfl⟩ ?_ ?_ ?_
    · rintro n e ⟨o, rfl⟩; rfl
    · rintro n e d K ⟨o, rfl⟩ hd hK
      rw [List.getElem?_map, Option.map_eq_some_iff] at hd
      obtain ⟨x, hx, rfl⟩ := hd
      have hn := lt_of_at hx
      have hw : (frd (l.take n)).length ≤ 500000 := by have := frd_len (l.take n); rw [List.length_take] at this; omega
      have hs : frd (l.take (n + 1)) = stp (frd (l.take n)) x := by rw [take_snoc hx, frd_snoc]
      simp
      generalize hw' : frd (l.take n) = w at *
      refine condK_by (fun h => ?_) (fun h => ?_)
      · have hne : w ≠ [] := by simpa using h
        obtain ⟨y, hy, e⟩ := last_idx hne
        simp [e]
        refine condK_dec (fun h2 => ?_) (fun h2 => ?_)
        · subst h2
          have e2 := last_split hy
          rw [e2]
          simp
          refine hK _ ⟨some (.val (.int x)), ?_⟩
          rw [hs, stp_some hy]
          simp [List.map_dropLast]
        · refine ⟨by omega, hK _ ⟨some (.val (.int x)), ?_⟩⟩
          rw [hs, stp_none (by rw [hy]; simpa using h2)]
          simp
      · simp at h
        subst h
        simp [Lim_eq]
        refine hK _ ⟨some (.val (.int x)), ?_⟩
        rw [hs, stp_none (by simp)]
        rfl
    · rintro e ⟨o, rfl⟩
      simp
      exact hp
  rcases ht with rfl | rfl
  · exact main _ (fun f => by simp)
  · exact main _ (fun f => by simp)
theorem w_undone_word : W b_undone_word [false] r_undone_word 1 := by
  rintro ds ts as Pn Pe ha ⟨l, t, ht, rfl, rfl, hl, hp⟩
  have hL := Lim_eq
  simp at ha
  subst ha
  have main : ∀ (t : D), (∀ f : List D → Prop, itrK (some t) f = f (l.map .int)) → wpX b_undone_word [some (.val t), none] (outK [false] Pn (.val .non)) (PD [false] Pn Pe) := by
    intro t ht
    unfold b_undone_word
    simp [ht]
    refine cmpM ((und l).map .int) (by simp) (by simp [und]) (by simp; omega) (fun n d r K hd hr hK => ?_) ?_
    · rw [← List.map_reverse, List.getElem?_map, Option.map_eq_some_iff] at hd
      obtain ⟨x, hx, rfl⟩ := hd
      unfold und at hr
      rw [← List.map_reverse, List.getElem?_map, List.getElem?_map, hx] at hr
      simp at hr
      subst hr
      simp
      exact hK _ (by simp)
    · simp
      exact hp
  rcases ht with rfl | rfl
  · exact main _ (fun f => by simp)
  · exact main _ (fun f => by simp)
theorem isWd_wd {s : Int} {t : D} (h : isWd s t = true) : ∃ l : List Int, t = wd l ∧ Lt s l ∧ l.length ≤ 200 ∧ lts t = l := by
  unfold isWd at h
  rw [Bool.and_eq_true] at h
  obtain ⟨h1, h2⟩ := h
  cases t <;> first | (simp [isLet] at h1; done) | skip
  rename_i ds
  simp [isLet] at h1
  simp at h2
  have e : ds = ds.map fun d => .int (intOf d) := by
    have : ∀ d ∈ ds, D.int (intOf d) = d := fun d hd => by
      have := h1 d hd
      cases d <;> simp [betw] at this
      rfl
    conv => lhs; rw [← List.map_id ds]
    exact (List.map_congr_left fun d hd => (this d hd)).symm
  refine ⟨ds.map intOf, by unfold wd; rw [List.map_map]; exact congrArg D.tup e, fun x hx => ?_, by simpa using h2, rfl⟩
  obtain ⟨d, hd, rfl⟩ := List.mem_map.mp hx
  have := h1 d hd
  cases d <;> simp [betw] at this
  exact this
theorem isWd_of {s : Int} {l : List Int} (h : Lt s l) (k : l.length ≤ 200) : isWd s (wd l) = true := by
  unfold isWd wd
  simp [isLet, k]
  intro x hx
  exact betw_int (h x hx).1 (h x hx).2
theorem ins1_wd {l : List Int} (h : l.length ≤ 500000) : ins1 (wd l) = true := by simp [ins1, ins, h]
theorem lts_wd (l : List Int) : lts (wd l) = l := by
  simp [lts, Function.comp_def, intOf]
theorem w_free : W b_free [false, false] r_free 0 := by
  rintro ds ts as Pn Pe ha ⟨z, t, rfl, rfl, h1, h2, h3, e1, e2, hp⟩
  simp at ha
  subst ha
  unfold b_free
  simp
  refine call0_of ⟨z, rfl, rfl, h1, fun q => ?_, fun q => ?_⟩
  · obtain ⟨s, rfl, s1, s2⟩ := betw_sz q
    simp
    refine call0_of ⟨s, t, rfl, rfl, s1, s2, h2, h3, fun q2 => ?_, fun q2 => ?_⟩
    · obtain ⟨l, rfl, l1, l2, l3⟩ := isWd_wd q2
      simp
      refine call0_of ⟨l, _, .inl rfl, rfl, rfl, by omega, ?_⟩
      have := hp q q2
      rw [l3] at this
      simpa using this
    · simp; exact e2 q q2
  · simp; exact e1 q
theorem w_undone : W b_undone [false, false] r_undone 0 := by
  rintro ds ts as Pn Pe ha ⟨z, t, rfl, rfl, h1, h2, h3, e1, e2, hp⟩
  simp at ha
  subst ha
  unfold b_undone
  simp
  refine call0_of ⟨z, rfl, rfl, h1, fun q => ?_, fun q => ?_⟩
  · obtain ⟨s, rfl, s1, s2⟩ := betw_sz q
    simp
    refine call0_of ⟨s, t, rfl, rfl, s1, s2, h2, h3, fun q2 => ?_, fun q2 => ?_⟩
    · obtain ⟨l, rfl, l1, l2, l3⟩ := isWd_wd q2
      simp
      refine call0_of ⟨l, _, .inl rfl, rfl, rfl, by omega, ?_⟩
      have := hp q q2
      rw [l3] at this
      simpa using this
    · simp; exact e2 q q2
  · simp; exact e1 q
theorem w_sums_of : W b_sums_of [false, false] r_sums_of 0 := by
  rintro ds ts as Pn Pe ha ⟨z, t, rfl, rfl, h1, h2, h3, e1, e2, hp⟩
  simp at ha
  subst ha
  unfold b_sums_of
  simp
  refine call0_of ⟨z, rfl, rfl, h1, fun q => ?_, fun q => ?_⟩
  · obtain ⟨s, rfl, s1, s2⟩ := betw_sz q
    simp
    refine call0_of ⟨s, t, rfl, rfl, s1, s2, h2, h3, fun q2 => ?_, fun q2 => ?_⟩
    · obtain ⟨l, rfl, l1, l2, l3⟩ := isWd_wd q2
      simp
      refine call0_of ⟨s, l, rfl, rfl, s1, s2, by omega, l1, ?_⟩
      have := hp q q2
      rw [l3] at this
      simpa [intOf] using this
    · simp; exact e2 q q2
  · simp; exact e1 q
theorem w_sums_of_letters : W b_sums_of_letters [false, false] r_sums_of_letters 2 := by
  rintro ds ts as Pn Pe ha ⟨s, l, rfl, rfl, s1, s2, hl, hw, hp⟩
  have hL := Lim_eq
  simp at ha
  subst ha
  unfold b_sums_of_letters
  simp [Lim_eq]
  refine ⟨by omega, by omega, by omega, ?_⟩
  refine forL (fun n e => ∃ o, e = [some (.val (.int s)), some (.val (wd l)), some (.lst (vals ((sm s (l.take n)).map .int))), o]) (by exact ⟨rfl, rfl⟩) ?_ ?_ ?_ ?_
  · refine ⟨none, ?_⟩
    rw [List.take_zero, sm_nil]
    simp
  · rintro n e ⟨o, rfl⟩; rfl
  · rintro n e d K ⟨o, rfl⟩ hd hK
    rw [List.getElem?_map, Option.map_eq_some_iff] at hd
    obtain ⟨x, hx, rfl⟩ := hd
    have hn := lt_of_at hx
    obtain ⟨x1, x2⟩ := hw x (List.mem_of_getElem? hx)
    simp
    refine ⟨by rw [Int.fdiv_eq_ediv_of_nonneg _ (by decide)]; omega, smk (l.take n) (x / 2).toNat, ?_, ?_⟩
    · rw [Int.fdiv_eq_ediv_of_nonneg _ (by decide), sm_get (by omega)]
    · rw [bitAnd_m1, Int.fdiv_eq_ediv_of_nonneg _ (by decide)]
      have hs := sm_snoc (l := l.take n) x1 x2
      rw [← take_snoc hx] at hs
      refine condK_ndec (fun h => ?_) (fun h => ?_)
      · refine hK _ ⟨some (.val (.int x)), ?_⟩
        rw [← hs, show sv (x / 2).toNat x = 1 by unfold sv; rw [if_pos (by omega)]]
        simp [List.map_set]
      · refine hK _ ⟨some (.val (.int x)), ?_⟩
        rw [← hs, show sv (x / 2).toNat x = -1 by unfold sv; rw [if_neg (by omega), if_pos (by omega)]]
        simp [List.map_set]
  · rintro e ⟨o, rfl⟩
    simp
    exact hp
end LW
set_option Elab.async false
set_option linter.all false
set_option maxRecDepth 100000
/-! the draws of the laws -/
namespace LW
open PySem PySem.Spec PyProof.Rows FW WM
abbrev dk : List L2.Key := [.inr "large", .inr "rest", .inr "cells", .inr "turn"]
/-- the draw -/
def Drw (t : T) : Prop := ∃ (lg : List Int) (r : Int) (cs : List Int) (tn : Int), t = .dic [.inr "large", .inr "rest", .inr "cells", .inr "turn"] [.lst (vals (lg.map .int)), .val (.int r), .val (.lst (cs.map .int)), .val (.int tn)] ∧ (∀ x ∈ lg, 0 ≤ x) ∧ 0 ≤ r ∧ (∀ x ∈ cs, 0 ≤ x) ∧ 0 ≤ tn
theorem dkN : ([.inr "large", .inr "rest", .inr "cells", .inr "turn"] : List L2.Key).Nodup := by decide
section
variable {a b c d : T} {P : List L2.Key → List T → Nat → T → Prop}
@[simp] theorem d_large : dAtK (some (some (.dic [.inr "large", .inr "rest", .inr "cells", .inr "turn"] [a, b, c, d]))) "large" P = P [.inr "large", .inr "rest", .inr "cells", .inr "turn"] [a, b, c, d] 0 a := dAtK_eq dkN rfl (by decide) rfl rfl
@[simp] theorem d_rest : dAtK (some (some (.dic [.inr "large", .inr "rest", .inr "cells", .inr "turn"] [a, b, c, d]))) "rest" P = P [.inr "large", .inr "rest", .inr "cells", .inr "turn"] [a, b, c, d] 1 b := dAtK_eq dkN rfl (by decide) rfl rfl
@[simp] theorem d_cells : dAtK (some (some (.dic [.inr "large", .inr "rest", .inr "cells", .inr "turn"] [a, b, c, d]))) "cells" P = P [.inr "large", .inr "rest", .inr "cells", .inr "turn"] [a, b, c, d] 2 c := dAtK_eq dkN rfl (by decide) rfl rfl
@[simp] theorem d_turn : dAtK (some (some (.dic [.inr "large", .inr "rest", .inr "cells", .inr "turn"] [a, b, c, d]))) "turn" P = P [.inr "large", .inr "rest", .inr "cells", .inr "turn"] [a, b, c, d] 3 d := dAtK_eq dkN rfl (by decide) rfl rfl
end
def r__law_begun : Rn := fun ds ts Pn _ => ∃ ns, ds = [.scr ns] ∧ ts = [] ∧ ns.length ≤ 63 ∧ ∀ t, Drw t → Pn t []
def r__law_mixed : Rn := fun ds ts Pn _ => ∃ t, ds = [] ∧ ts = [t] ∧ Drw t ∧ ∀ n t', 0 ≤ n → Drw t' → Pn (.val (.int n)) [t']
def r__law_take : Rn := fun ds ts Pn _ => ∃ a t, ds = [.int a] ∧ ts = [t] ∧ Drw t ∧ 0 < a ∧ a < 1073741824 ∧ ∀ r t', 0 ≤ r → r < a → Drw t' → Pn (.val (.int r)) [t']
def r__law_pick : Rn := fun ds ts Pn _ => ∃ xs t, (ds = [.lst xs] ∨ ds = [.tup xs]) ∧ ts = [t] ∧ xs ≠ [] ∧ xs.length ≤ 100000 ∧ Drw t ∧ ∀ d t', d ∈ xs → Drw t' → Pn (.val d) [t']
def r__law_is_truth : Rn := fun ds ts Pn _ => ∃ a b, ds = [.bl a, .bl b] ∧ ts = [] ∧ Pn (.val (.bl (a == b))) []
end LW
set_option Elab.async false
set_option linter.all false
set_option maxRecDepth 100000
namespace LW
open PySem PySem.Spec PyProof.Rows FW WM
def c__law_begun : Con := { io := [false], gd := false, kws := [], run := r__law_begun }
def c__law_mixed : Con := { io := [true], gd := false, kws := [], run := r__law_mixed }
def c__law_take : Con := { io := [true, false], gd := false, kws := [], run := r__law_take }
def c__law_pick : Con := { io := [true, false], gd := false, kws := [], run := r__law_pick }
def c__law_is_truth : Con := { io := [false, false], gd := false, kws := [], run := r__law_is_truth }
def b__law_begun : I :=
  (.scons (.asg 1 (.comp (.gname 2) (.iseq (.var 0)) (.tcmp .ge (.blt .abs (.acons (.var 2) .anil)) (.op2 .pow (.con (.int 10)) (.con (.int 18)))) (.op2 .sub (.blt .abs (.acons (.var 2) .anil)) (.op2 .pow (.con (.int 10)) (.con (.int 18))))))
  (.scons (.ret (.dict ["large", "rest", "cells", "turn"] (.acons (.mv 1) (.acons (.con (.int 0)) (.acons (.comp (.gname 2) (.iseq (.var 0)) .tt (.blt .abs (.acons (.var 2) .anil))) (.acons (.con (.int 0)) .anil))))))
  .snil))
def b__law_mixed : I :=
  (.scons (.dsetS 0 "turn" (.op2 .add (.dgetI 0 "turn") (.con (.int 1))))
  (.scons (.par [2, 3] (.acons (.blt .int (.acons (.dgetI 0 "turn") .anil)) (.acons (.con (.int 0)) .anil)))
  (.scons (.forS (.gname 1) (.iseq (.lst (.acons (.con (.int 2147483629)) (.acons (.con (.int 2147483587)) (.acons (.con (.int 2147483579)) .anil))))) (.scons (.asg 4 (.op2 .mod (.op2 .add (.op2 .mul (.var 2) (.con (.int 69621))) (.op2 .fdiv (.var 1) (.con (.int 7)))) (.var 1)))
  (.scons (.forS (.gname 5) (.iseq (.dgetI 0 "cells")) (.scons (.asg 4 (.op2 .mod (.op2 .add (.op2 .mul (.var 4) (.con (.int 48271))) (.blt .int (.acons (.var 5) .anil))) (.var 1)))
  .snil))
  (.scons (.asg 3 (.op2 .add (.op2 .mul (.var 3) (.con (.int 2147483647))) (.op2 .mod (.op2 .pow (.var 4) (.con (.int 5))) (.var 1))))
  .snil))))
  (.scons (.ret (.var 3))
  .snil))))
def b__law_take : I :=
  (.scons (.ife (.tcmp .eq (.dgetI 0 "rest") (.con (.int 0))) (.scons (.dsetS 0 "rest" (.ite (.tdne 0 "large") (.dpop0 0 "large") (.call "_law_mixed" c__law_mixed (.aref 0 .anil))))
  .snil) .snil)
  (.scons (.asg 2 (.op2 .mod (.blt .int (.acons (.dgetI 0 "rest") .anil)) (.var 1)))
  (.scons (.dsetS 0 "rest" (.op2 .fdiv (.blt .int (.acons (.dgetI 0 "rest") .anil)) (.var 1)))
  (.scons (.ret (.var 2))
  .snil))))
def b__law_pick : I :=
  (.scons (.ret (.op2 .idx (.var 1) (.call "_law_take" c__law_take (.aref 0 (.acons (.blt .len (.acons (.var 1) .anil)) .anil)))))
  .snil)
def b__law_is_truth : I :=
  (.scons (.ret (.ite (.tval (.var 1)) (.op2 .isB (.var 0) (.con (.bl true))) (.op2 .isB (.var 0) (.con (.bl false)))))
  .snil)
end LW
set_option Elab.async false
set_option linter.all false
set_option maxRecDepth 100000
set_option maxHeartbeats 4000000
namespace LW
open PySem PySem.Spec PyProof.Rows FW WM
theorem drw {lg cs : List Int} {r tn : Int} (h1 : ∀ x ∈ lg, 0 ≤ x) (h2 : 0 ≤ r) (h3 : ∀ x ∈ cs, 0 ≤ x) (h4 : 0 ≤ tn) : Drw (.dic [.inr "large", .inr "rest", .inr "cells", .inr "turn"] [.lst (vals (lg.map .int)), .val (.int r), .val (.lst (cs.map .int)), .val (.int tn)]) := ⟨lg, r, cs, tn, rfl, h1, h2, h3, h4⟩
theorem w__law_mixed : W b__law_mixed [true] r__law_mixed 5 := by
  rintro ds ts as Pn Pe ha ⟨t, rfl, rfl, ⟨lg, r, cs, tn, rfl, h1, h2, h3, h4⟩, hp⟩
  simp at ha
  subst ha
  unfold b__law_mixed
  simp
  refine ⟨by decide, ?_⟩
  generalize hD : T.dic [.inr "large", .inr "rest", .inr "cells", .inr "turn"] [.lst (vals (lg.map .int)), .val (.int r), .val (.lst (cs.map .int)), .val (.int (tn + 1))] = dr
  refine forT (fun n e => ∃ o1 f o4 o5, 0 ≤ f ∧ e = [some dr, o1, some (.val (.int (tn + 1))), some (.val (.int f)), o4, o5]) (by simp) ⟨none, 0, none, none, Int.le_refl _, rfl⟩ ?_ ?_
  · rintro n e d K ⟨o1, f, o4, o5, hf, rfl⟩ hd hK
    obtain ⟨g, rfl, g1, g2⟩ : ∃ g : Int, d = .int g ∧ 0 < g ∧ g < 4294967296 := by
      have := List.mem_of_getElem? hd
      simp at this
      rcases this with rfl | rfl | rfl <;> exact ⟨_, rfl, by decide, by decide⟩
    subst hD
    simp
    refine ⟨by omega, ?_⟩
    generalize hD : T.dic [.inr "large", .inr "rest", .inr "cells", .inr "turn"] [.lst (vals (lg.map .int)), .val (.int r), .val (.lst (cs.map .int)), .val (.int (tn + 1))] = dr
    refine forT (fun n e => ∃ b o, (0 ≤ b ∧ b < g) ∧ e = [some dr, some (.val (.int g)), some (.val (.int (tn + 1))), some (.val (.int f)), some (.val (.int b)), o]) (by simp) ⟨_, o5, ⟨Int.fmod_nonneg_of_pos _ g1, Int.fmod_lt_of_pos _ g1⟩, rfl⟩ ?_ ?_
    · rintro m e d K2 ⟨b, o, ⟨hb1, hb2⟩, rfl⟩ hd hK2
      rw [List.getElem?_map, Option.map_eq_some_iff] at hd
      obtain ⟨x, hx, rfl⟩ := hd
      simp
      exact ⟨by omega, hK2 _ ⟨_, _, ⟨Int.fmod_nonneg_of_pos _ g1, Int.fmod_lt_of_pos _ g1⟩, rfl⟩⟩
    · rintro e ⟨b, o, ⟨hb1, hb2⟩, rfl⟩
      subst hD
      simp
      have := Int.fmod_nonneg_of_pos (b ^ 5) g1
      have h2 : 0 ≤ f * 2147483647 := Int.mul_nonneg hf (by decide)
      exact ⟨by omega, by omega, hK _ ⟨_, _, _, _, Int.add_nonneg h2 this, rfl⟩⟩
  · rintro e ⟨o1, f, o4, o5, hf, rfl⟩
    subst hD
    simp
    exact hp f _ hf (drw h1 h2 h3 (by omega))
theorem w__law_take : W b__law_take [true, false] r__law_take 1 := by
  rintro ds ts as Pn Pe ha ⟨a, t, rfl, rfl, ⟨lg, r, cs, tn, rfl, h1, h2, h3, h4⟩, a1, a2, hp⟩
  simp at ha
  subst ha
  have q1 : ∀ x : Int, 0 ≤ x → 0 ≤ x.fdiv a := fun x hx => by rw [Int.fdiv_eq_ediv_of_nonneg _ (by omega)]; exact Int.ediv_nonneg hx (by omega)
  have fin : ∀ {lg' cs' : List Int} {r' tn' : Int}, (∀ x ∈ lg', 0 ≤ x) → 0 ≤ r' → (∀ x ∈ cs', 0 ≤ x) → 0 ≤ tn' → Pn (.val (.int (r'.fmod a))) [.dic [.inr "large", .inr "rest", .inr "cells", .inr "turn"] [.lst (vals (lg'.map .int)), .val (.int (r'.fdiv a)), .val (.lst (cs'.map .int)), .val (.int tn')]] :=
    fun {lg' cs' r' tn'} k1 k2 k3 k4 => hp _ _ (Int.fmod_nonneg_of_pos r' a1) (Int.fmod_lt_of_pos r' a1) (drw k1 (q1 _ k2) k3 k4)
  unfold b__law_take
  simp
  refine condK_dec (fun q => ?_) (fun q => ?_)
  · cases lg with
    | nil =>
      simp
      refine call1_of ⟨_, rfl, rfl, drw (lg := []) h1 h2 h3 h4, fun n t' hn hd => ?_⟩
      obtain ⟨lg', r', cs', tn', rfl, k1, k2, k3, k4⟩ := hd
      simp
      exact ⟨by omega, by omega, fin k1 hn k3 k4⟩
    | cons x lg =>
      simp
      exact ⟨by omega, by omega, fin (fun y hy => h1 y (List.mem_cons_of_mem _ hy)) (h1 x List.mem_cons_self) h3 h4⟩
  · exact ⟨by omega, by omega, fin h1 h2 h3 h4⟩
theorem atI_nat {α : Type} {xs : List α} {r : Int} (h0 : 0 ≤ r) (h1 : r < xs.length) : ∃ d, d ∈ xs ∧ L2.atI xs r = some d := by
  have hl : r.toNat < xs.length := by omega
  refine ⟨xs[r.toNat], List.getElem_mem hl, ?_⟩
  unfold L2.atI L2.ixN
  rw [if_pos h0, if_pos h1]
  simp [hl]
theorem w__law_pick : W b__law_pick [true, false] r__law_pick 0 := by
  rintro ds ts as Pn Pe ha ⟨xs, t, hx, rfl, hn, hl, hd, hp⟩
  have pos : 0 < xs.length := List.length_pos_iff.mpr hn
  rcases hx with rfl | rfl <;> simp at ha <;> subst ha <;> unfold b__law_pick <;> simp
  · refine call1_of ⟨_, _, rfl, rfl, hd, by omega, by omega, fun r t' r0 r1 hd' => ?_⟩
    obtain ⟨d, m, e⟩ := atI_nat r0 r1
    simp [e]
    exact hp d t' m hd'
  · refine call1_of ⟨_, _, rfl, rfl, hd, by omega, by omega, fun r t' r0 r1 hd' => ?_⟩
    obtain ⟨d, m, e⟩ := atI_nat r0 r1
    simp [e]
    exact hp d t' m hd'
theorem w__law_is_truth : W b__law_is_truth [false, false] r__law_is_truth 0 := by
  rintro ds ts as Pn Pe ha ⟨a, b, rfl, rfl, hp⟩
  simp at ha
  subst ha
  unfold b__law_is_truth
  cases b <;> cases a <;> simp at hp ⊢ <;> exact hp
theorem w__law_begun : W b__law_begun [false] r__law_begun 2 := by
  rintro ds ts as Pn Pe ha ⟨ns, rfl, rfl, hn, hp⟩
  have hL := Lim_eq
  simp at ha
  subst ha
  unfold b__law_begun
  simp
  refine cmpSc (fun e => e = [some (.val (.scr ns)), none, none]) (fun d => ∃ x, d = .int x ∧ 0 ≤ x) (by rfl) ?_ (by simp; omega) ?_ ?_
  · rintro e rfl
    exact ⟨by simp [ItOk], by simp⟩
  · rintro n d e K K2 rfl hd k1 k2
    rw [List.getElem?_map, Option.map_eq_some_iff] at hd
    obtain ⟨x, hx, rfl⟩ := hd
    simp
    refine condK_dec (fun q => ?_) (fun q => ?_)
    · exact k1 _ _ ⟨_, rfl, by omega⟩ (by simp)
    · exact k2 _ (by simp)
  rintro ds e rfl hl hr
  obtain ⟨lg, rfl, hlg⟩ := ints_of hr
  simp
  refine cmpS (fun e => e = [some (.val (.scr ns)), none, none]) (fun n d => ∃ x, d = .int x ∧ 0 ≤ x) (by rfl) ?_ (by simp; omega) ?_ ?_
  · rintro e rfl
    exact ⟨by simp [ItOk], by simp⟩
  · rintro n d e K rfl hd k1
    rw [List.getElem?_map, Option.map_eq_some_iff] at hd
    obtain ⟨x, hx, rfl⟩ := hd
    simp
    exact k1 _ _ ⟨_, rfl, by omega⟩ (by simp)
  rintro ds e rfl hl2 hr2
  obtain ⟨cs, rfl, hcs⟩ := ints_of (p := fun x => 0 ≤ x) (all_at hr2)
  simp
  refine ⟨_, .keep (.keep (.frz (by simp) (.keep .nil))), hp _ (drw hlg (by decide) hcs (by decide))⟩
end LW
set_option Elab.async false
set_option linter.all false
set_option maxRecDepth 100000
/-! rounds: what the defs tell, in plain words (for all laws) -/
namespace LW
open PySem PySem.Spec PyProof.Rows FW WM
def isRd (s : Int) (t : D) : Bool := isLet s t && (match t with | .tup ds => decide (0 < ds.length) && decide (ds.length ≤ 200) && decide (rnd (lts t) = lts t) | _ => false)
abbrev brd : D := .exc "BadRound" [] []
abbrev bnum (x : Str) : D := .exc "BadNumber" ["part"] [.str x]
def r_need_between : Rn := fun ds ts Pn Pe => ∃ t lo hi p, ds = [t, .int lo, .int hi, .str p] ∧ ts = [] ∧ ins t = true ∧ (betw t lo hi = true → Pn (.val .non) []) ∧ (betw t lo hi = false → Pe (bnum p) [])
def r_least_spot : Rn := fun ds ts Pn _ => ∃ l, ds = [wd l] ∧ ts = [] ∧ l.length ≤ 100000 ∧ ∀ k : Nat, k ≤ l.length → rot l k = lturn l → Pn (.val (.int k)) []
def r_least_turn : Rn := fun ds ts Pn _ => ∃ l, ds = [wd l] ∧ ts = [] ∧ l.length ≤ 100000 ∧ Pn (.val (wd (rnd l))) []
def r_round_of : Rn := r_worded fun _ l => rnd l
def r_is_round : Rn := fun ds ts Pn Pe => ∃ z t, ds = [z, t] ∧ ts = [] ∧ ins z = true ∧ ins t = true ∧ ins1 t = true ∧ (betw z 2 4 = true → Pn (.val (.bl (isRd (intOf z) t))) []) ∧ (betw z 2 4 = false → Pe bsz [])
def r_need_loop : Rn := fun ds ts Pn Pe => ∃ s t, ds = [.int s, t] ∧ ts = [] ∧ 2 ≤ s ∧ s ≤ 4 ∧ ins t = true ∧ ins1 t = true ∧ (isRd s t = true → Pn (.val .non) []) ∧ (isRd s t = false → Pe brd [])
def r_turned_about : Rn := fun ds ts Pn Pe => ∃ z t, ds = [z, t] ∧ ts = [] ∧ ins z = true ∧ ins t = true ∧ ins1 t = true ∧ (betw z 2 4 = false → Pe bsz []) ∧ (betw z 2 4 = true → isRd (intOf z) t = false → Pe brd []) ∧
  (betw z 2 4 = true → isRd (intOf z) t = true → Pn (.val (wd (rnd (und (lts t))))) [])
def r_gone : Rn := fun ds ts Pn Pe => ∃ z t no, ds = [z, t, no] ∧ ts = [] ∧ ins z = true ∧ ins t = true ∧ ins1 t = true ∧ (betw z 2 4 = true → isRd (intOf z) t = true → ins no = true) ∧ (betw z 2 4 = false → Pe bsz []) ∧ (betw z 2 4 = true → isRd (intOf z) t = false → Pe brd []) ∧
  (betw z 2 4 = true → isRd (intOf z) t = true → betw no 1 60 = false → Pe (bnum "times") []) ∧ (betw z 2 4 = true → isRd (intOf z) t = true → betw no 1 60 = true → Pn (.val (wd (rep (intOf no).toNat (lts t)))) [])
def r_root_part : Rn := fun ds ts Pn _ => ∃ l, ds = [wd l] ∧ ts = [] ∧ l ≠ [] ∧ l.length ≤ 1000 ∧ ∀ s, LP l s → Pn (.val (wd (l.take s))) []
def r_root_of : Rn := fun ds ts Pn Pe => ∃ z t, ds = [z, t] ∧ ts = [] ∧ ins z = true ∧ ins t = true ∧ ins1 t = true ∧ (betw z 2 4 = false → Pe bsz []) ∧ (betw z 2 4 = true → isRd (intOf z) t = false → Pe brd []) ∧
  (betw z 2 4 = true → isRd (intOf z) t = true → ∀ s, LP (lts t) s → Pn (.val (.tup [wd ((lts t).take s), .int ((lts t).length / s : Nat)])) [])
def r_along : Rn := fun ds ts Pn Pe => ∃ z a b, ds = [z, a, b] ∧ ts = [] ∧ ins z = true ∧ ins a = true ∧ ins1 a = true ∧ (betw z 2 4 = true → isRd (intOf z) a = true → ins b = true ∧ ins1 b = true) ∧ (betw z 2 4 = false → Pe bsz []) ∧ (betw z 2 4 = true → isRd (intOf z) a = false → Pe brd []) ∧
  (betw z 2 4 = true → isRd (intOf z) a = true → isRd (intOf z) b = false → Pe brd []) ∧
  (betw z 2 4 = true → isRd (intOf z) a = true → isRd (intOf z) b = true → ∀ s u, LP (lts a) s → LP (lts b) u → Pn (.val (.bl (decide ((lts b).take u = (lts a).take s ∨ (lts b).take u = rnd (und ((lts a).take s)))))) [])
end LW
set_option Elab.async false
set_option linter.all false
set_option maxRecDepth 100000
namespace LW
open PySem PySem.Spec PyProof.Rows FW WM
def c_need_between : Con := { io := [false, false, false, false], gd := false, kws := [], run := r_need_between }
def c_least_spot : Con := { io := [false], gd := false, kws := [], run := r_least_spot }
def c_least_turn : Con := { io := [false], gd := false, kws := [], run := r_least_turn }
def c_round_of : Con := { io := [false, false], gd := false, kws := [(["word", "size"], [1, 0])], run := r_round_of }
def c_is_round : Con := { io := [false, false], gd := false, kws := [(["thing", "size"], [1, 0])], run := r_is_round }
def c_need_loop : Con := { io := [false, false], gd := false, kws := [], run := r_need_loop }
def c_turned_about : Con := { io := [false, false], gd := false, kws := [(["loop", "size"], [1, 0])], run := r_turned_about }
def c_gone : Con := { io := [false, false, false], gd := false, kws := [(["times", "loop", "size"], [2, 1, 0])], run := r_gone }
def c_root_part : Con := { io := [false], gd := false, kws := [], run := r_root_part }
def c_root_of : Con := { io := [false, false], gd := false, kws := [(["loop", "size"], [1, 0])], run := r_root_of }
def c_along : Con := { io := [false, false, false], gd := false, kws := [(["other", "one", "size"], [2, 1, 0])], run := r_along }
def b_need_between : I :=
  (.scons (.ife (.tnot (.tval (.call "is_between" c_is_between (.acons (.var 0) (.acons (.var 1) (.acons (.var 2) .anil)))))) (.scons (.raiseI "BadNumber" "part" (.var 3))
  .snil) .snil)
  .snil)
def b_least_spot : I :=
  (.scons (.par [1, 2, 3, 4] (.acons (.con (.int 0)) (.acons (.con (.int 1)) (.acons (.con (.int 0)) (.acons (.blt .len (.acons (.var 0) .anil)) .anil)))))
  (.scons (.whileS (.tand (.tcmp .lt (.blt .max2 (.acons (.var 1) (.acons (.var 2) .anil))) (.var 4)) (.tcmp .lt (.var 3) (.var 4))) (.scons (.par [5, 6] (.acons (.op2 .idx (.var 0) (.op2 .mod (.op2 .add (.var 1) (.var 3)) (.var 4))) (.acons (.op2 .idx (.var 0) (.op2 .mod (.op2 .add (.var 2) (.var 3)) (.var 4))) .anil)))
  (.scons (.ife (.tcmp .eq (.var 5) (.var 6)) (.scons (.augI 3 .add (.con (.int 1)))
  (.scons .cont
  .snil)) .snil)
  (.scons (.ife (.tcmp .gt (.var 5) (.var 6)) (.scons (.augI 1 .add (.op2 .add (.var 3) (.con (.int 1))))
  .snil) (.scons (.augI 2 .add (.op2 .add (.var 3) (.con (.int 1))))
  .snil))
  (.scons (.augI 2 .add (.blt .int (.acons (.op2 .eq (.var 1) (.var 2)) .anil)))
  (.scons (.asg 3 (.con (.int 0)))
  .snil))))))
  (.scons (.ret (.blt .min2 (.acons (.var 1) (.acons (.var 2) .anil))))
  .snil)))
def b_least_turn : I :=
  (.scons (.asg 1 (.call "freed" c_freed (.acons (.var 0) .anil)))
  (.scons (.par [3, 4] (.acons (.con (.int 0)) (.acons (.blt .len (.acons (.var 1) .anil)) .anil)))
  (.scons (.whileS (.tand (.tcmp .gt (.op2 .sub (.var 4) (.var 3)) (.con (.int 1))) (.tcmp .eq (.op2 .idx (.var 1) (.var 3)) (.op2 .xor (.op2 .idx (.var 1) (.op2 .sub (.var 4) (.con (.int 1)))) (.con (.int 1))))) (.scons (.par [3, 4] (.acons (.op2 .add (.var 3) (.con (.int 1))) (.acons (.op2 .sub (.var 4) (.con (.int 1))) .anil)))
  .snil))
  (.scons (.asg 1 (.slc (.var 1) (.osome (.var 3)) (.osome (.var 4))))
  (.scons (.asg 2 (.call "least_spot" c_least_spot (.acons (.var 1) .anil)))
  (.scons (.ret (.op2 .add (.slc (.var 1) (.osome (.var 2)) .onone) (.slc (.var 1) .onone (.osome (.var 2)))))
  .snil))))))
def b_round_of : I :=
  (.scons (.expr (.call "need_size" c_need_size (.acons (.var 0) .anil)))
  (.scons (.expr (.call "need_word" c_need_word (.acons (.var 0) (.acons (.var 1) .anil))))
  (.scons (.ret (.call "least_turn" c_least_turn (.acons (.var 1) .anil)))
  .snil)))
def b_is_round : I :=
  (.scons (.expr (.call "need_size" c_need_size (.acons (.var 0) .anil)))
  (.scons (.ret (.andv (.call "are_letters" c_are_letters (.acons (.var 0) (.acons (.var 1) .anil))) (.andv (.chain .lt .le (.con (.int 0)) (.blt .len (.acons (.var 1) .anil)) (.glob "MOST_LETTERS" 200)) (.op2 .eq (.call "least_turn" c_least_turn (.acons (.var 1) .anil)) (.var 1)))))
  .snil))
def b_need_loop : I :=
  (.scons (.ife (.tnot (.tval (.call "is_round" c_is_round (.acons (.var 0) (.acons (.var 1) .anil))))) (.scons (.raiseM "BadRound")
  .snil) .snil)
  .snil)
def b_turned_about : I :=
  (.scons (.expr (.call "need_size" c_need_size (.acons (.var 0) .anil)))
  (.scons (.expr (.call "need_loop" c_need_loop (.acons (.var 0) (.acons (.var 1) .anil))))
  (.scons (.ret (.call "least_turn" c_least_turn (.acons (.call "undone_word" c_undone_word (.acons (.var 1) .anil)) .anil)))
  .snil)))
def b_gone : I :=
  (.scons (.expr (.call "need_size" c_need_size (.acons (.var 0) .anil)))
  (.scons (.expr (.call "need_loop" c_need_loop (.acons (.var 0) (.acons (.var 1) .anil))))
  (.scons (.expr (.call "need_between" c_need_between (.acons (.var 2) (.acons (.con (.int 1)) (.acons (.glob "MOST_TIMES" 60) (.acons (.con (.str "times")) .anil))))))
  (.scons (.ret (.op2 .mul (.var 1) (.var 2)))
  .snil))))
def b_root_part : I :=
  (.scons (.asg 1 (.blt .len (.acons (.var 0) .anil)))
  (.scons (.ret (.op2 .idx (.comp (.gname 2) (.irng2 (.con (.int 1)) (.op2 .add (.var 1) (.con (.int 1)))) (.tand (.tcmp .eq (.op2 .mod (.var 1) (.var 2)) (.con (.int 0))) (.tcmp .eq (.op2 .mul (.slc (.var 0) .onone (.osome (.var 2))) (.op2 .fdiv (.var 1) (.var 2))) (.var 0))) (.slc (.var 0) .onone (.osome (.var 2)))) (.con (.int 0))))
  .snil))
def b_root_of : I :=
  (.scons (.expr (.call "need_size" c_need_size (.acons (.var 0) .anil)))
  (.scons (.expr (.call "need_loop" c_need_loop (.acons (.var 0) (.acons (.var 1) .anil))))
  (.scons (.asg 2 (.call "root_part" c_root_part (.acons (.var 1) .anil)))
  (.scons (.ret (.tup (.acons (.var 2) (.acons (.op2 .fdiv (.blt .len (.acons (.var 1) .anil)) (.blt .len (.acons (.var 2) .anil))) .anil))))
  .snil))))
def b_along : I :=
  (.scons (.expr (.call "need_size" c_need_size (.acons (.var 0) .anil)))
  (.scons (.expr (.call "need_loop" c_need_loop (.acons (.var 0) (.acons (.var 1) .anil))))
  (.scons (.expr (.call "need_loop" c_need_loop (.acons (.var 0) (.acons (.var 2) .anil))))
  (.scons (.par [3, 4] (.acons (.call "root_part" c_root_part (.acons (.var 1) .anil)) (.acons (.call "root_part" c_root_part (.acons (.var 2) .anil)) .anil)))
  (.scons (.ret (.op2 .isin (.var 4) (.tup (.acons (.var 3) (.acons (.call "least_turn" c_least_turn (.acons (.call "undone_word" c_undone_word (.acons (.var 3) .anil)) .anil)) .anil)))))
  .snil)))))
end LW
set_option Elab.async false
set_option linter.all false
set_option maxRecDepth 100000
set_option maxHeartbeats 4000000
namespace LW
open PySem PySem.Spec PyProof.Rows FW WM
theorem w_need_between : W b_need_between [false, false, false, false] r_need_between 0 := by
  rintro ds ts as Pn Pe ha ⟨t, lo, hi, p, rfl, rfl, h, hp, he⟩
  simp at ha
  subst ha
  unfold b_need_between
  simp
  refine call0_of ⟨t, lo, hi, rfl, rfl, h, ?_⟩
  cases q : betw t lo hi with
  | true => simp; exact hp q
  | false => simp; exact he q
theorem at_mod {l : List Int} (a s : Nat) (n : l ≠ []) : ∃ x, atp l a s = some x ∧ L2.atI (l.map D.int) (((a : Int) + (s : Int)).fmod (l.length : Int)) = some (.int x) := by
  have h0 : 0 < l.length := List.length_pos_iff.mpr n
  have hm := Nat.mod_lt (a + s) h0
  refine ⟨l[(a + s) % l.length], by unfold atp; rw [List.getElem?_eq_getElem hm], ?_⟩
  have e : ((a : Int) + (s : Int)).fmod (l.length : Int) = (((a + s) % l.length : Nat) : Int) := by
    rw [Int.fmod_eq_emod_of_nonneg _ (by omega), Int.natCast_emod, Int.natCast_add]
  rw [e]
  generalize (a + s) % l.length = i at hm
  unfold L2.atI L2.ixN
  rw [if_pos (by omega), if_pos (by simp; exact hm)]
  simp [List.getElem?_eq_getElem hm]
theorem w_least_spot : W b_least_spot [false] r_least_spot 6 := by
  rintro ds ts as Pn Pe ha ⟨l, rfl, rfl, hl, hp⟩
  simp at ha
  subst ha
  unfold b_least_spot
  simp
  refine whileI (fun m e => ∃ (a b s : Nat) (o5 o6 : Option T), e = [some (.val (wd l)), some (.val (.int (a : Nat))), some (.val (.int (b : Nat))), some (.val (.int (s : Nat))), some (.val (.int (l.length : Nat))), o5, o6] ∧ (l = [] → a = 0) ∧ Spt l a b s ∧ m = 3 * l.length - (a + b + s)) ⟨0, 1, 0, none, none, rfl, fun _ => rfl, spt_start l, rfl⟩ ?_
  rintro m e K ⟨a, b, s, o5, o6, rfl, hz, hs, rfl⟩ hK
  simp
  have stop : (l = [] ∨ l.length ≤ max a b ∨ l.length ≤ s) → Pn (T.val (D.int (if b < a then (b : Int) else (a : Int)))) [] := fun h => by
    have e : (if b < a then (b : Int) else (a : Int)) = ((min a b : Nat) : Int) := by split <;> omega
    rw [e]
    by_cases n : l = []
    · have := hz n
      subst n
      subst this
      exact hp _ (by simp) (by simp [rot, lturn_nil])
    · obtain ⟨h1, h2⟩ := hs.done n (h.resolve_left n)
      exact hp _ (Nat.le_of_lt h1) h2
  refine condK_dec (fun h => ?_) (fun h => stop (.inr (.inl (by split at h <;> omega))))
  refine condK_dec (fun h2 => ?_) (fun h2 => stop (.inr (.inr (by omega))))
  have n : l ≠ [] := fun e => by rw [e] at h2; simp at h2
  obtain ⟨x, x1, x2⟩ := at_mod a s n
  obtain ⟨y, y1, y2⟩ := at_mod b s n
  rw [x2, y2]
  simp [n]
  have lt : max a b < l.length := by split at h <;> omega
  have go : ∀ (a' b' s' : Nat) (A B S : Int) (o5 o6 : Option T), A = (a' : Nat) → B = (b' : Nat) → S = (s' : Nat) → a + b + s < a' + b' + s' → Spt l a' b' s' → K [some (.val (wd l)), some (.val (.int A)), some (.val (.int B)), some (.val (.int S)), some (.val (.int (l.length : Nat))), o5, o6] := fun a' b' s' A B S o5 o6 e1 e2 e3 h1 h3 => by
    subst e1 e2 e3
    exact hK _ _ (by omega) ⟨a', b', s', o5, o6, rfl, fun e => absurd e n, h3, rfl⟩
  refine condK_dec (fun q => ?_) (fun q => ?_)
  · subst q
    exact go a b (s + 1) _ _ _ _ _ rfl rfl (by omega) (by omega) (hs.more (x1.trans y1.symm))
  · refine condK_dec (fun q2 => ?_) (fun q2 => ?_)
    · exact go _ _ 0 _ _ _ _ _ (by omega) (by split <;> split <;> omega) rfl (by omega) (hs.first h2 x1 y1 q2)
    · exact go _ _ 0 _ _ _ _ _ rfl (by split <;> split <;> omega) rfl (by omega) (hs.second h2 x1 y1 (by omega))
theorem cutD_in {α : Type} (l : List α) : FW.cutD l (some 1) (some (-1)) = (l.drop 1).dropLast := by
  have a1 : HT.sIx l.length 0 (some 1) = min 1 l.length := by simp [HT.sIx]
  have a2 : HT.sIx l.length l.length (some (-1)) = l.length - 1 := by simp [HT.sIx]; omega
  unfold FW.cutD
  rw [a1, a2, List.dropLast_eq_take, List.length_drop]
  by_cases h : l.length = 0
  · have := List.eq_nil_of_length_eq_zero h
    subst this
    rfl
  · rw [show min 1 l.length = 1 by omega]
theorem atI_w {w : List Int} {i : Nat} (h : i < w.length) : L2.atI (w.map D.int) (i : Int) = some (.int w[i]) := by
  unfold L2.atI L2.ixN
  rw [if_pos (by omega), if_pos (by simp; omega)]
  simp [List.getElem?_eq_getElem h]
theorem w_least_turn : W b_least_turn [false] r_least_turn 4 := by
  rintro ds ts as Pn Pe ha ⟨l, rfl, rfl, hl, hp⟩
  simp at ha
  subst ha
  unfold b_least_turn
  show wpX _ [some (.val (wd l)), none, none, none, none] (outK [false] Pn (.val .non)) (PD [false] Pn Pe)
  refine S_seq fun K1 h1 => ?_
  simp
  refine call0_of ⟨l, _, .inl rfl, rfl, rfl, by omega, ?_⟩
  simp
  refine h1 _ ?_
  clear h1
  have hc := frd_len l
  have hw : frd l = nf l := frd_nf l
  generalize frd l = w at *
  refine S_seq fun K1 h1 => ?_
  simp
  refine h1 _ ?_
  clear h1
  refine S_seq fun K1 h1 => ?_
  simp
  suffices nxt : ∀ lo hi : Nat, lo ≤ hi → hi ≤ w.length → (w.take hi).drop lo = cyc w → K1 [some (T.val (wd l)), some (T.val (wd w)), none, some (T.val (D.int (lo : Nat))), some (T.val (D.int (hi : Nat)))] by
    refine whileI (fun m e => ∃ lo hi : Nat, e = [some (T.val (wd l)), some (T.val (wd w)), none, some (T.val (D.int (lo : Nat))), some (T.val (D.int (hi : Nat)))] ∧ lo ≤ hi ∧ hi ≤ w.length ∧ cyc ((w.take hi).drop lo) = cyc w ∧ m = hi - lo) ⟨0, w.length, rfl, Nat.zero_le _, Nat.le_refl _, by simp, rfl⟩ ?_
    rintro m e K ⟨lo, hi, rfl, q1, q2, q3, rfl⟩ hK
    have sl : ((w.take hi).drop lo).length = hi - lo := by rw [List.length_drop, List.length_take]; omega
    simp
    refine condK_dec (fun h => ?_) (fun h => ?_)
    · have e1 : L2.atI (w.map D.int) ((hi : Int) - 1) = some (.int (w[hi - 1]'(by omega))) := by
        rw [show (hi : Int) - 1 = ((hi - 1 : Nat) : Int) by omega]
        exact atI_w (by omega)
      rw [atI_w (i := lo) (by omega), e1]
      have hh : ((w.take hi).drop lo).head? = some (w[lo]'(by omega)) := by
        rw [List.head?_drop, List.getElem?_take, if_pos (by omega), List.getElem?_eq_getElem]
      have ht : ((w.take hi).drop lo).getLast? = some (w[hi - 1]'(by omega)) := by
        rw [List.getLast?_eq_getElem?, sl, List.getElem?_drop, List.getElem?_take, if_pos (by omega), show lo + (hi - lo - 1) = hi - 1 by omega, List.getElem?_eq_getElem]
      simp
      refine condK_dec (fun h2 => ?_) (fun h2 => ?_)
      · have e2 : (((w.take hi).drop lo).drop 1).dropLast = (w.take (hi - 1)).drop (lo + 1) := by
          rw [List.dropLast_eq_take, List.length_drop, sl, List.drop_drop, List.drop_take, List.drop_take, List.take_take]
          congr 1
          omega
        have e3 : cyc ((w.take (hi - 1)).drop (lo + 1)) = cyc w := by
          have := cyc_in (l := (w.take hi).drop lo) ⟨by rw [sl]; omega, by rw [hh, ht, h2]; rfl⟩
          rw [e2] at this
          rw [← q3, this]
        have := hK (hi - 1 - (lo + 1)) _ (by omega) ⟨lo + 1, hi - 1, rfl, by omega, by omega, e3, rfl⟩
        rw [show ((lo + 1 : Nat) : Int) = (lo : Int) + 1 by omega, show ((hi - 1 : Nat) : Int) = (hi : Int) - 1 by omega] at this
        exact this
      · refine nxt lo hi q1 q2 ?_
        rw [← q3, cyc_out]
        rintro ⟨_, z⟩
        rw [hh, ht] at z
        simp at z
        exact h2 z
    · refine nxt lo hi q1 q2 ?_
      rw [← q3, cyc_out]
      rintro ⟨z, _⟩
      rw [sl] at z
      omega
  intro lo hi q1 q2 q3
  refine h1 _ ?_
  clear h1
  simp
  rw [cutD_mid (by omega) (by omega)]
  simp only [Int.toNat_natCast, ← List.map_take, ← List.map_drop]
  rw [q3]
  have hcl := cyc_len w
  refine call0_of ⟨cyc w, rfl, rfl, by omega, fun k hk ek => ?_⟩
  simp
  rw [cutD_take (by omega), cutD_drop (by omega)]
  simp only [Int.toNat_natCast, ← List.map_take, ← List.map_drop, ← List.map_append]
  have e : (cyc w).drop k ++ (cyc w).take k = rnd l := by
    have : rot (cyc w) k = (cyc w).drop k ++ (cyc w).take k := rfl
    rw [← this, ek, hw]; rfl
  rw [e]
  refine ⟨by simp [Lim_eq]; omega, hp⟩
theorem isRd_rd {s : Int} {t : D} (h : isRd s t = true) : ∃ l : List Int, t = wd l ∧ Lt s l ∧ l.length ≤ 200 ∧ lts t = l ∧ Rd l ∧ l ≠ [] := by
  unfold isRd at h
  rw [Bool.and_eq_true] at h
  obtain ⟨h1, h2⟩ := h
  have hw : isWd s t = true := by
    unfold isWd
    rw [h1]
    cases t <;> simp at h2 ⊢
    exact h2.1.2
  obtain ⟨l, rfl, l1, l2, l3⟩ := isWd_wd hw
  simp at h2
  rw [l3] at h2
  refine ⟨l, rfl, l1, l2, l3, rd_iff.mp h2.2, fun e => ?_⟩
  rw [e] at h2
  simp at h2
theorem isRd_of {s : Int} {l : List Int} (h1 : Lt s l) (h2 : l.length ≤ 200) (h3 : Rd l) (h4 : l ≠ []) : isRd s (wd l) = true := by
  have hw := isWd_of h1 h2
  unfold isWd at hw
  rw [Bool.and_eq_true] at hw
  unfold isRd
  rw [hw.1]
  have := List.length_pos_iff.mpr h4
  simp [lts_wd, h3.rnd, h2]
  exact this
theorem w_round_of : W b_round_of [false, false] r_round_of 0 := by
  rintro ds ts as Pn Pe ha ⟨z, t, rfl, rfl, h1, h2, h3, e1, e2, hp⟩
  simp at ha
  subst ha
  unfold b_round_of
  simp
  refine call0_of ⟨z, rfl, rfl, h1, fun q => ?_, fun q => ?_⟩
  · obtain ⟨s, rfl, s1, s2⟩ := betw_sz q
    simp
    refine call0_of ⟨s, t, rfl, rfl, s1, s2, h2, h3, fun q2 => ?_, fun q2 => ?_⟩
    · obtain ⟨l, rfl, l1, l2, l3⟩ := isWd_wd q2
      simp
      refine call0_of ⟨l, rfl, rfl, by omega, ?_⟩
      have := hp q q2
      rw [l3] at this
      simpa using this
    · simp; exact e2 q q2
  · simp; exact e1 q
theorem w_is_round : W b_is_round [false, false] r_is_round 0 := by
  rintro ds ts as Pn Pe ha ⟨z, t, rfl, rfl, h1, h2, h3, hp, he⟩
  simp at ha
  subst ha
  unfold b_is_round
  simp
  refine call0_of ⟨z, rfl, rfl, h1, fun q => ?_, fun q => ?_⟩
  · obtain ⟨i, rfl, i1, i2⟩ := betw_sz q
    have hp : Pn (.val (.bl (isRd i t))) [] := hp q
    simp
    refine call0_of ⟨i, t, rfl, rfl, h2, h3, ?_⟩
    cases hl : isLet i t with
    | false =>
      have e : isRd i t = false := by unfold isRd; rw [hl]; rfl
      rw [e] at hp
      simpa using hp
    | true =>
      obtain ⟨l, rfl⟩ : ∃ l, t = wd l := by
        obtain ⟨ds, rfl⟩ : ∃ ds, t = .tup ds := by cases t <;> simp [isLet] at hl <;> exact ⟨_, rfl⟩
        have : ∀ d ∈ ds, ∃ x, d = .int x ∧ True := fun d hd => by
          simp [isLet] at hl
          have := hl d hd
          cases d <;> simp [betw] at this
          exact ⟨_, rfl, trivial⟩
        obtain ⟨l, rfl, _⟩ := ints_of this
        exact ⟨l, rfl⟩
      have hlen : l.length ≤ 500000 := by simpa [ins1, ins] using h3
      have e0 : isRd i (wd l) = (decide (0 < l.length) && decide ((l.length : Int) ≤ 200) && decide (rnd l = l)) := by
        unfold isRd
        rw [hl, lts_wd]
        have : decide (l.length ≤ 200) = decide ((l.length : Int) ≤ 200) := by simp only [decide_eq_decide]; omega
        simp [this]
      rw [e0] at hp
      simp
      refine condK_dec (fun g1 => ?_) (fun g1 => ?_)
      · refine condK_dec (fun g2 => ?_) (fun g2 => ?_)
        · refine call0_of ⟨l, rfl, rfl, by omega, ?_⟩
          simp [g1, g2] at hp
          simp
          exact hp
        · simp [g2] at hp
          exact hp
      · simp [g1] at hp
        exact hp
  · simp; exact he q
theorem w_need_loop : W b_need_loop [false, false] r_need_loop 0 := by
  rintro ds ts as Pn Pe ha ⟨s, t, rfl, rfl, h1, h2, h3, h4, hp, he⟩
  simp at ha
  subst ha
  unfold b_need_loop
  simp
  refine call0_of ⟨.int s, t, rfl, rfl, rfl, h3, h4, fun q => ?_, fun q => ?_⟩
  · cases e : isRd s t with
    | true => simp [intOf, e]; exact hp e
    | false => simp [intOf, e]; exact he e
  · simp [betw] at q; omega
theorem w_turned_about : W b_turned_about [false, false] r_turned_about 0 := by
  rintro ds ts as Pn Pe ha ⟨z, t, rfl, rfl, h1, h2, h3, e1, e2, hp⟩
  simp at ha
  subst ha
  unfold b_turned_about
  simp
  refine call0_of ⟨z, rfl, rfl, h1, fun q => ?_, fun q => ?_⟩
  · obtain ⟨s, rfl, s1, s2⟩ := betw_sz q
    simp
    refine call0_of ⟨s, t, rfl, rfl, s1, s2, h2, h3, fun q2 => ?_, fun q2 => ?_⟩
    · obtain ⟨l, rfl, l1, l2, l3, l4, l5⟩ := isRd_rd q2
      simp
      refine call0_of ⟨l, _, .inl rfl, rfl, rfl, by omega, ?_⟩
      simp
      refine call0_of ⟨und l, rfl, rfl, by rw [und_len]; omega, ?_⟩
      have := hp q q2
      rw [l3] at this
      simpa using this
    · simp; exact e2 q q2
  · simp; exact e1 q
theorem flat_wd (k : Nat) (l : List Int) : (List.replicate k (l.map D.int)).flatten = (rep k l).map D.int := by
  induction k with
  | zero => rfl
  | succ k ih => rw [List.replicate_succ, List.flatten_cons, ih, rep_succ, List.map_append]
theorem w_gone : W b_gone [false, false, false] r_gone 0 := by
  rintro ds ts as Pn Pe ha ⟨z, t, no, rfl, rfl, h1, h2, h3, h4, e1, e2, e3, hp⟩
  simp at ha
  subst ha
  unfold b_gone
  simp
  refine call0_of ⟨z, rfl, rfl, h1, fun q => ?_, fun q => ?_⟩
  · obtain ⟨s, rfl, s1, s2⟩ := betw_sz q
    simp
    refine call0_of ⟨s, t, rfl, rfl, s1, s2, h2, h3, fun q2 => ?_, fun q2 => ?_⟩
    · obtain ⟨l, rfl, l1, l2, l3, l4, l5⟩ := isRd_rd q2
      simp
      refine call0_of ⟨no, 1, 60, "times", rfl, rfl, h4 q q2, fun q3 => ?_, fun q3 => ?_⟩
      · obtain ⟨k, rfl⟩ : ∃ k, no = .int k := by cases no <;> simp [betw] at q3; exact ⟨_, rfl⟩
        have q4 := q3
        simp [betw] at q4
        simp
        refine ⟨⟨by omega, by omega, by omega⟩, ?_⟩
        have := hp q q2 q3
        rw [l3] at this
        rw [flat_wd]
        simpa [intOf] using this
      · simp; exact e3 q q2 q3
    · simp; exact e2 q q2
  · simp; exact e1 q
theorem fmod_nat (a b : Nat) : (a : Int).fmod (b : Int) = ((a % b : Nat) : Int) := by
  rw [Int.fmod_eq_emod_of_nonneg _ (by omega), Int.natCast_emod]
theorem fdiv_nat (a b : Nat) : (a : Int).fdiv (b : Int) = ((a / b : Nat) : Int) := by
  rw [Int.fdiv_eq_ediv_of_nonneg _ (by omega), Int.natCast_ediv]
theorem w_root_part : W b_root_part [false] r_root_part 2 := by
  rintro ds ts as Pn Pe ha ⟨l, rfl, rfl, hn, hl, hp⟩
  simp at ha
  subst ha
  unfold b_root_part
  simp [Lim_eq]
  refine ⟨⟨by omega, by omega⟩, ?_⟩
  obtain ⟨s, hs⟩ := lp_ex hn
  have hp := hp s hs
  let p : D → Bool := fun d => decide (l.length % (intOf d).toNat = 0) && decide (rep (l.length / (intOf d).toNat) (l.take (intOf d).toNat) = l)
  let f : D → D := fun d => wd (l.take (intOf d).toNat)
  have pj : ∀ j : Nat, (p (.int (j : Nat)) = true ↔ (l.length % j = 0 ∧ rep (l.length / j) (l.take j) = l)) := fun j => by
    show (decide (l.length % ((j : Nat) : Int).toNat = 0) && decide (rep (l.length / ((j : Nat) : Int).toNat) (l.take ((j : Nat) : Int).toNat) = l)) = true ↔ _
    rw [Int.toNat_natCast, Bool.and_eq_true, decide_eq_true_eq, decide_eq_true_eq]
  refine cmpF p f (by simp) (by rw [rng_len, Lim_eq]; omega) (fun i d K1 K2 hd k1 k2 => ?_) ?_
  · obtain ⟨hi, rfl⟩ := rng_at hd
    have ej : (1 : Int) + (i : Int) = ((i + 1 : Nat) : Int) := by omega
    rw [ej] at k1 k2 ⊢
    generalize hj : i + 1 = j at k1 k2
    have j1 : 1 ≤ j := by omega
    have j2 : j ≤ l.length := by omega
    have d1 : 1 ≤ l.length / j := Nat.div_pos j2 j1
    have d2 : l.length / j ≤ l.length := Nat.div_le_self _ _
    simp
    rw [fmod_nat, fdiv_nat]
    refine ⟨by omega, ?_⟩
    refine condK_dec (fun h => ?_) (fun h => ?_)
    · rw [cutD_take (by omega)]
      simp only [Int.toNat_natCast, ← List.map_take]
      refine ⟨⟨by omega, by omega⟩, ⟨by omega, by omega, by simp; omega⟩, ?_⟩
      rw [flat_wd]
      simp
      refine condK_dec (fun h2 => ?_) (fun h2 => ?_)
      · have := k1 ((pj j).mpr ⟨by omega, h2⟩) [some (T.val (wd l)), some (T.val (D.int (l.length : Nat))), some (T.val (D.int (j : Nat)))] rfl
        have e2 : f (.int (j : Nat)) = D.tup ((l.map D.int).take j) := by
          show wd (l.take ((j : Nat) : Int).toNat) = _
          rw [Int.toNat_natCast, ← List.map_take]
        rw [e2] at this
        exact this
      · refine k2 ?_ _ rfl
        cases e : p (.int (j : Nat)) with
        | false => rfl
        | true => exact absurd ((pj j).mp e).2 h2
    · refine k2 ?_ _ rfl
      cases e : p (.int (j : Nat)) with
      | false => rfl
      | true => exact absurd (by have := ((pj j).mp e).1; omega) h
  · obtain ⟨⟨h1, h2, h3⟩, h4⟩ := id hs
    have hd : ((rng 1 l.length).filter p).head? = some (.int (s : Nat)) := by
      rw [List.head?_filter, List.find?_eq_some_iff_getElem]
      refine ⟨?_, s - 1, by rw [rng_len]; omega, ?_, fun j hj => ?_⟩
      · exact (pj s).mpr ⟨Nat.mod_eq_zero_of_dvd (lp_dvd hs), lp_rep hs⟩
      · simp [rng]; omega
      · have : (rng 1 l.length)[j]'(by rw [rng_len]; omega) = .int ((j + 1 : Nat) : Int) := by simp [rng]; omega
        rw [this]
        cases e : p (.int ((j + 1 : Nat) : Int)) with
        | false => rfl
        | true =>
          have := h4 (j + 1) (by omega) (by omega) (per_of_rep (by omega) (by omega) ((pj (j + 1)).mp e).2)
          omega
    obtain ⟨r, hr⟩ : ∃ r, (rng 1 l.length).filter p = .int (s : Nat) :: r := by
      cases e : (rng 1 l.length).filter p with
      | nil => rw [e] at hd; cases hd
      | cons a r => rw [e] at hd; simp at hd; exact ⟨r, by rw [hd]⟩
    rw [hr]
    simp
    have : L2.atI (f (D.int (s : Nat)) :: r.map f) 0 = some (wd (l.take s)) := by
      unfold L2.atI L2.ixN
      rw [if_pos (by decide), if_pos (by simp)]
      simp [f, intOf]
    rw [this]
    simp
    exact hp
theorem w_root_of : W b_root_of [false, false] r_root_of 1 := by
  rintro ds ts as Pn Pe ha ⟨z, t, rfl, rfl, h1, h2, h3, e1, e2, hp⟩
  simp at ha
  subst ha
  unfold b_root_of
  simp
  refine call0_of ⟨z, rfl, rfl, h1, fun q => ?_, fun q => ?_⟩
  · obtain ⟨s, rfl, s1, s2⟩ := betw_sz q
    simp
    refine call0_of ⟨s, t, rfl, rfl, s1, s2, h2, h3, fun q2 => ?_, fun q2 => ?_⟩
    · obtain ⟨l, rfl, l1, l2, l3, l4, l5⟩ := isRd_rd q2
      simp
      refine call0_of ⟨l, rfl, rfl, l5, by omega, fun u hu => ?_⟩
      have := hp q q2 u (by rw [l3]; exact hu)
      rw [l3] at this
      obtain ⟨⟨u1, u2, u3⟩, u4⟩ := hu
      have ht : (l.take u).length = u := by rw [List.length_take]; omega
      simp [Lim_eq]
      refine ⟨⟨⟨by omega, l5⟩, by omega⟩, ?_⟩
      rw [show min u l.length = u by omega, fdiv_nat]
      exact this
    · simp; exact e2 q q2
  · simp; exact e1 q
theorem eqD_ints {a b : List Int} : eqD (wd a) (wd b) = decide (a = b) := eqD_it (by simp [D.it, itL_ints]) (by simp [D.it, itL_ints]) tup_inj_ints
theorem w_along : W b_along [false, false, false] r_along 2 := by
  rintro ds ts as Pn Pe ha ⟨z, a, b, rfl, rfl, h1, h2, h3, h4, e1, e2, e3, hp⟩
  simp at ha
  subst ha
  unfold b_along
  simp
  refine call0_of ⟨z, rfl, rfl, h1, fun q => ?_, fun q => ?_⟩
  · obtain ⟨s, rfl, s1, s2⟩ := betw_sz q
    simp
    refine call0_of ⟨s, a, rfl, rfl, s1, s2, h2, h3, fun q2 => ?_, fun q2 => ?_⟩
    · obtain ⟨k1, k2⟩ := h4 q q2
      simp
      refine call0_of ⟨s, b, rfl, rfl, s1, s2, k1, k2, fun q3 => ?_, fun q3 => ?_⟩
      · obtain ⟨l, rfl, l1, l2, l3, l4, l5⟩ := isRd_rd q2
        obtain ⟨m, rfl, m1, m2, m3, m4, m5⟩ := isRd_rd q3
        simp
        refine call0_of ⟨l, rfl, rfl, l5, by omega, fun u hu => ?_⟩
        simp
        refine call0_of ⟨m, rfl, rfl, m5, by omega, fun v hv => ?_⟩
        have := hp q q2 q3 u v (by rw [l3]; exact hu) (by rw [m3]; exact hv)
        rw [l3, m3] at this
        simp
        refine call0_of ⟨l.take u, _, .inl rfl, rfl, rfl, by rw [List.length_take]; omega, ?_⟩
        simp
        refine call0_of ⟨und (l.take u), rfl, rfl, by rw [und_len, List.length_take]; omega, ?_⟩
        simp [Lim_eq]
        refine ⟨⟨by rw [pl_tup]; exact plL_ints _ _, by simp only [D.pl, D.plL, plL_ints, Bool.and_self]⟩, ?_⟩
        rw [eqD_ints, eqD_ints, ← Bool.decide_or]
        have e : (l.take u = m.take v ∨ rnd (und (l.take u)) = m.take v) ↔ (m.take v = l.take u ∨ m.take v = rnd (und (l.take u))) := or_congr eq_comm eq_comm
        rw [decide_eq_decide.mpr e]
        exact this
      · simp; exact e3 q q2 q3
    · simp; exact e2 q q2
  · simp; exact e1 q
end LW
set_option Elab.async false
set_option linter.all false
set_option maxRecDepth 100000
/-! law k03: what the law's own defs tell, in plain words -/
namespace LW
open PySem PySem.Spec PyProof.Rows FW WM
def r__law_freed : Rn := r_freed
def r__law_back : Rn := r_undone_word
def r__law_least_turn : Rn := r_least_turn
def r__law_row : Rn := fun ds ts Pn _ => ∃ s m t, ds = [.int s, .int m] ∧ ts = [t] ∧ 2 ≤ s ∧ s ≤ 4 ∧ 0 ≤ m ∧ m ≤ 201 ∧ Drw t ∧ ∀ l t', Lt s l → (l.length : Int) = m → Drw t' → Pn (.val (wd l)) [t']
def r__law_free_row : Rn := r__law_row
def r__law_odd_size : Rn := fun ds ts Pn _ => ∃ t, ds = [] ∧ ts = [t] ∧ Drw t ∧ ∀ z t', ins z = true → betw z 2 4 = false → Drw t' → Pn (.val z) [t']
def r__law_led_about : Rn := fun ds ts Pn _ => ∃ s l t, ds = [.int s, wd l] ∧ ts = [t] ∧ 2 ≤ s ∧ s ≤ 4 ∧ l.length ≤ 200 ∧ Lt s l ∧ Drw t ∧ ∀ l' t', Lt s l' → l'.length ≤ 200 → rnd l' = rnd l → Drw t' → Pn (.val (wd l')) [t']
def r__law_are_one : Rn := fun ds ts Pn _ => ∃ a b, ds = [wd a, wd b] ∧ ts = [] ∧ a.length ≤ 1000 ∧ b.length ≤ 1000 ∧ Pn (.val (.bl (decide (rnd a = rnd b)))) []
def r__law_near : Rn := fun ds ts Pn _ => ∃ s l t, ds = [.int s, wd l] ∧ ts = [t] ∧ 2 ≤ s ∧ s ≤ 4 ∧ l.length ≤ 200 ∧ Lt s l ∧ Drw t ∧ ∀ l' t', Lt s l' → l'.length ≤ 200 → Drw t' → Pn (.val (wd l')) [t']
/-- a round of that size, of at most 200 letters -/
def Lp (s : Int) (l : List Int) : Prop := Rd l ∧ l ≠ [] ∧ Lt s l ∧ l.length ≤ 200
def r__law_none : Rn := fun ds ts Pn _ => ∃ s l t, ds = [.int s, wd l] ∧ ts = [t] ∧ 2 ≤ s ∧ s ≤ 4 ∧ Lp s l ∧ Drw t ∧ ∀ xs t', xs ≠ [] → xs.length ≤ 100 → (∀ d ∈ xs, ins d = true ∧ ins1 d = true ∧ isRd s d = false) → Drw t' → Pn (.lst (vals xs)) [t']
def r__law_round_right : Rn := fun ds ts Pn _ => ∃ s l t, ds = [.int s, wd l] ∧ ts = [t] ∧ 2 ≤ s ∧ s ≤ 4 ∧ Lp s l ∧ Drw t ∧ ∀ t', Drw t' → Pn (.val (.bl true)) [t']
def r__law_go_along : Rn := fun ds ts Pn _ => ∃ a b, ds = [wd a, wd b] ∧ ts = [] ∧ a.length ≤ 1000 ∧ b.length ≤ 1000 ∧ a ≠ [] ∧ ∀ r : Bool, (b ≠ [] → ∀ s u, LP a s → LP b u → r = decide (a.take s = b.take u ∨ a.take s = rnd (und (b.take u)))) → Pn (.val (.bl r)) []
def r__law_refused : Rn := fun ds ts Pn _ => ∃ s l t, ds = [.int s, wd l] ∧ ts = [t] ∧ 2 ≤ s ∧ s ≤ 4 ∧ Lp s l ∧ Drw t ∧ ∀ t', Drw t' → Pn (.val (.bl true)) [t']
def r_law : Rn := fun ds ts Pn _ => ∃ ns, ds = [.scr ns] ∧ ts = [] ∧ ns.length ≤ 63 ∧ Pn (.val (.bl true)) []
end LW
set_option Elab.async false
set_option linter.all false
set_option maxRecDepth 100000
namespace LW
open PySem PySem.Spec PyProof.Rows FW WM
def nts : List Str := (["BadSize", "BadWord", "BadRound", "BadNumber"] : List Str)
def isxT (c : Str) : List (Str × Bool) := nts.map fun x => (x, decide (x = c))
def c__law_freed : Con := { io := [false], gd := false, kws := [], run := r__law_freed }
def c__law_back : Con := { io := [false], gd := false, kws := [], run := r__law_back }
def c__law_least_turn : Con := { io := [false], gd := false, kws := [], run := r__law_least_turn }
def c__law_row : Con := { io := [true, false, false], gd := false, kws := [], run := r__law_row }
def c__law_free_row : Con := { io := [true, false, false], gd := false, kws := [], run := r__law_free_row }
def c__law_odd_size : Con := { io := [true], gd := false, kws := [], run := r__law_odd_size }
def c__law_led_about : Con := { io := [true, false, false], gd := false, kws := [], run := r__law_led_about }
def c__law_are_one : Con := { io := [false, false], gd := false, kws := [], run := r__law_are_one }
def c__law_near : Con := { io := [true, false, false], gd := false, kws := [], run := r__law_near }
def c__law_none : Con := { io := [true, false, false], gd := false, kws := [], run := r__law_none }
def c__law_round_right : Con := { io := [true, false, false], gd := true, kws := [], run := r__law_round_right }
def c__law_go_along : Con := { io := [false, false], gd := false, kws := [], run := r__law_go_along }
def c__law_refused : Con := { io := [true, false, false], gd := false, kws := [], run := r__law_refused }
def c_law : Con := { io := [false], gd := true, kws := [], run := r_law }
def b__law_freed : I :=
  (.scons (.asg 1 (.lst .anil))
  (.scons (.forS (.gname 2) (.iseq (.var 0)) (.scons (.ife (.tand (.tcmp .ne (.var 1) (.lst .anil)) (.tcmp .eq (.op2 .idx (.var 1) (.op1 .neg (.con (.int 1)))) (.op2 .xor (.var 2) (.con (.int 1))))) (.scons (.expr (.pop 1))
  .snil) (.scons (.app 1 (.var 2))
  .snil))
  .snil))
  (.scons (.ret (.blt .tupl (.acons (.var 1) .anil)))
  .snil)))
def b__law_back : I :=
  (.scons (.ret (.blt .tupl (.acons (.comp (.gname 1) (.iseq (.revs (.var 0))) .tt (.op2 .xor (.var 1) (.con (.int 1)))) .anil)))
  .snil)
def b__law_least_turn : I :=
  (.scons (.asg 1 (.blt .list (.acons (.call "_law_freed" c__law_freed (.acons (.var 0) .anil)) .anil)))
  (.scons (.whileS (.tand (.tcmp .gt (.blt .len (.acons (.var 1) .anil)) (.con (.int 1))) (.tcmp .eq (.op2 .idx (.var 1) (.con (.int 0))) (.op2 .xor (.op2 .idx (.var 1) (.op1 .neg (.con (.int 1)))) (.con (.int 1))))) (.scons (.asg 1 (.slc (.var 1) (.osome (.con (.int 1))) (.osome (.op1 .neg (.con (.int 1))))))
  .snil))
  (.scons (.ret (.ite (.tcmp .ne (.var 1) (.lst .anil)) (.blt .minL (.acons (.comp (.gname 2) (.irng1 (.blt .len (.acons (.var 1) .anil))) .tt (.blt .tupl (.acons (.op2 .add (.slc (.var 1) (.osome (.var 2)) .onone) (.slc (.var 1) .onone (.osome (.var 2)))) .anil))) .anil)) (.tup .anil)))
  .snil)))
def b__law_row : I :=
  (.scons (.ret (.blt .tupl (.acons (.comp (.gname 3) (.irng1 (.var 2)) .tt (.call "_law_take" c__law_take (.aref 0 (.acons (.op2 .mul (.con (.int 2)) (.var 1)) .anil)))) .anil)))
  .snil)
def b__law_free_row : I :=
  (.scons (.asg 3 (.lst .anil))
  (.scons (.forS (.gname 4) (.irng1 (.var 2)) (.scons (.app 3 (.call "_law_pick" c__law_pick (.aref 0 (.acons (.comp (.gname 5) (.irng1 (.op2 .mul (.con (.int 2)) (.var 1))) (.tor (.tcmp .eq (.var 3) (.lst .anil)) (.tcmp .ne (.var 5) (.op2 .xor (.op2 .idx (.var 3) (.op1 .neg (.con (.int 1)))) (.con (.int 1))))) (.var 5)) .anil))))
  .snil))
  (.scons (.ret (.blt .tupl (.acons (.var 3) .anil)))
  .snil)))
def b__law_odd_size : I :=
  (.scons (.ret (.call "_law_pick" c__law_pick (.aref 0 (.acons (.lst (.acons (.con (.int 0)) (.acons (.con (.int 1)) (.acons (.con (.int 5)) (.acons (.op1 .neg (.con (.int 2))) (.acons (.con .non) (.acons (.con (.bl true)) (.acons (.con (.str "2")) (.acons (.tup (.acons (.con (.int 2)) .anil)) (.acons (.lst (.acons (.con (.int 3)) .anil)) .anil)))))))))) .anil))))
  .snil)
def b__law_led_about : I :=
  (.scons (.par [5, 6] (.acons (.call "_law_take" c__law_take (.aref 0 (.acons (.op2 .add (.blt .len (.acons (.var 2) .anil)) (.con (.int 1))) .anil))) (.acons (.call "_law_row" c__law_row (.aref 0 (.acons (.var 1) (.acons (.call "_law_take" c__law_take (.aref 0 (.acons (.con (.int 6)) .anil))) .anil)))) .anil)))
  (.scons (.asg 3 (.blt .list (.acons (.op2 .add (.op2 .add (.op2 .add (.var 6) (.slc (.var 2) (.osome (.var 5)) .onone)) (.slc (.var 2) .onone (.osome (.var 5)))) (.call "_law_back" c__law_back (.acons (.var 6) .anil))) .anil)))
  (.scons (.forS (.gname 4) (.irng1 (.call "_law_take" c__law_take (.aref 0 (.acons (.con (.int 8)) .anil)))) (.scons (.par [5, 7] (.acons (.call "_law_take" c__law_take (.aref 0 (.acons (.op2 .add (.blt .len (.acons (.var 3) .anil)) (.con (.int 1))) .anil))) (.acons (.call "_law_take" c__law_take (.aref 0 (.acons (.op2 .mul (.con (.int 2)) (.var 1)) .anil))) .anil)))
  (.scons (.asg 3 (.op2 .add (.op2 .add (.slc (.var 3) .onone (.osome (.var 5))) (.lst (.acons (.var 7) (.acons (.op2 .xor (.var 7) (.con (.int 1))) .anil)))) (.slc (.var 3) (.osome (.var 5)) .onone)))
  .snil)))
  (.scons (.ret (.ite (.tcmp .le (.blt .len (.acons (.var 3) .anil)) (.con (.int 200))) (.blt .tupl (.acons (.var 3) .anil)) (.var 2)))
  .snil))))
def b__law_are_one : I :=
  (.scons (.asg 2 (.lst .anil))
  (.scons (.forS (.gname 3) (.iseq (.lst (.acons (.var 0) (.acons (.var 1) .anil)))) (.scons (.asg 4 (.call "_law_freed" c__law_freed (.acons (.var 3) .anil)))
  (.scons (.whileS (.tand (.tcmp .gt (.blt .len (.acons (.var 4) .anil)) (.con (.int 1))) (.tcmp .eq (.op2 .idx (.var 4) (.con (.int 0))) (.op2 .xor (.op2 .idx (.var 4) (.op1 .neg (.con (.int 1)))) (.con (.int 1))))) (.scons (.asg 4 (.slc (.var 4) (.osome (.con (.int 1))) (.osome (.op1 .neg (.con (.int 1))))))
  .snil))
  (.scons (.app 2 (.var 4))
  .snil))))
  (.scons (.ret (.andv (.op2 .eq (.blt .len (.acons (.op2 .idx (.var 2) (.con (.int 0))) .anil)) (.blt .len (.acons (.op2 .idx (.var 2) (.con (.int 1))) .anil))) (.orv (.op2 .eq (.op2 .idx (.var 2) (.con (.int 0))) (.tup .anil)) (.op2 .ne (.comp (.gname 5) (.irng1 (.blt .len (.acons (.op2 .idx (.var 2) (.con (.int 0))) .anil))) (.tcmp .eq (.op2 .add (.slc (.op2 .idx (.var 2) (.con (.int 0))) (.osome (.var 5)) .onone) (.slc (.op2 .idx (.var 2) (.con (.int 0))) .onone (.osome (.var 5)))) (.op2 .idx (.var 2) (.con (.int 1)))) (.con (.int 1))) (.lst .anil)))))
  .snil)))
def b__law_near : I :=
  (.scons (.par [4, 5] (.acons (.blt .list (.acons (.var 2) .anil)) (.acons (.call "_law_take" c__law_take (.aref 0 (.acons (.blt .max2 (.acons (.con (.int 1)) (.acons (.blt .len (.acons (.var 2) .anil)) .anil))) .anil))) .anil)))
  (.scons (.asg 3 (.call "_law_take" c__law_take (.aref 0 (.acons (.con (.int 3)) .anil))))
  (.scons (.ife (.tor (.tcmp .eq (.var 4) (.lst .anil)) (.tcmp .eq (.var 3) (.con (.int 0)))) (.scons (.ret (.ite (.tcmp .lt (.blt .len (.acons (.var 2) .anil)) (.con (.int 200))) (.op2 .add (.var 2) (.tup (.acons (.call "_law_take" c__law_take (.aref 0 (.acons (.op2 .mul (.con (.int 2)) (.var 1)) .anil))) .anil))) (.var 2)))
  .snil) .snil)
  (.scons (.ife (.tcmp .eq (.var 3) (.con (.int 1))) (.scons (.setS 4 (.var 5) (.call "_law_take" c__law_take (.aref 0 (.acons (.op2 .mul (.con (.int 2)) (.var 1)) .anil))))
  .snil) (.scons (.swapS 4 (.tup (.acons (.op2 .idx (.var 4) (.op1 .neg (.con (.int 1)))) (.acons (.op2 .idx (.var 4) (.var 5)) .anil))) (.var 5) (.op1 .neg (.con (.int 1))))
  .snil))
  (.scons (.ret (.blt .tupl (.acons (.var 4) .anil)))
  .snil)))))
def b__law_none : I :=
  (.scons (.asg 3 (.lst (.acons (.blt .list (.acons (.var 2) .anil)) (.acons (.con .non) (.acons (.con (.int 5)) (.acons (.tup .anil) (.acons (.tup (.acons (.op2 .mul (.con (.int 2)) (.var 1)) .anil)) (.acons (.tup (.acons (.con (.int 0)) (.acons (.con (.int 1)) .anil))) (.acons (.tup (.acons (.con (.bl true)) .anil)) (.acons (.tup (.acons (.con (.int 2)) (.acons (.con (.int 0)) .anil))) (.acons (.tup (.acons (.con (.str "0")) .anil)) (.acons (.tup (.acons (.con (.int 0)) (.acons (.con (.int 2)) (.acons (.con (.int 1)) .anil)))) (.acons (.op2 .mul (.tup (.acons (.con (.int 0)) .anil)) (.con (.int 201))) (.acons (.tup (.acons (.con (.int 2)) (.acons (.con (.int 2)) (.acons (.con (.int 0)) .anil)))) (.acons (.tup (.acons (.op1 .neg (.con (.int 2))) .anil)) .anil)))))))))))))))
  (.scons (.asg 4 (.comp (.gname 5) (.irng1 (.blt .len (.acons (.var 2) .anil))) (.tcmp .ne (.op2 .add (.slc (.var 2) (.osome (.var 5)) .onone) (.slc (.var 2) .onone (.osome (.var 5)))) (.var 2)) (.op2 .add (.slc (.var 2) (.osome (.var 5)) .onone) (.slc (.var 2) .onone (.osome (.var 5))))))
  (.scons (.ret (.op2 .add (.var 3) (.ite (.tcmp .ne (.var 4) (.lst .anil)) (.lst (.acons (.call "_law_pick" c__law_pick (.aref 0 (.acons (.var 4) .anil))) .anil)) (.lst .anil))))
  .snil)))
def b__law_round_right : I :=
  (.scons (.par [4, 5] (.acons (.call "_law_least_turn" c__law_least_turn (.acons (.call "_law_back" c__law_back (.acons (.var 2) .anil)) .anil)) (.acons (.call "_law_pick" c__law_pick (.aref 0 (.acons (.lst (.acons (.con (.int 1)) (.acons (.con (.int 2)) (.acons (.con (.int 3)) (.acons (.con (.int 60)) .anil))))) .anil))) .anil)))
  (.scons (.ife (.tor (.tcmp .notB (.call "is_round" c_is_round (.acons (.var 1) (.acons (.var 2) .anil))) (.con (.bl true))) (.tor (.tcmp .notB (.callK "is_round" c_is_round (.acons (.var 2) (.acons (.var 1) .anil)) ["thing", "size"] [1, 0]) (.con (.bl true))) (.tcmp .eq (.var 4) (.var 2)))) (.scons (.ret (.con (.bl false)))
  .snil) .snil)
  (.scons (.ife (.tcmp .ne (.blt .repr (.acons (.lst (.acons (.call "turned_about" c_turned_about (.acons (.var 1) (.acons (.var 2) .anil))) (.acons (.callK "turned_about" c_turned_about (.acons (.var 2) (.acons (.var 1) .anil)) ["loop", "size"] [1, 0]) .anil))) .anil)) (.blt .repr (.acons (.lst (.acons (.var 4) (.acons (.var 4) .anil))) .anil))) (.scons (.ret (.con (.bl false)))
  .snil) .snil)
  (.scons (.ife (.tcmp .ne (.blt .repr (.acons (.lst (.acons (.call "gone" c_gone (.acons (.var 1) (.acons (.var 2) (.acons (.var 5) .anil)))) (.acons (.callK "gone" c_gone (.acons (.var 5) (.acons (.var 2) (.acons (.var 1) .anil))) ["times", "loop", "size"] [2, 1, 0]) .anil))) .anil)) (.blt .repr (.acons (.op2 .mul (.lst (.acons (.op2 .mul (.var 2) (.var 5)) .anil)) (.con (.int 2))) .anil))) (.scons (.ret (.con (.bl false)))
  .snil) .snil)
  (.scons (.asg 3 (.blt .minL (.acons (.comp (.gname 3) (.irng2 (.con (.int 1)) (.op2 .add (.blt .len (.acons (.var 2) .anil)) (.con (.int 1)))) (.tcmp .eq (.op2 .add (.slc (.var 2) (.osome (.var 3)) .onone) (.slc (.var 2) .onone (.osome (.var 3)))) (.var 2)) (.var 3)) .anil)))
  (.scons (.ife (.tcmp .ne (.blt .repr (.acons (.lst (.acons (.call "root_of" c_root_of (.acons (.var 1) (.acons (.var 2) .anil))) (.acons (.callK "root_of" c_root_of (.acons (.var 2) (.acons (.var 1) .anil)) ["loop", "size"] [1, 0]) .anil))) .anil)) (.blt .repr (.acons (.op2 .mul (.lst (.acons (.tup (.acons (.slc (.var 2) .onone (.osome (.var 3))) (.acons (.op2 .fdiv (.blt .len (.acons (.var 2) .anil)) (.var 3)) .anil))) .anil)) (.con (.int 2))) .anil))) (.scons (.ret (.con (.bl false)))
  .snil) .snil)
  (.scons (.ife (.tcmp .ne (.op2 .idx (.call "root_of" c_root_of (.acons (.var 1) (.acons (.var 4) .anil))) (.con (.int 1))) (.op2 .fdiv (.blt .len (.acons (.var 2) .anil)) (.var 3))) (.scons (.ret (.con (.bl false)))
  .snil) .snil)
  (.scons (.par [6, 7] (.acons (.op2 .mul (.slc (.var 2) .onone (.osome (.var 3))) (.call "_law_pick" c__law_pick (.aref 0 (.acons (.lst (.acons (.con (.int 1)) (.acons (.con (.int 2)) (.acons (.con (.int 5)) .anil)))) .anil)))) (.acons (.call "_law_least_turn" c__law_least_turn (.acons (.call "_law_free_row" c__law_free_row (.aref 0 (.acons (.var 1) (.acons (.op2 .add (.con (.int 1)) (.call "_law_take" c__law_take (.aref 0 (.acons (.con (.int 4)) .anil)))) .anil)))) .anil)) .anil)))
  (.scons (.forS (.gtup [8, 9]) (.iseq (.lst (.acons (.tup (.acons (.var 4) (.acons (.con (.bl true)) .anil))) (.acons (.tup (.acons (.var 6) (.acons (.con (.bl true)) .anil))) (.acons (.tup (.acons (.var 7) (.acons (.call "_law_go_along" c__law_go_along (.acons (.var 2) (.acons (.var 7) .anil))) .anil))) .anil))))) (.scons (.ife (.tand (.tcmp .ne (.var 8) (.tup .anil)) (.tand (.tcmp .le (.blt .len (.acons (.var 8) .anil)) (.con (.int 200))) (.tnot (.tval (.call "_law_is_truth" c__law_is_truth (.acons (.call "along" c_along (.acons (.var 1) (.acons (.var 2) (.acons (.var 8) .anil)))) (.acons (.var 9) .anil))))))) (.scons (.ret (.con (.bl false)))
  .snil) .snil)
  (.scons (.ife (.tand (.tcmp .ne (.var 8) (.tup .anil)) (.tand (.tcmp .le (.blt .len (.acons (.var 8) .anil)) (.con (.int 200))) (.tnot (.tval (.call "_law_is_truth" c__law_is_truth (.acons (.callK "along" c_along (.acons (.var 2) (.acons (.var 8) (.acons (.var 1) .anil))) ["other", "one", "size"] [2, 1, 0]) (.acons (.var 9) .anil))))))) (.scons (.ret (.con (.bl false)))
  .snil) .snil)
  .snil)))
  (.scons (.ret (.con (.bl true)))
  .snil))))))))))
def b__law_go_along : I :=
  (.scons (.asg 2 (.lst .anil))
  (.scons (.forS (.gname 3) (.iseq (.lst (.acons (.var 0) (.acons (.var 1) .anil)))) (.scons (.asg 4 (.ite (.tcmp .ne (.var 3) (.tup .anil)) (.blt .minL (.acons (.comp (.gname 4) (.irng2 (.con (.int 1)) (.op2 .add (.blt .len (.acons (.var 3) .anil)) (.con (.int 1)))) (.tcmp .eq (.op2 .add (.slc (.var 3) (.osome (.var 4)) .onone) (.slc (.var 3) .onone (.osome (.var 4)))) (.var 3)) (.var 4)) .anil)) (.con (.int 0))))
  (.scons (.app 2 (.slc (.var 3) .onone (.osome (.var 4))))
  .snil)))
  (.scons (.ret (.orv (.op2 .eq (.op2 .idx (.var 2) (.con (.int 0))) (.op2 .idx (.var 2) (.con (.int 1)))) (.op2 .eq (.op2 .idx (.var 2) (.con (.int 0))) (.call "_law_least_turn" c__law_least_turn (.acons (.call "_law_back" c__law_back (.acons (.op2 .idx (.var 2) (.con (.int 1))) .anil)) .anil)))))
  .snil)))
def lb__law_refused_0 : I := (.call "round_of" c_round_of (.acons (.var 6) (.acons (.con .non) .anil)))
def lb__law_refused_1 : I := (.call "is_round" c_is_round (.acons (.var 6) (.acons (.con .non) .anil)))
def lb__law_refused_2 : I := (.call "turned_about" c_turned_about (.acons (.var 6) (.acons (.var 7) .anil)))
def lb__law_refused_3 : I := (.call "gone" c_gone (.acons (.var 6) (.acons (.var 7) (.acons (.var 3) .anil))))
def lb__law_refused_4 : I := (.call "root_of" c_root_of (.acons (.var 6) (.acons (.var 7) .anil)))
def lb__law_refused_5 : I := (.call "along" c_along (.acons (.var 6) (.acons (.var 7) (.acons (.var 7) .anil))))
def lb__law_refused_6 : I := (.call "turned_about" c_turned_about (.acons (.var 1) (.acons (.var 7) .anil)))
def lb__law_refused_7 : I := (.call "gone" c_gone (.acons (.var 1) (.acons (.var 7) (.acons (.var 3) .anil))))
def lb__law_refused_8 : I := (.call "root_of" c_root_of (.acons (.var 1) (.acons (.var 7) .anil)))
def lb__law_refused_9 : I := (.call "along" c_along (.acons (.var 1) (.acons (.var 7) (.acons (.var 7) .anil))))
def lb__law_refused_10 : I := (.call "along" c_along (.acons (.var 1) (.acons (.var 2) (.acons (.var 7) .anil))))
def tb__law_refused : I := (.acons lb__law_refused_0 (.acons lb__law_refused_1 (.acons lb__law_refused_2 (.acons lb__law_refused_3 (.acons lb__law_refused_4 (.acons lb__law_refused_5 (.acons lb__law_refused_6 (.acons lb__law_refused_7 (.acons lb__law_refused_8 (.acons lb__law_refused_9 (.acons lb__law_refused_10 .anil)))))))))))
def bod__law_refused (n : Nat) : I := ([lb__law_refused_0, lb__law_refused_1, lb__law_refused_2, lb__law_refused_3, lb__law_refused_4, lb__law_refused_5, lb__law_refused_6, lb__law_refused_7, lb__law_refused_8, lb__law_refused_9, lb__law_refused_10] : List I).getD n .pass
def b__law_refused (cf : CF) : I :=
  (.scons (.par [6, 7] (.acons (.call "_law_odd_size" c__law_odd_size (.aref 0 .anil)) (.acons (.call "_law_pick" c__law_pick (.aref 0 (.acons (.call "_law_none" c__law_none (.aref 0 (.acons (.var 1) (.acons (.var 2) .anil)))) .anil))) .anil)))
  (.scons (.asg 3 (.call "_law_pick" c__law_pick (.aref 0 (.acons (.lst (.acons (.con (.int 0)) (.acons (.con (.int 61)) (.acons (.op1 .neg (.con (.int 1))) (.acons (.con .non) (.acons (.con (.bl true)) (.acons (.con (.str "1")) .anil))))))) .anil))))
  (.scons (.asg 4 (.lst (.acons (.lamV cf 0 lb__law_refused_0) (.acons (.lamV cf 1 lb__law_refused_1) (.acons (.lamV cf 2 lb__law_refused_2) (.acons (.lamV cf 3 lb__law_refused_3) .anil))))))
  (.scons (.asg 4 (.op2 .add (.var 4) (.lst (.acons (.lamV cf 4 lb__law_refused_4) (.acons (.lamV cf 5 lb__law_refused_5) .anil)))))
  (.scons (.ife (.tcmp .ne (.compW nts cf 4 8 "BadSize" (isxT "BadSize") tb__law_refused) (.lst .anil)) (.scons (.ret (.con (.bl false)))
  .snil) .snil)
  (.scons (.asg 4 (.lst (.acons (.lamV cf 6 lb__law_refused_6) (.acons (.lamV cf 7 lb__law_refused_7) (.acons (.lamV cf 8 lb__law_refused_8) (.acons (.lamV cf 9 lb__law_refused_9) .anil))))))
  (.scons (.app 4 (.lamV cf 10 lb__law_refused_10))
  (.scons (.ife (.tcmp .ne (.compW nts cf 4 8 "BadRound" (isxT "BadRound") tb__law_refused) (.lst .anil)) (.scons (.ret (.con (.bl false)))
  .snil) .snil)
  (.scons (.asg 5 (.caught nts (.call "gone" c_gone (.acons (.var 1) (.acons (.var 2) (.acons (.var 3) .anil))))))
  (.scons (.ife (.tor (.tnot (.tval (.isX "BadNumber" (isxT "BadNumber") (.var 5)))) (.tcmp .ne (.attrX [("BadNumber", "part")] (.var 5) "part") (.con (.str "times")))) (.scons (.ret (.con (.bl false)))
  .snil) .snil)
  (.scons (.ret (.isX "BadWord" (isxT "BadWord") (.caught nts (.call "round_of" c_round_of (.acons (.var 1) (.acons (.call "_law_pick" c__law_pick (.aref 0 (.acons (.lst (.acons (.lst (.acons (.con (.int 0)) .anil)) (.acons (.tup (.acons (.op2 .mul (.con (.int 2)) (.var 1)) .anil)) (.acons (.con .non) (.acons (.op2 .mul (.tup (.acons (.con (.int 0)) .anil)) (.con (.int 201))) .anil))))) .anil))) .anil))))))
  .snil)))))))))))
def b_law : I :=
  (.scons (.asg 1 (.call "_law_begun" c__law_begun (.acons (.var 0) .anil)))
  (.scons (.forS (.gname 2) (.irng1 (.op2 .add (.con (.int 2)) (.blt .min2 (.acons (.blt .len (.acons (.var 0) .anil)) (.acons (.con (.int 5)) .anil))))) (.scons (.par [6, 7] (.acons (.op2 .add (.con (.int 2)) (.call "_law_take" c__law_take (.aref 1 (.acons (.con (.int 3)) .anil)))) (.acons (.call "_law_pick" c__law_pick (.aref 1 (.acons (.lst (.acons (.call "_law_take" c__law_take (.aref 1 (.acons (.con (.int 5)) .anil))) (.acons (.call "_law_take" c__law_take (.aref 1 (.acons (.con (.int 12)) .anil))) (.acons (.call "_law_take" c__law_take (.aref 1 (.acons (.con (.int 40)) .anil))) (.acons (.con (.int 200)) .anil))))) .anil))) .anil)))
  (.scons (.asg 3 (.ite (.tcmp .gt (.call "_law_take" c__law_take (.aref 1 (.acons (.con (.int 3)) .anil))) (.con (.int 0))) (.call "_law_row" c__law_row (.aref 1 (.acons (.var 6) (.acons (.var 7) .anil)))) (.op2 .mul (.call "_law_free_row" c__law_free_row (.aref 1 (.acons (.var 6) (.acons (.op2 .fdiv (.var 7) (.con (.int 4))) .anil)))) (.con (.int 4)))))
  (.scons (.par [8, 9] (.acons (.call "_law_least_turn" c__law_least_turn (.acons (.var 3) .anil)) (.acons (.call "_law_led_about" c__law_led_about (.aref 1 (.acons (.var 6) (.acons (.var 3) .anil)))) .anil)))
  (.scons (.ife (.tor (.tcmp .ne (.blt .repr (.acons (.lst (.acons (.call "round_of" c_round_of (.acons (.var 6) (.acons (.var 3) .anil))) (.acons (.callK "round_of" c_round_of (.acons (.var 3) (.acons (.var 6) .anil)) ["word", "size"] [1, 0]) .anil))) .anil)) (.blt .repr (.acons (.lst (.acons (.var 8) (.acons (.var 8) .anil))) .anil))) (.tcmp .ne (.call "round_of" c_round_of (.acons (.var 6) (.acons (.var 9) .anil))) (.var 8))) (.scons (.ret (.con (.bl false)))
  .snil) .snil)
  (.scons (.forS (.gname 4) (.iseq (.lst (.acons (.call "_law_near" c__law_near (.aref 1 (.acons (.var 6) (.acons (.var 3) .anil)))) (.acons (.call "_law_near" c__law_near (.aref 1 (.acons (.var 6) (.acons (.var 9) .anil)))) .anil)))) (.scons (.ife (.tcmp .ne (.op2 .eq (.call "round_of" c_round_of (.acons (.var 6) (.acons (.var 4) .anil))) (.var 8)) (.call "_law_are_one" c__law_are_one (.acons (.var 3) (.acons (.var 4) .anil)))) (.scons (.ret (.con (.bl false)))
  .snil) .snil)
  .snil))
  (.scons (.asg 5 (.ite (.tcmp .ne (.var 8) (.tup .anil)) (.var 8) (.tup (.acons (.con (.int 0)) .anil))))
  (.scons (.ife (.tor (.tnot (.tval (.call "_law_round_right" c__law_round_right (.aref 1 (.acons (.var 6) (.acons (.var 5) .anil)))))) (.tnot (.tval (.call "_law_refused" c__law_refused (.aref 1 (.acons (.var 6) (.acons (.var 5) .anil))))))) (.scons (.ret (.con (.bl false)))
  .snil) .snil)
  (.scons (.ife (.tcmp .ne (.comp (.gname 10) (.iseq (.call "_law_none" c__law_none (.aref 1 (.acons (.var 6) (.acons (.var 5) .anil))))) (.tcmp .notB (.call "is_round" c_is_round (.acons (.var 6) (.acons (.var 10) .anil))) (.con (.bl false))) (.con (.int 1))) (.lst .anil)) (.scons (.ret (.con (.bl false)))
  .snil) .snil)
  .snil)))))))))
  (.scons (.ret (.con (.bl true)))
  .snil)))
end LW
set_option Elab.async false
set_option linter.all false
set_option maxRecDepth 100000
set_option maxHeartbeats 4000000
namespace LW
open PySem PySem.Spec PyProof.Rows FW WM
theorem w__law_freed : W b__law_freed [false] r__law_freed 2 := by
  rintro ds ts as Pn Pe ha ⟨l, t, ht, rfl, rfl, hl, hp⟩
  have hL := Lim_eq
  simp at ha
  subst ha
  have main : ∀ (t : D), (∀ f : List D → Prop, itK (some t) f = f (l.map .int)) → wpX b__law_freed [some (.val t), none, none] (outK [false] Pn (.val .non)) (PD [false] Pn Pe) := by
    intro t ht
    unfold b__law_freed
    simp [ht, Lim_eq]
    refine forL (fun n e => ∃ o, e = [some (.val t), some (.lst (vals ((frd (l.take n)).map .int))), o]) ⟨rfl, rfl⟩ ⟨none, rfl⟩ ?_ ?_ ?_
    · rintro n e ⟨o, rfl⟩; rfl
    · rintro n e d K ⟨o, rfl⟩ hd hK
      rw [List.getElem?_map, Option.map_eq_some_iff] at hd
      obtain ⟨x, hx, rfl⟩ := hd
      have hn := lt_of_at hx
      have hw : (frd (l.take n)).length ≤ 500000 := by have := frd_len (l.take n); rw [List.length_take] at this; omega
      have hs : frd (l.take (n + 1)) = stp (frd (l.take n)) x := by rw [take_snoc hx, frd_snoc]
      simp
      generalize hw' : frd (l.take n) = w at *
      refine condK_ndec (fun h => ?_) (fun h => ?_)
      · subst h
        simp [Lim_eq]
        refine hK _ ⟨some (.val (.int x)), ?_⟩
        rw [hs, stp_none (by simp)]
        rfl
      · obtain ⟨y, hy, e⟩ := last_idx h
        simp [e]
        refine condK_dec (fun h2 => ?_) (fun h2 => ?_)
        · subst h2
          have e2 := last_split hy
          rw [e2]
          simp
          refine hK _ ⟨some (.val (.int x)), ?_⟩
          rw [hs, stp_some hy]
          simp [List.map_dropLast]
        · refine ⟨by omega, hK _ ⟨some (.val (.int x)), ?_⟩⟩
          rw [hs, stp_none (by rw [hy]; simpa using h2)]
          simp
    · rintro e ⟨o, rfl⟩
      simp
      exact hp
  rcases ht with rfl | rfl
  · exact main _ (fun f => by simp)
  · exact main _ (fun f => by simp)
theorem w__law_back : W b__law_back [false] r__law_back 1 := by
  rintro ds ts as Pn Pe ha ⟨l, t, ht, rfl, rfl, hl, hp⟩
  have hL := Lim_eq
  simp at ha
  subst ha
  have fin : ∀ {e0 : Env'} {src : List FW.Tok}, (∀ i, FW.Tok.slot i ∉ src) → ∀ {Q : T → Env' → Prop}, Q (.lst (vals ((und l).map .int))) (clr e0 [1]) → 1 < e0.length → compK (.gname 1) .tt (.op2 .xor (.var 1) (.con (.int 1))) Q src ((l.map D.int).reverse) e0 := by
    intro e0 src hs Q q h1
    refine cmpM ((und l).map .int) (fun i hi => absurd hi (hs i)) (by simp [und]) (by simp; omega) (fun n d r K hd hr hK => ?_) q
    rw [← List.map_reverse, List.getElem?_map, Option.map_eq_some_iff] at hd
    obtain ⟨x, hx, rfl⟩ := hd
    unfold und at hr
    rw [← List.map_reverse, List.getElem?_map, List.getElem?_map, hx] at hr
    simp at hr
    subst hr
    obtain ⟨a, b, r, rfl⟩ : ∃ a b r, e0 = a :: b :: r := by
      cases e0 with
      | nil => simp at h1
      | cons a e0 => cases e0 with
        | nil => simp at h1
        | cons b r => exact ⟨a, b, r, rfl⟩
    simp
    exact hK _ (by simp)
  rcases ht with rfl | rfl <;> unfold b__law_back <;> simp <;> refine fin (fun i => by simp) ?_ (by simp) <;> simp <;> exact hp
theorem w__law_row : W b__law_row [true, false, false] r__law_row 1 := by
  rintro ds ts as Pn Pe ha ⟨s, m, t, rfl, rfl, s1, s2, m1, m2, hd, hp⟩
  simp at ha
  subst ha
  unfold b__law_row
  simp [Lim_eq]
  repeat with_reducible refine And.intro (by omega) ?_
  refine cmpS (fun e => ∃ t, Drw t ∧ e = [some t, some (.val (.int s)), some (.val (.int m)), none]) (fun n d => ∃ x, d = .int x ∧ 0 ≤ x ∧ x ≤ 2 * s - 1) (by exact ⟨t, hd, rfl⟩) ?_ (by rw [rng_len, Lim_eq]; omega) ?_ ?_
  · rintro e ⟨t, _, rfl⟩
    exact ⟨by simp [ItOk], by simp⟩
  · rintro n d e K ⟨t, hd, rfl⟩ _ k1
    simp
    refine call1_of ⟨_, _, rfl, rfl, hd, by omega, by omega, fun r t' r0 r1 hd' => ?_⟩
    simp
    exact k1 _ _ ⟨r, rfl, r0, by omega⟩ ⟨t', hd', rfl⟩
  · rintro ds e ⟨t, hd, rfl⟩ hl hr
    obtain ⟨l, rfl, h⟩ := ints_of (p := fun x => 0 ≤ x ∧ x ≤ 2 * s - 1) (all_at hr)
    simp
    exact hp l t h (by rw [rng_len] at hl; simp at hl; omega) hd
theorem w__law_free_row : W b__law_free_row [true, false, false] r__law_free_row 3 := by
  rintro ds ts as Pn Pe ha ⟨s, m, t, rfl, rfl, s1, s2, m1, m2, hd, hp⟩
  simp at ha
  subst ha
  unfold b__law_free_row
  simp [Lim_eq]
  repeat with_reducible refine And.intro (by omega) ?_
  refine forT (fun n e => ∃ (t : T) (l : List Int) (o : Option T), Drw t ∧ Lt s l ∧ l.length = n ∧ e = [some t, some (.val (.int s)), some (.val (.int m)), some (.lst (vals (l.map .int))), o, none]) noslot_nil ⟨t, [], none, hd, fun x hx => by simp at hx, rfl, rfl⟩ ?_ ?_
  · rintro n e d K ⟨t, l, o, hd, hl, rfl, rfl⟩ hx hK
    obtain ⟨hn, rfl⟩ := rng_at0 hx
    simp [Lim_eq]
    repeat with_reducible refine And.intro (by omega) ?_
    let p : D → Bool := fun d => decide (l = []) || !decide (intOf d = iv (l.getLast?.getD 0))
    refine cmpF p id (by simp) (by rw [rng_len, Lim_eq]; omega) (fun n d K1 K2 hx k1 k2 => ?_) ?_
    · obtain ⟨hn1, rfl⟩ := rng_at0 hx
      simp
      refine condK_dec (fun h => ?_) (fun h => ?_)
      · exact k1 (by simp [p, h]) _ (by simp)
      · obtain ⟨y, hy, e⟩ := last_idx h
        have e2 : l.getLast?.getD 0 = y := by rw [hy]; rfl
        simp [e]
        refine condK_ndec (fun q => ?_) (fun q => ?_)
        · exact k2 (by simp [p, h, e2, intOf, q]) _ (by simp)
        · exact k1 (by simp [p, h, e2, intOf, q]) _ (by simp)
    · have ne : ((rng 0 (2 * s).toNat).filter p).map id ≠ [] := by
        have m : ∀ j : Nat, j < (2 * s).toNat → D.int j ∈ rng 0 (2 * s).toNat := fun j hj => by
          unfold rng
          exact List.mem_map.mpr ⟨j, List.mem_range.mpr hj, by simp⟩
        have m0 := m 0 (by omega)
        have m1 := m 1 (by omega)
        intro e
        have e : (rng 0 (2 * s).toNat).filter p = [] := by simpa using e
        have z := fun d hd => (List.filter_eq_nil_iff.mp e) d hd
        have z0 := z _ m0
        have z1 := z _ m1
        simp [p, intOf] at z0 z1
        have z0 := of_decide_eq_true z0.2
        have z1 := of_decide_eq_true z1.2
        omega
      have al : ∀ d ∈ ((rng 0 (2 * s).toNat).filter p).map id, ∃ x, d = .int x ∧ 0 ≤ x ∧ x ≤ 2 * s - 1 := fun d hd => by
        simp at hd
        obtain ⟨j, hj⟩ := List.getElem?_of_mem hd.1
        obtain ⟨h1, rfl⟩ := rng_at0 hj
        exact ⟨_, rfl, by omega, by omega⟩
      have ln : (((rng 0 (2 * s).toNat).filter p).map id).length ≤ 100000 := by
        have := List.length_filter_le p (rng 0 (2 * s).toNat)
        rw [rng_len] at this
        simp; omega
      generalize ((rng 0 (2 * s).toNat).filter p).map id = cand at *
      simp
      refine call1_of ⟨cand, _, .inl rfl, rfl, ne, ln, hd, fun d t' hm hd' => ?_⟩
      obtain ⟨x, rfl, x0, x1⟩ := al d hm
      simp [Lim_eq]
      refine ⟨by omega, hK _ ⟨t', l ++ [x], some (.val (.int l.length)), hd', ?_, by simp, by simp⟩⟩
      intro y hy
      rcases List.mem_append.mp hy with h | h
      · exact hl y h
      · simp at h; subst h; exact ⟨x0, x1⟩
  · rintro e ⟨t, l, o, hd, hl, hn, rfl⟩
    simp
    exact hp l t hl (by rw [rng_len] at hn; omega) hd
theorem w__law_odd_size : W b__law_odd_size [true] r__law_odd_size 0 := by
  rintro ds ts as Pn Pe ha ⟨t, rfl, rfl, hd, hp⟩
  simp at ha
  subst ha
  unfold b__law_odd_size
  simp [Lim_eq]
  refine call1_of ⟨_, t, .inl rfl, rfl, by simp, by simp, hd, fun d t' hm hd' => ?_⟩
  simp at hm ⊢
  rcases hm with rfl | rfl | rfl | rfl | rfl | rfl | rfl | rfl | rfl <;> exact hp _ _ rfl rfl hd'
@[simp] theorem o_ne_ones {n : Nat} {P : T → Prop} : opS2 .ne (.lst (List.replicate n (D.int 1))) (.lst []) P = P (.val (.bl (!decide (n = 0)))) := by
  have e : List.replicate n (D.int 1) = (List.replicate n (1 : Int)).map D.int := by rw [List.map_replicate]
  rw [e, o_ne_intsl0]
  have : decide (List.replicate n (1 : Int) = []) = decide (n = 0) := by simp only [decide_eq_decide]; simp
  rw [this]
/-- a row cut at both ends, in a loop: a list of one's own -/
theorem w__law_least_turn : W b__law_least_turn [false] r__law_least_turn 2 := by
  rintro ds ts as Pn Pe ha ⟨l, rfl, rfl, hl, hp⟩
  simp at ha
  subst ha
  unfold b__law_least_turn
  show wpX _ [some (.val (wd l)), none, none] (outK [false] Pn (.val .non)) (PD [false] Pn Pe)
  refine S_seq fun K1 h1 => ?_
  simp
  refine call0_of ⟨l, _, .inl rfl, rfl, rfl, by omega, ?_⟩
  simp
  refine h1 _ ?_
  clear h1
  have hc := frd_len l
  have hw : frd l = nf l := frd_nf l
  generalize frd l = w at *
  refine S_seq fun K1 h1 => ?_
  simp
  suffices nxt : K1 [some (T.val (wd l)), some (T.lst (vals ((cyc w).map .int))), none] by
    refine whileI (fun m e => ∃ v, e = [some (T.val (wd l)), some (T.lst (vals (v.map .int))), none] ∧ cyc v = cyc w ∧ v.length ≤ w.length ∧ m = v.length) ⟨w, rfl, rfl, Nat.le_refl _, rfl⟩ ?_
    rintro m e K ⟨v, rfl, q3, q4, rfl⟩ hK
    simp
    refine condK_dec (fun h => ?_) (fun h => ?_)
    · have n : v ≠ [] := fun e => by rw [e] at h; simp at h
      obtain ⟨y, hy, ey⟩ := last_idx n
      have ex : L2.atI (v.map D.int) 0 = some (.int (v[0]'(by omega))) := atI_w (i := 0) (by omega)
      have hh : v.head? = some (v[0]'(by omega)) := by rw [List.head?_eq_getElem?, List.getElem?_eq_getElem]
      rw [ex, ey]
      simp
      refine condK_dec (fun h2 => ?_) (fun h2 => ?_)
      · rw [cutD_in]
        have e3 : cyc (v.drop 1).dropLast = cyc w := by
          rw [← q3, cyc_in (l := v) ⟨by omega, by rw [hh, hy, h2]; rfl⟩]
        have := hK ((v.drop 1).dropLast).length _ (by simp; omega) ⟨(v.drop 1).dropLast, rfl, e3, by simp; omega, rfl⟩
        simpa [List.map_dropLast, List.map_drop] using this
      · have : cyc w = v := by
          rw [← q3, cyc_out]
          rintro ⟨_, z⟩
          rw [hh, hy] at z
          simp at z
          exact h2 z
        rw [this] at nxt
        exact nxt
    · have : cyc w = v := by
        rw [← q3, cyc_out]
        rintro ⟨z, _⟩
        exact h (by omega)
      rw [this] at nxt
      exact nxt
  refine h1 _ ?_
  clear h1
  have hcl := cyc_len w
  simp
  have hr : rnd l = lturn (cyc w) := by rw [hw]; rfl
  rw [hr] at hp
  generalize cyc w = c at *
  refine condK_ndec (fun h => ?_) (fun h => ?_)
  · subst h
    exact hp
  · refine ⟨by rw [Lim_eq]; omega, ?_⟩
    refine cmpM ((List.range c.length).map fun k => wd (rot c k)) (by simp) (by simp [rng_len]) (by rw [rng_len, Lim_eq]; omega) (fun n d r K hd hr hK => ?_) ?_
    · obtain ⟨hn, rfl⟩ := rng_at0 hd
      rw [List.getElem?_map, List.getElem?_range hn] at hr
      simp at hr
      subst hr
      simp [Lim_eq]
      rw [cutD_take (by omega), cutD_drop (by omega)]
      simp only [Int.toNat_natCast, ← List.map_take, ← List.map_drop, ← List.map_append]
      refine ⟨by simp; omega, hK _ ?_⟩
      simp
    · simp
      refine .inr ⟨(List.range c.length).map (rot c), by simp [Function.comp_def], by simp [h], fun m hm hmin => ?_⟩
      obtain ⟨k, hk, rfl⟩ := List.mem_map.mp hm
      have hk := List.mem_range.mp hk
      have e : lturn c = rot c k := lturn_eq ⟨⟨k, Nat.le_of_lt hk, rfl⟩, fun y hy => by
        obtain ⟨j, hj, rfl⟩ := hy.lt h
        exact hmin _ (List.mem_map.mpr ⟨j, List.mem_range.mpr hj, rfl⟩)⟩
      rw [e] at hp
      exact hp
/-- .. of tuples, as it is compared -/
theorem w__law_are_one : W b__law_are_one [false, false] r__law_are_one 4 := by
  rintro ds ts as Pn Pe ha ⟨a, b, rfl, rfl, la, lb, hp⟩
  simp at ha
  subst ha
  unfold b__law_are_one
  show wpX _ [some (.val (wd a)), some (.val (wd b)), none, none, none, none] (outK [false, false] Pn (.val .non)) (PD [false, false] Pn Pe)
  refine S_seq fun K1 h1 => ?_
  simp [Lim_eq]
  refine h1 _ ?_
  clear h1
  refine S_seq fun K1 h1 => ?_
  simp [Lim_eq]
  let rs : List (List Int) := [a, b]
  have hrs : ∀ (n : Nat) (d : D), [wd a, wd b][n]? = some d → ∃ r, rs[n]? = some r ∧ d = wd r ∧ r.length ≤ 1000 := fun n d h => by
    match n, h with
    | 0, h => simp at h; exact ⟨a, rfl, h.symm, la⟩
    | 1, h => simp at h; exact ⟨b, rfl, h.symm, lb⟩
    | n + 2, h => simp at h
  refine forT (fun n e => ∃ o3 o4 : Option T, e = [some (.val (wd a)), some (.val (wd b)), some (.lst (vals ((rs.take n).map fun r => wd (cyc (nf r))))), o3, o4, none]) (by simp) ⟨none, none, rfl⟩ ?_ ?_
  · rintro n e d K ⟨o3, o4, rfl⟩ hd hK
    obtain ⟨r, hr, rfl, hl⟩ := hrs n d hd
    have hn : n < 2 := lt_of_at hr
    have htl : (rs.take n).length ≤ 2 := by rw [List.length_take]; omega
    generalize hpre : (rs.take n).map (fun r => wd (cyc (nf r))) = pre
    have hpl : pre.length ≤ 2 := by rw [← hpre]; simpa using htl
    simp only [tgt_name]
    refine S_seq fun K2 h2 => ?_
    simp
    refine call0_of ⟨r, _, .inl rfl, rfl, rfl, by omega, ?_⟩
    simp
    refine h2 _ ?_
    clear h2
    have hw : frd r = nf r := frd_nf r
    generalize frd r = w at *
    refine S_seq fun K2 h2 => ?_
    simp
    suffices nxt : K2 [some (.val (wd a)), some (.val (wd b)), some (.lst (vals pre)), some (.val (wd r)), some (.val (wd (cyc w))), none] by
      refine whileI (fun m e => ∃ v, e = [some (.val (wd a)), some (.val (wd b)), some (.lst (vals pre)), some (.val (wd r)), some (.val (wd v)), none] ∧ cyc v = cyc w ∧ m = v.length) ⟨w, rfl, rfl, rfl⟩ ?_
      rintro m e K ⟨v, rfl, q3, rfl⟩ hK
      simp
      refine condK_dec (fun h => ?_) (fun h => ?_)
      · have n : v ≠ [] := fun e => by rw [e] at h; simp at h
        obtain ⟨y, hy, ey⟩ := last_idx n
        have ex : L2.atI (v.map D.int) 0 = some (.int (v[0]'(by omega))) := atI_w (i := 0) (by omega)
        have hh : v.head? = some (v[0]'(by omega)) := by rw [List.head?_eq_getElem?, List.getElem?_eq_getElem]
        rw [ex, ey]
        simp
        refine condK_dec (fun h2 => ?_) (fun h2 => ?_)
        · rw [cutD_in]
          have e3 : cyc (v.drop 1).dropLast = cyc w := by
            rw [← q3, cyc_in (l := v) ⟨by omega, by rw [hh, hy, h2]; rfl⟩]
          have := hK ((v.drop 1).dropLast).length _ (by simp; omega) ⟨(v.drop 1).dropLast, rfl, e3, rfl⟩
          have e4 : ((v.map D.int).drop 1).dropLast = ((v.drop 1).dropLast).map D.int := by rw [List.map_dropLast, List.map_drop]
          rw [e4]
          exact this
        · have : cyc w = v := by
            rw [← q3, cyc_out]
            rintro ⟨_, z⟩
            rw [hh, hy] at z
            simp at z
            exact h2 z
          rw [this] at nxt
          exact nxt
      · have : cyc w = v := by
          rw [← q3, cyc_out]
          rintro ⟨z, _⟩
          exact h (by omega)
        rw [this] at nxt
        exact nxt
    refine h2 _ ?_
    clear h2
    simp
    refine ⟨by rw [Lim_eq]; omega, hK _ ⟨some (.val (wd r)), some (.val (wd (cyc w))), ?_⟩⟩
    rw [take_snoc hr, List.map_append, hpre, hw]
    simp
  · rintro e ⟨o3, o4, rfl⟩
    refine h1 _ ?_
    clear h1
    simp [rs]
    have a0 : ∀ x y : D, L2.atI [x, y] 0 = some x := fun _ _ => rfl
    have a1 : ∀ x y : D, L2.atI [x, y] 1 = some y := fun _ _ => rfl
    have lA : (cyc (nf a)).length ≤ 1000 := Nat.le_trans (cyc_len _) (Nat.le_trans (nf_len a) la)
    have eAB : rnd a = rnd b ↔ Turn (cyc (nf a)) (cyc (nf b)) := lturn_iff
    generalize cyc (nf a) = A at *
    generalize cyc (nf b) = B at *
    simp [a0, a1, Lim_eq]
    refine condK_dec (fun h => ?_) (fun h => ?_)
    · refine condK_dec (fun h2 => ?_) (fun h2 => ?_)
      · subst h2
        have : B = [] := List.eq_nil_of_length_eq_zero (by simpa using h.symm)
        subst this
        rw [decide_eq_true (eAB.mpr (.refl _))] at hp
        exact hp
      · refine ⟨by omega, ?_⟩
        let p : D → Bool := fun d => decide (rot A (intOf d).toNat = B)
        refine cmpF p (fun _ => .int 1) (by simp) (by rw [rng_len, Lim_eq]; omega) (fun n d K1 K2 hd k1 k2 => ?_) ?_
        · obtain ⟨hn, rfl⟩ := rng_at0 hd
          simp [a0, a1, Lim_eq]
          rw [cutD_take (by omega), cutD_drop (by omega)]
          simp only [Int.toNat_natCast, ← List.map_take, ← List.map_drop, ← List.map_append]
          refine ⟨by simp; omega, ?_⟩
          simp only [o_eq_ints, blK_bl]
          have ep : p (.int (n : Nat)) = decide (A.drop n ++ A.take n = B) := rfl
          refine condK_dec (fun q => ?_) (fun q => ?_)
          · exact k1 (by rw [ep]; exact decide_eq_true q) _ rfl
          · exact k2 (by rw [ep]; exact decide_eq_false q) _ rfl
        · rw [List.map_const']
          simp only [view_lst, op2K_some, o_ne_ones]
          have ed : (!decide (((rng 0 A.length).filter p).length = 0)) = decide (rnd a = rnd b) := by
            by_cases e : rnd a = rnd b
            · rw [decide_eq_true e]
              obtain ⟨k, hk, ek⟩ := (eAB.mp e).lt h2
              have m : D.int (k : Nat) ∈ (rng 0 A.length).filter p := by
                rw [List.mem_filter]
                refine ⟨?_, ?_⟩
                · unfold rng
                  exact List.mem_map.mpr ⟨k, List.mem_range.mpr hk, by simp⟩
                · exact decide_eq_true ek.symm
              have : ((rng 0 A.length).filter p).length ≠ 0 := by
                intro z
                rw [List.eq_nil_of_length_eq_zero z] at m
                cases m
              simp [this]
            · rw [decide_eq_false e]
              have : (rng 0 A.length).filter p = [] := by
                rw [List.filter_eq_nil_iff]
                intro d hd q
                obtain ⟨k, hk⟩ := List.getElem?_of_mem hd
                obtain ⟨h1, rfl⟩ := rng_at0 hk
                exact e (eAB.mpr ⟨k, Nat.le_of_lt h1, (of_decide_eq_true q).symm⟩)
              rw [this]
              rfl
          rw [ed]
          simpa using hp
    · have : ¬ rnd a = rnd b := fun e => h (by have := (eAB.mp e).len; omega)
      rw [decide_eq_false this] at hp
      exact hp
theorem lt_app {s : Int} {a b : List Int} (ha : Lt s a) (hb : Lt s b) : Lt s (a ++ b) := fun x hx => (List.mem_append.mp hx).elim (ha x) (hb x)
theorem lt_und {s : Int} {a : List Int} (ha : Lt s a) : Lt s (und a) := fun x hx => by
  unfold und at hx
  obtain ⟨y, hy, rfl⟩ := List.mem_map.mp (List.mem_reverse.mp hx)
  exact iv_rng (ha y hy)
theorem lt_sub {s : Int} {a b : List Int} (ha : Lt s a) (h : ∀ x ∈ b, x ∈ a) : Lt s b := fun x hx => ha x (h x hx)
theorem w__law_led_about : W b__law_led_about [true, false, false] r__law_led_about 5 := by
  rintro ds ts as Pn Pe ha ⟨s, l, t, rfl, rfl, s1, s2, hl, hw, hd, hp⟩
  simp at ha
  subst ha
  unfold b__law_led_about
  show wpX _ [some t, some (.val (.int s)), some (.val (wd l)), none, none, none, none, none] (outK [true, false, false] Pn (.val .non)) (PD [true, false, false] Pn Pe)
  refine S_seq fun K1 h1 => ?_
  simp [Lim_eq]
  refine call1_of ⟨_, _, rfl, rfl, hd, by omega, by omega, fun at' t1 a0 a1 hd => ?_⟩
  simp
  refine call1_of ⟨_, _, rfl, rfl, hd, by decide, by decide, fun n t2 n0 n1 hd => ?_⟩
  simp
  refine call1_of ⟨s, n, _, rfl, rfl, s1, s2, n0, by omega, hd, fun u t3 hu lu hd => ?_⟩
  simp
  refine h1 _ ?_
  clear h1
  refine S_seq fun K1 h1 => ?_
  simp [Lim_eq]
  rw [cutD_take a0, cutD_drop a0]
  simp only [← List.map_take, ← List.map_drop]
  generalize hk : at'.toNat = k
  have hkl : k ≤ l.length := by omega
  refine ⟨by simp; omega, by simp; omega, ?_⟩
  refine call0_of ⟨u, _, .inl rfl, rfl, rfl, by omega, ?_⟩
  simp [Lim_eq]
  refine ⟨by simp [und_len]; omega, ?_⟩
  have e : List.map D.int u ++ (List.drop k (List.map D.int l) ++ (List.take k (List.map D.int l) ++ List.map D.int (und u))) = (u ++ rot l k ++ und u).map D.int := by simp [rot]
  rw [e]
  refine h1 _ ?_
  clear h1
  have f1 : Lt s (u ++ rot l k ++ und u) := lt_app (lt_app hu (lt_sub hw fun x hx => ((show Turn l (rot l k) from ⟨k, hkl, rfl⟩).mem x).mp hx)) (lt_und hu)
  have f2 : (u ++ rot l k ++ und u).length ≤ 210 := by simp [rot_len, und_len]; omega
  have f3 : rnd (u ++ rot l k ++ und u) = rnd l := by rw [rnd_conj]; exact rnd_turn ⟨k, hkl, rfl⟩
  generalize u ++ rot l k ++ und u = f0 at *
  refine S_seq fun K1 h1 => ?_
  simp [Lim_eq]
  refine call1_of ⟨_, _, rfl, rfl, hd, by decide, by decide, fun m t4 m0 m1 hd => ?_⟩
  simp [Lim_eq]
  refine ⟨by omega, ?_⟩
  refine forT (fun n e => ∃ (t : T) (f : List Int) (o4 o5 o6 o7 : Option T), n ≤ m.toNat ∧ Drw t ∧ Lt s f ∧ f.length ≤ 210 + 2 * n ∧ rnd f = rnd l ∧ e = [some t, some (.val (.int s)), some (.val (wd l)), some (.lst (vals (f.map .int))), o4, o5, o6, o7]) (by simp) ⟨_, f0, _, _, _, _, Nat.zero_le _, hd, f1, by omega, f3, rfl⟩ ?_ ?_
  · rintro n e d K ⟨t, f, o4, o5, o6, o7, hn0, hd, g1, g2, g3, rfl⟩ hx hK
    obtain ⟨hn, rfl⟩ := rng_at0 hx
    simp [Lim_eq]
    refine call1_of ⟨_, _, rfl, rfl, hd, by omega, by omega, fun at2 t1 a0 a1 hd => ?_⟩
    simp
    refine call1_of ⟨_, _, rfl, rfl, hd, by omega, by omega, fun x t2 x0 x1 hd => ?_⟩
    simp [Lim_eq]
    rw [cutD_take a0, cutD_drop a0]
    have e : (f.map D.int).take at2.toNat ++ D.int x :: D.int (iv x) :: (f.map D.int).drop at2.toNat = (f.take at2.toNat ++ x :: iv x :: f.drop at2.toNat).map D.int := by simp
    rw [e]
    have ivr := iv_rng (x := x) (s := s) ⟨x0, by omega⟩
    refine ⟨by simp; omega, by simp; omega, hK _ ⟨t2, _, _, _, _, _, by omega, hd, ?_, ?_, ?_, rfl⟩⟩
    · refine lt_app (lt_sub g1 fun y hy => List.mem_of_mem_take hy) fun y hy => ?_
      rcases List.mem_cons.mp hy with rfl | h
      · exact ⟨x0, by omega⟩
      · rcases List.mem_cons.mp h with rfl | h
        · exact ivr
        · exact g1 y (List.mem_of_mem_drop h)
    · simp; omega
    · rw [rnd_pair, List.take_append_drop, g3]
  · rintro e ⟨t, f, o4, o5, o6, o7, hn, hd, g1, g2, g3, rfl⟩
    refine h1 _ ?_
    clear h1
    simp
    refine condK_dec (fun h => ?_) (fun h => ?_)
    · exact hp f t g1 (by omega) g3 hd
    · exact hp l t hw hl rfl hd
theorem w__law_near : W b__law_near [true, false, false] r__law_near 3 := by
  rintro ds ts as Pn Pe ha ⟨s, l, t, rfl, rfl, s1, s2, hl, hw, hd, hp⟩
  simp at ha
  subst ha
  unfold b__law_near
  show wpX _ [some t, some (.val (.int s)), some (.val (wd l)), none, none, none] (outK [true, false, false] Pn (.val .non)) (PD [true, false, false] Pn Pe)
  refine S_seq fun K1 h1 => ?_
  simp
  refine call1_of ⟨_, _, rfl, rfl, hd, by split <;> omega, by split <;> omega, fun at' t1 a0 a1 hd => ?_⟩
  simp
  refine h1 _ ?_
  clear h1
  refine S_seq fun K1 h1 => ?_
  simp
  refine call1_of ⟨_, _, rfl, rfl, hd, by decide, by decide, fun way t2 w0 w1 hd => ?_⟩
  simp
  refine h1 _ ?_
  clear h1
  refine S_seq fun K1 h1 => ?_
  simp
  refine condK_dec (fun h => ?_) (fun h => condK_dec (fun h2 => ?_) (fun h2 => ?_))
  · refine condK_dec (fun h3 => ?_) (fun h3 => hp l t2 hw hl hd)
    refine call1_of ⟨_, _, rfl, rfl, hd, by omega, by omega, fun x t3 x0 x1 hd => ?_⟩
    simp [Lim_eq]
    refine ⟨by omega, ?_⟩
    have := hp (l ++ [x]) t3 (lt_app hw (by intro y hy; simp at hy; subst hy; exact ⟨x0, by omega⟩)) (by simp; omega) hd
    rw [show l.map D.int ++ [D.int x] = (l ++ [x]).map D.int by simp]
    exact this
  · refine condK_dec (fun h3 => ?_) (fun h3 => hp l t2 hw hl hd)
    refine call1_of ⟨_, _, rfl, rfl, hd, by omega, by omega, fun x t3 x0 x1 hd => ?_⟩
    simp [Lim_eq]
    refine ⟨by omega, ?_⟩
    have := hp (l ++ [x]) t3 (lt_app hw (by intro y hy; simp at hy; subst hy; exact ⟨x0, by omega⟩)) (by simp; omega) hd
    rw [show l.map D.int ++ [D.int x] = (l ++ [x]).map D.int by simp]
    exact this
  refine h1 _ ?_
  clear h1
  have hpos : 0 < l.length := List.length_pos_iff.mpr h
  have a2 : at'.toNat < l.length := by split at a1 <;> omega
  obtain ⟨k, rfl⟩ : ∃ k : Nat, at' = (k : Nat) := ⟨at'.toNat, by omega⟩
  have a2 : k < l.length := by simpa using a2
  refine S_seq fun K1 h1 => ?_
  simp
  have fin : ∀ (l' : List Int) (t : T), Drw t → Lt s l' → l'.length ≤ 200 → K1 [some t, some (.val (.int s)), some (.val (wd l)), some (.val (.int way)), some (.lst (vals (l'.map .int))), some (.val (.int (k : Nat)))] := fun l' t hd g1 g2 => by
    refine h1 _ ?_
    simp
    exact hp l' t g1 g2 hd
  clear h1
  refine condK_dec (fun h3 => ?_) (fun h3 => ?_)
  · refine call1_of ⟨_, _, rfl, rfl, hd, by omega, by omega, fun x t3 x0 x1 hd => ?_⟩
    simp
    refine ⟨_, by simpa using a2, rfl, ?_⟩
    have e : (vals (l.map D.int)).set k (.val (.int x)) = vals ((l.set k x).map .int) := by simp [vals, List.map_set]
    rw [e]
    refine fin _ _ hd (fun y hy => ?_) (by simpa using hl)
    rcases List.mem_or_eq_of_mem_set hy with h | h
    · exact hw y h
    · subst h; exact ⟨x0, by omega⟩
  · obtain ⟨y, hy, ey⟩ := last_idx h
    rw [ey, atI_w a2]
    simp [Lim_eq]
    refine ⟨_, _, ⟨rfl, rfl⟩, k, by unfold L2.ixN; rw [if_pos (by omega), if_pos (by omega)]; simp, l.length - 1, by unfold L2.ixN; rw [if_neg (by decide), if_pos (by omega)]; simp; omega, ?_⟩
    have e : ((l.map D.int).set k (.int y)).set (l.length - 1) (.int l[k]) = ((l.set k y).set (l.length - 1) l[k]).map .int := by simp [List.map_set]
    rw [e]
    refine fin _ _ hd (fun z hz => ?_) (by simpa using hl)
    rcases List.mem_or_eq_of_mem_set hz with h | h
    · rcases List.mem_or_eq_of_mem_set h with h | h
      · exact hw z h
      · subst h; exact hw z (List.mem_of_getLast? hy)
    · subst h; exact hw _ (List.getElem_mem a2)
theorem rd_two {a b : Int} (h : b < a) : ¬ Rd [a, b] := fun q => by
  have := (lturn_lst [a, b]).2 [b, a] ⟨1, by simp, rfl⟩
  rw [q.2] at this
  exact this (by simp [List.cons_lt_cons_iff, h])
theorem isRd_not {s : Int} {l : List Int} (h : ¬ Rd l) : isRd s (wd l) = false := by
  cases e : isRd s (wd l) with
  | false => rfl
  | true =>
    obtain ⟨m, e1, _, _, _, e5, _⟩ := isRd_rd e
    rw [tup_inj_ints.mp e1] at h
    exact absurd e5 h
theorem w__law_none : W b__law_none [true, false, false] r__law_none 3 := by
  rintro ds ts as Pn Pe ha ⟨s, l, t, rfl, rfl, s1, s2, ⟨hrd, hne, hw, hl⟩, hd, hp⟩
  simp at ha
  subst ha
  unfold b__law_none
  show wpX _ [some t, some (.val (.int s)), some (.val (wd l)), none, none, none] (outK [true, false, false] Pn (.val .non)) (PD [true, false, false] Pn Pe)
  refine S_seq fun K1 h1 => ?_
  simp [Lim_eq, -List.reduceReplicate]
  have ez : List.replicate 201 (D.int 0) = (List.replicate 201 (0 : Int)).map .int := by rw [List.map_replicate]
  rw [ez]
  refine h1 _ ?_
  clear h1
  generalize hxs : ([D.lst (l.map .int), D.non, D.int 5, D.tup [], D.tup [D.int (2 * s)], D.tup [D.int 0, D.int 1], D.tup [D.bl true], D.tup [D.int 2, D.int 0], D.tup [D.str "0"], D.tup [D.int 0, D.int 2, D.int 1], wd (List.replicate 201 (0 : Int)), D.tup [D.int 2, D.int 2, D.int 0], D.tup [D.int (-2)]] : List D) = xs
  have bad : ∀ d ∈ xs, ins d = true ∧ ins1 d = true ∧ isRd s d = false := by
    subst hxs
    intro d hd
    simp only [List.mem_cons, List.not_mem_nil, or_false] at hd
    rcases hd with rfl | rfl | rfl | rfl | rfl | rfl | rfl | rfl | rfl | rfl | rfl | rfl | rfl
    · exact ⟨rfl, rfl, rfl⟩
    · exact ⟨rfl, rfl, rfl⟩
    · exact ⟨rfl, rfl, rfl⟩
    · exact ⟨rfl, rfl, rfl⟩
    · refine ⟨rfl, rfl, ?_⟩
      simp [isRd, isLet, betw]; omega
    · exact ⟨rfl, rfl, isRd_not (l := [0, 1]) fun q => (cr_iff.mp q.1).1.1 rfl⟩
    · refine ⟨rfl, rfl, ?_⟩
      simp [isRd, isLet, betw]
    · exact ⟨rfl, rfl, isRd_not (l := [2, 0]) (rd_two (by decide))⟩
    · refine ⟨rfl, rfl, ?_⟩
      simp [isRd, isLet, betw]
    · exact ⟨rfl, rfl, isRd_not (l := [0, 2, 1]) fun q => q.1 2 1 0 (by decide) rfl rfl rfl⟩
    · refine ⟨rfl, ins1_wd (by rw [List.length_replicate]; decide), ?_⟩
      simp [isRd, -List.reduceReplicate]
    · refine ⟨rfl, rfl, isRd_not (l := [2, 2, 0]) fun q => ?_⟩
      have := (lturn_lst [2, 2, 0]).2 [0, 2, 2] ⟨2, by simp, rfl⟩
      rw [q.2] at this
      exact this (by decide)
    · refine ⟨rfl, rfl, ?_⟩
      simp [isRd, isLet, betw]
  have xn : xs ≠ [] := by subst hxs; simp
  have xl : xs.length ≤ 20 := by subst hxs; simp
  clear hxs
  refine S_seq fun K1 h1 => ?_
  simp [Lim_eq]
  refine ⟨by omega, ?_⟩
  let p : D → Bool := fun d => decide (rot l (intOf d).toNat ≠ l)
  let f : D → D := fun d => wd (rot l (intOf d).toNat)
  refine cmpF p f (by simp) (by rw [rng_len, Lim_eq]; omega) (fun n d K1 K2 hd k1 k2 => ?_) ?_
  · obtain ⟨hn, rfl⟩ := rng_at0 hd
    simp [Lim_eq]
    rw [cutD_take (by omega), cutD_drop (by omega)]
    simp only [Int.toNat_natCast, ← List.map_take, ← List.map_drop, ← List.map_append]
    refine ⟨by simp; omega, ?_⟩
    simp only [o_ne_ints, blK_bl]
    have ep : p (.int (n : Nat)) = decide (l.drop n ++ l.take n ≠ l) := rfl
    refine condK_ndec (fun q => ?_) (fun q => ?_)
    · exact k2 (by rw [ep]; exact decide_eq_false (fun z => z q)) _ rfl
    · refine ⟨by simp; omega, ?_⟩
      exact k1 (by rw [ep]; exact decide_eq_true q) _ rfl
  · have wl : ∀ d ∈ ((rng 0 l.length).filter p).map f, ∃ m : List Int, d = wd m := fun d hd => by
      obtain ⟨e, he, rfl⟩ := List.mem_map.mp hd
      exact ⟨_, rfl⟩
    have al : ∀ d ∈ ((rng 0 l.length).filter p).map f, ins d = true ∧ ins1 d = true ∧ isRd s d = false := fun d hd => by
      obtain ⟨e, he, rfl⟩ := List.mem_map.mp hd
      obtain ⟨h1, h2⟩ := List.mem_filter.mp he
      obtain ⟨k, hk⟩ := List.getElem?_of_mem h1
      obtain ⟨h3, rfl⟩ := rng_at0 hk
      have h2 : rot l k ≠ l := of_decide_eq_true h2
      refine ⟨rfl, ins1_wd (by show (rot l k).length ≤ _; rw [rot_len]; omega), isRd_not fun q => ?_⟩
      have t : Turn l (rot l k) := ⟨k, Nat.le_of_lt h3, rfl⟩
      have e1 := lturn_of t
      have e2 : lturn (rot l k) = rot l k := q.2
      rw [hrd.2, e2] at e1
      exact h2 e1
    have ln : (((rng 0 l.length).filter p).map f).length ≤ 200 := by
      have := List.length_filter_le p (rng 0 l.length)
      rw [rng_len] at this
      rw [List.length_map]; omega
    generalize ((rng 0 l.length).filter p).map f = ys at *
    simp
    refine h1 _ ?_
    clear h1
    simp
    have it1 : (D.lst ys).it = true := by
      rw [show (D.lst ys).it = D.itL ys from rfl, itL_iff]
      intro d hd
      obtain ⟨m, rfl⟩ := wl d hd
      simp [D.it, itL_ints]
    have pl1 : (D.lst ys).pl 20 = true := by
      rw [pl_lst]
      have : ∀ ys : List D, (∀ d ∈ ys, ∃ m : List Int, d = wd m) → D.plL ys 19 = true := by
        intro ys
        induction ys with
        | nil => intro _; rfl
        | cons y ys ih =>
          intro h
          obtain ⟨m, rfl⟩ := h y List.mem_cons_self
          simp only [D.plL, D.pl, plL_ints, Bool.true_and]
          exact ih fun d hd => h d (List.mem_cons_of_mem _ hd)
      exact this ys wl
    rw [o_ne_it it1 rfl pl1 rfl (p := ys = []) (by simp)]
    simp only [blK_bl]
    refine condK_ndec (fun q => ?_) (fun q => ?_)
    · exact ⟨by rw [Lim_eq]; omega, hp xs t xn (by omega) bad hd⟩
    · refine call1_of ⟨_, _, .inl rfl, rfl, q, by omega, hd, fun b t' hb hd => ?_⟩
      simp [Lim_eq]
      refine ⟨by omega, ?_⟩
      have := hp (xs ++ [b]) t' (by simp) (by simp; omega) (fun d hd => by
        rcases List.mem_append.mp hd with h | h
        · exact bad d h
        · simp at h; subst h; exact al _ hb) hd
      exact this
/-- those steps by which it turns to itself: the least one -/
theorem steps_min {l : List Int} {s : Nat} (hs : LP l s) : ∃ ns : List Int, (rng 1 l.length).filter (fun d => decide (rot l (intOf d).toNat = l)) = ns.map D.int ∧ ns ≠ [] ∧ ns.length ≤ l.length ∧ ∀ m, m ∈ ns → (∀ y, y ∈ ns → m ≤ y) → m = (s : Nat) := by
  refine ⟨((List.range l.length).map fun k => (1 : Int) + (k : Nat)).filter fun x => decide (rot l x.toNat = l), ?_, ?_, ?_, ?_⟩
  · unfold rng
    rw [show (fun k : Nat => D.int (1 + (k : Int))) = D.int ∘ (fun k : Nat => (1 : Int) + (k : Nat)) from rfl, ← List.map_map, List.filter_map]
    rfl
  · obtain ⟨⟨h1, h2, h3⟩, h4⟩ := hs
    intro e
    have m : (s : Int) ∈ ((List.range l.length).map fun k => (1 : Int) + (k : Nat)).filter fun x => decide (rot l x.toNat = l) := by
      rw [List.mem_filter]
      exact ⟨List.mem_map.mpr ⟨s - 1, List.mem_range.mpr (by omega), by omega⟩, decide_eq_true h3⟩
    rw [e] at m
    cases m
  · refine Nat.le_trans (List.length_filter_le _ _) (by simp)
  · intro m hm hmin
    obtain ⟨h1, h2⟩ := List.mem_filter.mp hm
    obtain ⟨k, hk, rfl⟩ := List.mem_map.mp h1
    have hk := List.mem_range.mp hk
    have h2 : rot l ((1 : Int) + (k : Nat)).toNat = l := of_decide_eq_true h2
    have ek : ((1 : Int) + (k : Nat)).toNat = k + 1 := by omega
    rw [ek] at h2
    obtain ⟨⟨g1, g2, g3⟩, g4⟩ := hs
    have a1 := g4 (k + 1) (by omega) (by omega) h2
    have a2 := hmin (s : Int) (by
      rw [List.mem_filter]
      exact ⟨List.mem_map.mpr ⟨s - 1, List.mem_range.mpr (by omega), by omega⟩, decide_eq_true g3⟩)
    omega
theorem w__law_go_along : W b__law_go_along [false, false] r__law_go_along 3 := by
  rintro ds ts as Pn Pe ha ⟨a, b, rfl, rfl, la, lb, na, hp⟩
  simp at ha
  subst ha
  unfold b__law_go_along
  show wpX _ [some (.val (wd a)), some (.val (wd b)), none, none, none] (outK [false, false] Pn (.val .non)) (PD [false, false] Pn Pe)
  refine S_seq fun K1 h1 => ?_
  simp [Lim_eq]
  refine h1 _ ?_
  clear h1
  refine S_seq fun K1 h1 => ?_
  simp [Lim_eq]
  let rs : List (List Int) := [a, b]
  have hrs : ∀ (n : Nat) (d : D), [wd a, wd b][n]? = some d → ∃ r, rs[n]? = some r ∧ d = wd r ∧ r.length ≤ 1000 := fun n d h => by
    match n, h with
    | 0, h => simp at h; exact ⟨a, rfl, h.symm, la⟩
    | 1, h => simp at h; exact ⟨b, rfl, h.symm, lb⟩
    | n + 2, h => simp at h
  refine forT (fun n e => ∃ (us : List (List Int)) (o3 o4 : Option T), us.length = n ∧ (∀ (i : Nat) (r u : List Int), rs[i]? = some r → us[i]? = some u → u.length ≤ 1000 ∧ (r = [] → u = []) ∧ ∀ s, LP r s → u = r.take s) ∧ e = [some (.val (wd a)), some (.val (wd b)), some (.lst (vals (us.map wd))), o3, o4]) (by simp) ⟨[], none, none, rfl, fun i r u _ h => by simp at h, rfl⟩ ?_ ?_
  · rintro n e d K ⟨us, o3, o4, hus, hu, rfl⟩ hd hK
    obtain ⟨r, hr, rfl, hl⟩ := hrs n d hd
    have hn : n < 2 := lt_of_at hr
    simp only [tgt_name]
    refine S_seq fun K2 h2 => ?_
    have nxt : ∀ (s : Nat), (∀ t, LP r t → t = s) → (r = [] → s = 0) → s ≤ r.length → K2 [some (.val (wd a)), some (.val (wd b)), some (.lst (vals (us.map wd))), some (.val (wd r)), some (.val (.int (s : Nat)))] := fun s s1 s2 s3 => by
      refine h2 _ ?_
      simp [Lim_eq]
      rw [cutD_take (by omega)]
      simp only [Int.toNat_natCast, ← List.map_take]
      refine ⟨by omega, hK _ ⟨us ++ [r.take s], some (.val (wd r)), some (.val (.int (s : Nat))), by simp [hus], fun i r' u hr' hu' => ?_, ?_⟩⟩
      · by_cases hi : i < us.length
        · rw [List.getElem?_append_left hi] at hu'
          exact hu i r' u hr' hu'
        · have : i = us.length := by have := lt_of_at hu'; simp at this; omega
          subst this
          simp at hu'
          rw [hus, hr] at hr'
          cases hr'
          subst hu'
          refine ⟨by rw [List.length_take]; omega, fun e => by rw [e]; simp, fun t ht => by rw [s1 t ht]⟩
      · simp
        show _ = vals (_ ++ [D.tup ((r.take s).map D.int)])
        rw [List.map_take]
    clear h2
    simp
    refine condK_ndec (fun h => ?_) (fun h => ?_)
    · subst h
      exact nxt 0 (fun t ht => absurd ht.1.2.1 (by have := ht.1.1; simp; omega)) (fun _ => rfl) (Nat.zero_le _)
    · obtain ⟨s, hs⟩ := lp_ex h
      obtain ⟨ns, n1, n2, n3, n4⟩ := steps_min hs
      simp [Lim_eq]
      refine ⟨⟨by omega, by omega⟩, ?_⟩
      refine cmpF (fun d => decide (rot r (intOf d).toNat = r)) id (by simp) (by rw [rng_len, Lim_eq]; omega) (fun i d K1 K2 hd k1 k2 => ?_) ?_
      · obtain ⟨hi, rfl⟩ := rng_at hd
        simp [Lim_eq]
        rw [cutD_take (by omega), cutD_drop (by omega)]
        simp only [← List.map_take, ← List.map_drop, ← List.map_append]
        refine ⟨by simp; omega, ?_⟩
        simp only [o_eq_ints, blK_bl]
        have ep : decide (rot r (intOf (D.int (1 + (i : Nat)))).toNat = r) = decide (r.drop ((1 : Int) + (i : Nat)).toNat ++ r.take ((1 : Int) + (i : Nat)).toNat = r) := rfl
        refine condK_dec (fun q => ?_) (fun q => ?_)
        · exact k1 (by rw [ep]; exact decide_eq_true q) _ rfl
        · exact k2 (by rw [ep]; exact decide_eq_false q) _ rfl
      · rw [n1]
        simp
        refine .inl ⟨ns, rfl, n2, fun m hm hmin => ?_⟩
        rw [n4 m hm hmin]
        exact nxt s (fun t ht => ht.uniq hs) (fun e => absurd e h) hs.1.2.1
  · rintro e ⟨us, o3, o4, hus, hu, rfl⟩
    refine h1 _ ?_
    clear h1
    obtain ⟨u, v, rfl⟩ : ∃ u v, us = [u, v] := by
      match us, hus with
      | [u, v], _ => exact ⟨u, v, rfl⟩
    obtain ⟨u1, u2, u3⟩ := hu 0 a u rfl rfl
    obtain ⟨v1, v2, v3⟩ := hu 1 b v rfl rfl
    have a0 : ∀ x y : D, L2.atI [x, y] 0 = some x := fun _ _ => rfl
    have a1 : ∀ x y : D, L2.atI [x, y] 1 = some y := fun _ _ => rfl
    have key : Pn (.val (.bl (decide (u = v ∨ u = rnd (und v))))) [] := hp _ fun nb s t hs ht => by rw [u3 s hs, v3 t ht]
    simp [a0, a1]
    refine condK_dec (fun q => ?_) (fun q => ?_)
    · rw [decide_eq_true (Or.inl q)] at key
      exact key
    · refine call0_of ⟨v, _, .inl rfl, rfl, rfl, by omega, ?_⟩
      simp [a0, a1]
      refine call0_of ⟨und v, rfl, rfl, by rw [und_len]; omega, ?_⟩
      simp [a0, a1]
      have e : decide (u = v ∨ u = rnd (und v)) = decide (u = rnd (und v)) := by simp only [decide_eq_decide]; exact ⟨fun h => h.resolve_left q, .inr⟩
      rw [e] at key
      exact key
theorem lt_rep {s : Int} {l : List Int} {k : Nat} (h : Lt s l) : Lt s (rep k l) := by
  intro x hx
  unfold rep at hx
  rw [List.mem_flatten] at hx
  obtain ⟨m, hm, hx⟩ := hx
  rw [(List.mem_replicate.mp hm).2] at hx
  exact h x hx
theorem rep_two {s : Int} {a b : List Int} {P : T → Prop} (ha : Lt s a) (hb : Lt s b) (la : a.length ≤ 20000) (lb : b.length ≤ 20000) (hs : s ≤ 4) : bfS .repr [.lst [wd a, wd b]] P = P (.val (.str (D.lst [wd a, wd b]).py.shown)) := by
  refine bf_repr_ok rfl ?_ ?_ ?_
  · simp only [D.pl, D.plL, plL_ints, Bool.and_self]
  · rw [sm_lst, smL_iff]
    intro d hd
    simp at hd
    rcases hd with rfl | rfl
    · rw [sm_tup]; exact smL_ints fun x hx => by have := ha x hx; omega
    · rw [sm_tup]; exact smL_ints fun x hx => by have := hb x hx; omega
  · rw [bk_lst]
    have := bkL_le (ds := [wd a, wd b]) (B := 20000) fun d hd => by
      simp at hd
      rcases hd with rfl | rfl
      · rw [bk_tup, bkL_ints]; exact la
      · rw [bk_tup, bkL_ints]; exact lb
    simp at this ⊢
    omega
theorem rep_root {s : Int} {r : List Int} {m : Nat} {P : T → Prop} (hr : Lt s r) (lr : r.length ≤ 20000) (hm : m ≤ 20000) (hs : s ≤ 4) : bfS .repr [.lst [.tup [wd r, .int (m : Nat)], .tup [wd r, .int (m : Nat)]]] P = P (.val (.str (D.lst [.tup [wd r, .int (m : Nat)], .tup [wd r, .int (m : Nat)]]).py.shown)) := by
  have h1 : D.smL (r.map D.int) = true := smL_ints fun x hx => by have := hr x hx; omega
  refine bf_repr_ok rfl ?_ ?_ ?_
  · simp only [D.pl, D.plL, plL_ints, Bool.and_self]
  · have : D.sm (.int (m : Nat)) = true := by simp [D.sm]; omega
    simp only [sm_lst, D.smL, sm_tup, h1, this, Bool.and_self]
  · simp only [bk_lst, D.bkL, bk_tup, bkL_ints, D.bk]
    omega
theorem w__law_round_right : W b__law_round_right [true, false, false] r__law_round_right 7 := by
  rintro ds ts as Pn Pe ha ⟨s, l, t, rfl, rfl, s1, s2, ⟨hrd, hne, hw, hl⟩, hd, hp⟩
  simp at ha
  subst ha
  unfold b__law_round_right
  show wpX _ [some t, some (.val (.int s)), some (.val (wd l)), none, none, none, none, none, none, none] (outK [true, false, false] Pn (.val .non)) (PD [true, false, false] Pn Pe)
  have hz : betw (.int s) 2 4 = true := betw_int s1 s2
  have nz : ∀ {p : Prop}, betw (.int s) 2 4 = false → p := fun h => by rw [hz] at h; cases h
  have il : ins1 (wd l) = true := ins1_wd (by omega)
  have rl : isRd s (wd l) = true := isRd_of hw hl hrd hne
  have nl : ∀ {p : Prop}, isRd s (wd l) = false → p := fun h => by rw [rl] at h; cases h
  have bne : rnd (und l) ≠ l := back_ne hrd hne
  obtain ⟨st, hst⟩ := lp_ex hne
  obtain ⟨b1, b2, b3⟩ := root_back hrd hst
  refine S_seq fun K1 h1 => ?_
  simp
  refine call0_of ⟨l, _, .inl rfl, rfl, rfl, by omega, ?_⟩
  simp
  refine call0_of ⟨und l, rfl, rfl, by rw [und_len]; omega, ?_⟩
  simp [Lim_eq]
  refine call1_of ⟨_, _, .inl rfl, rfl, by simp, by simp, hd, fun d t hm hd => ?_⟩
  obtain ⟨k, rfl, k1, k2⟩ : ∃ k : Nat, d = .int (k : Nat) ∧ 1 ≤ k ∧ k ≤ 60 := by
    simp at hm
    rcases hm with rfl | rfl | rfl | rfl
    · exact ⟨1, rfl, by decide, by decide⟩
    · exact ⟨2, rfl, by decide, by decide⟩
    · exact ⟨3, rfl, by decide, by decide⟩
    · exact ⟨60, rfl, by decide, by decide⟩
  clear hm
  simp
  refine h1 _ ?_
  clear h1
  generalize hB : rnd (und l) = B at *
  refine S_seq fun K1 h1 => ?_
  simp
  refine call0_of ⟨.int s, wd l, rfl, rfl, rfl, rfl, il, fun _ => ?_, nz⟩
  rw [show intOf (.int s) = s from rfl, rl]
  simp
  refine call0_of ⟨.int s, wd l, rfl, rfl, rfl, rfl, il, fun _ => ?_, nz⟩
  rw [show intOf (.int s) = s from rfl, rl]
  simp [bne]
  refine h1 _ ?_
  clear h1
  have bl : B.length = l.length := b3
  have bw : Lt s B := lt_sub (lt_und hw) fun x hx => by rw [← hB] at hx; exact rnd_mem hx
  have bR : Rd B := by rw [← hB]; exact rd_rnd _
  have bn : B ≠ [] := fun e => by rw [e] at bl; exact hne (List.eq_nil_of_length_eq_zero bl.symm)
  refine S_seq fun K1 h1 => ?_
  simp
  refine call0_of ⟨.int s, wd l, rfl, rfl, rfl, rfl, il, nz, fun _ => nl, fun _ _ => ?_⟩
  rw [lts_wd, hB]
  simp [Lim_eq]
  refine call0_of ⟨.int s, wd l, rfl, rfl, rfl, rfl, il, nz, fun _ => nl, fun _ _ => ?_⟩
  rw [lts_wd, hB]
  simp [Lim_eq]
  rw [rep_two bw bw (by omega) (by omega) s2]
  simp [Lim_eq]
  rw [rep_two bw bw (by omega) (by omega) s2]
  simp
  refine h1 _ ?_
  clear h1
  refine S_seq fun K1 h1 => ?_
  simp
  have bk : betw (.int (k : Nat)) 1 60 = true := by simp [betw]; omega
  refine call0_of ⟨.int s, wd l, .int (k : Nat), rfl, rfl, rfl, rfl, il, fun _ _ => rfl, nz, fun _ => nl, fun _ _ h => (by rw [bk] at h; cases h), fun _ _ _ => ?_⟩
  rw [lts_wd, show (intOf (.int (k : Nat))).toNat = k from rfl]
  simp [Lim_eq]
  refine call0_of ⟨.int s, wd l, .int (k : Nat), rfl, rfl, rfl, rfl, il, fun _ _ => rfl, nz, fun _ => nl, fun _ _ h => (by rw [bk] at h; cases h), fun _ _ _ => ?_⟩
  rw [lts_wd, show (intOf (.int (k : Nat))).toNat = k from rfl]
  simp [Lim_eq]
  have rw_ : Lt s (rep k l) := lt_rep hw
  have rlen : (rep k l).length ≤ 12000 := by
    rw [rep_len]
    exact Nat.le_trans (Nat.mul_le_mul k2 hl) (by decide)
  rw [rep_two rw_ rw_ (by omega) (by omega) s2]
  simp [Lim_eq]
  refine ⟨⟨by omega, by omega, by omega⟩, ?_⟩
  rw [flat_wd]
  rw [rep_two rw_ rw_ (by omega) (by omega) s2]
  simp
  refine h1 _ ?_
  clear h1
  refine S_seq fun K1 h1 => ?_
  simp [Lim_eq]
  obtain ⟨ns, n1, n2, n3, n4⟩ := steps_min hst
  obtain ⟨⟨st1, st2, st3⟩, st4⟩ := id hst
  refine ⟨⟨by omega, by omega⟩, ?_⟩
  refine cmpF (fun d => decide (rot l (intOf d).toNat = l)) id (by simp) (by rw [rng_len, Lim_eq]; omega) (fun i d K1 K2 hd k1 k2 => ?_) ?_
  · obtain ⟨hi, rfl⟩ := rng_at hd
    simp [Lim_eq]
    rw [cutD_take (by omega), cutD_drop (by omega)]
    simp only [← List.map_take, ← List.map_drop, ← List.map_append]
    refine ⟨by simp; omega, ?_⟩
    simp only [o_eq_ints, blK_bl]
    have ep : decide (rot l (intOf (D.int (1 + (i : Nat)))).toNat = l) = decide (l.drop ((1 : Int) + (i : Nat)).toNat ++ l.take ((1 : Int) + (i : Nat)).toNat = l) := rfl
    refine condK_dec (fun q => ?_) (fun q => ?_)
    · exact k1 (by rw [ep]; exact decide_eq_true q) _ rfl
    · exact k2 (by rw [ep]; exact decide_eq_false q) _ rfl
  rw [n1]
  simp
  refine .inl ⟨ns, rfl, n2, fun m hm hmin => ?_⟩
  rw [n4 m hm hmin]
  clear n1 n2 n3 n4 hm hmin
  refine h1 _ ?_
  clear h1
  obtain ⟨r1, r2, r3, r4, r5⟩ := hrd.root hst
  have rw1 : Lt s (l.take st) := lt_sub hw fun x hx => List.mem_of_mem_take hx
  generalize hr : l.take st = r at *
  have cut1 : (l.map D.int).take st = r.map D.int := by rw [← List.map_take, hr]
  refine S_seq fun K1 h1 => ?_
  simp
  refine call0_of ⟨.int s, wd l, rfl, rfl, rfl, rfl, il, nz, fun _ => nl, fun _ _ u hu => ?_⟩
  rw [lts_wd] at hu ⊢
  rw [hu.uniq hst, hr]
  simp [Lim_eq]
  refine call0_of ⟨.int s, wd l, rfl, rfl, rfl, rfl, il, nz, fun _ => nl, fun _ _ u hu => ?_⟩
  rw [lts_wd] at hu ⊢
  rw [hu.uniq hst, hr]
  have dv := Nat.div_le_self l.length st
  have e0 : ((l.length : Int) / (st : Int)) = ((l.length / st : Nat) : Int) := by rw [Int.natCast_ediv]
  simp [Lim_eq]
  rw [e0, rep_root rw1 (by omega) (by omega) s2]
  refine ⟨⟨by omega, by omega⟩, ?_⟩
  rw [cutD_take (by omega), fdiv_nat]
  simp only [Int.toNat_natCast, cut1]
  rw [rep_root rw1 (by omega) (by omega) s2]
  simp
  refine h1 _ ?_
  clear h1
  have iB : ins1 (wd B) = true := ins1_wd (by omega)
  have rB : isRd s (wd B) = true := isRd_of bw (by omega) bR bn
  have nB : ∀ {p : Prop}, isRd s (wd B) = false → p := fun h => by rw [rB] at h; cases h
  refine S_seq fun K1 h1 => ?_
  simp
  refine call0_of ⟨.int s, wd B, rfl, rfl, rfl, rfl, iB, nz, fun _ => nB, fun _ _ u hu => ?_⟩
  rw [lts_wd] at hu ⊢
  rw [hu.uniq b1, bl]
  have a1 : ∀ x y : D, L2.atI [x, y] 1 = some y := fun _ _ => rfl
  simp [a1]
  refine ⟨⟨by omega, by omega⟩, ?_⟩
  rw [fdiv_nat, e0]
  simp
  refine h1 _ ?_
  clear h1
  refine S_seq fun K1 h1 => ?_
  simp [Lim_eq]
  refine call1_of ⟨_, _, .inl rfl, rfl, by simp, by simp, hd, fun d t hm hd => ?_⟩
  obtain ⟨j, rfl, j1, j2⟩ : ∃ j : Nat, d = .int (j : Nat) ∧ 1 ≤ j ∧ j ≤ 5 := by
    simp at hm
    rcases hm with rfl | rfl | rfl
    · exact ⟨1, rfl, by decide, by decide⟩
    · exact ⟨2, rfl, by decide, by decide⟩
    · exact ⟨5, rfl, by decide, by decide⟩
  clear hm
  simp
  rw [cutD_take (by omega)]
  simp only [Int.toNat_natCast, cut1]
  refine ⟨⟨by omega, by omega, by simp; omega⟩, ?_⟩
  refine call1_of ⟨_, _, rfl, rfl, hd, by decide, by decide, fun c t c0 c1 hd => ?_⟩
  simp
  refine call1_of ⟨s, 1 + c, _, rfl, rfl, s1, s2, by omega, by omega, hd, fun q t hq lq hd => ?_⟩
  simp
  refine call0_of ⟨q, rfl, rfl, by omega, ?_⟩
  simp
  rw [flat_wd]
  refine h1 _ ?_
  clear h1
  have oR : Rd (rnd q) := rd_rnd q
  have ow : Lt s (rnd q) := lt_sub hq fun x hx => rnd_mem hx
  have ol : (rnd q).length ≤ 200 := by have := rnd_len q; omega
  generalize rnd q = o at *
  have mw : Lt s (rep j r) := lt_rep rw1
  have mR : Rd (rep j r) := rd_rep (by omega) r1
  have mp : LP (rep j r) st := lp_of_rep (by omega) r2
  have ml : (rep j r).length ≤ 1000 := by
    rw [rep_len]
    exact Nat.le_trans (Nat.mul_le_mul j2 (show r.length ≤ 200 by omega)) (by decide)
  have mt : (rep j r).take st = r := by
    obtain ⟨i, hi⟩ : ∃ i, j = i + 1 := ⟨j - 1, by omega⟩
    rw [hi, rep_succ]
    exact List.take_left' r3
  generalize rep j r = mo at *
  refine S_seq fun K1 h1 => ?_
  simp [Lim_eq]
  refine call0_of ⟨l, o, rfl, rfl, by omega, by omega, hne, fun due hdue => ?_⟩
  simp [Lim_eq]
  -- what is asked of each of the three
  let Ask : List Int → Bool → Prop := fun m due => m.length ≤ 1000 ∧ (m ≠ [] → m.length ≤ 200 → Lp s m ∧ ∀ v, LP m v → decide (m.take v = r ∨ m.take v = rnd (und r)) = due ∧ decide (r = m.take v ∨ r = rnd (und (m.take v))) = due)
  have ask : ∀ (n : Nat) (d : D), [D.tup [wd B, D.bl true], D.tup [wd mo, D.bl true], D.tup [wd o, D.bl due]][n]? = some d → ∃ m due, d = D.tup [wd m, D.bl due] ∧ Ask m due := fun n d h => by
    match n, h with
    | 0, h =>
      simp at h
      refine ⟨B, true, h.symm, by omega, fun _ h2 => ⟨⟨bR, bn, bw, h2⟩, fun v hv => ?_⟩⟩
      rw [hv.uniq b1, b2]
      exact ⟨decide_eq_true (.inr rfl), decide_eq_true (.inr (rnd_und_und r1).symm)⟩
    | 1, h =>
      simp at h
      refine ⟨mo, true, h.symm, ml, fun n h2 => ⟨⟨mR, n, mw, h2⟩, fun v hv => ?_⟩⟩
      rw [hv.uniq mp, mt]
      exact ⟨decide_eq_true (.inl rfl), decide_eq_true (.inl rfl)⟩
    | 2, h =>
      simp at h
      refine ⟨o, due, h.symm, by omega, fun n h2 => ⟨⟨oR, n, ow, h2⟩, fun v hv => ?_⟩⟩
      have e := hdue n st v hst hv
      rw [hr] at e
      obtain ⟨v1, _, _, _, _⟩ := oR.root hv
      refine ⟨?_, e.symm⟩
      rw [e, decide_eq_decide]
      exact or_congr eq_comm (back_iff v1 r1)
    | n + 3, h => simp at h
  refine forT (fun n e => ∃ o8 o9 : Option T, e = [some t, some (T.val (D.int s)), some (T.val (wd l)), some (T.val (D.int (st : Nat))), some (T.val (wd B)), some (T.val (D.int (k : Nat))), some (T.val (wd mo)), some (T.val (wd o)), o8, o9]) (by simp) ⟨none, none, rfl⟩ ?_ ?_
  · rintro n e d K ⟨o8, o9, rfl⟩ hd hK
    obtain ⟨m, due, rfl, m1, m2⟩ := ask n d hd
    by_cases z : m = []
    · simp [z]
      exact hK _ ⟨_, _, rfl⟩
    by_cases z2 : m.length ≤ 200
    · obtain ⟨⟨q1, q2, q3, q4⟩, q5⟩ := m2 z z2
      have im : ins1 (wd m) = true := ins1_wd (by omega)
      have rm : isRd s (wd m) = true := isRd_of q3 q4 q1 q2
      have nm : ∀ {p : Prop}, isRd s (wd m) = false → p := fun h => by rw [rm] at h; cases h
      have z3 : ((m.length : Int) ≤ 200) := by omega
      simp [z, z3]
      refine call0_of ⟨.int s, wd l, wd m, rfl, rfl, rfl, rfl, il, fun _ _ => ⟨rfl, im⟩, nz, fun _ => nl, fun _ _ => nm, fun _ _ _ u v hu hv => ?_⟩
      rw [lts_wd] at hu hv ⊢
      rw [lts_wd, hu.uniq hst, hr, (q5 v hv).1]
      simp
      refine call0_of ⟨due, due, rfl, rfl, ?_⟩
      simp [z, z3]
      refine call0_of ⟨.int s, wd m, wd l, rfl, rfl, rfl, rfl, im, fun _ _ => ⟨rfl, il⟩, nz, fun _ => nm, fun _ _ => nl, fun _ _ _ u v hu hv => ?_⟩
      rw [lts_wd] at hu hv ⊢
      rw [lts_wd, hv.uniq hst, hr, (q5 u hu).2]
      simp
      refine call0_of ⟨due, due, rfl, rfl, ?_⟩
      simp
      exact hK _ ⟨_, _, rfl⟩
    · have z3 : ¬((m.length : Int) ≤ 200) := by omega
      simp [z, z3]
      exact hK _ ⟨_, _, rfl⟩
  · rintro e ⟨o8, o9, rfl⟩
    refine h1 _ ?_
    simp
    exact hp t hd
@[simp] theorem O_compW {nets : List Str} {g : CF} {i w : Nat} {cls : Str} {xt : List (Str × Bool)} {tab : I} {f : Env' → (T → Env' → Prop) → KE → Prop} {env : Env'} {Q : FW.Tok → Env' → Prop} {E : KE} : opn (.compW nets g i w cls xt tab) f env Q E = f env (fun t e' => Q (.tmp t) e') E := rfl
theorem w__law_refused (cf : CF) : W (b__law_refused cf) [true, false, false] r__law_refused 6 := by
  rintro ds ts as Pn Pe ha ⟨s, l, t, rfl, rfl, s1, s2, hL, hd, hp⟩
  obtain ⟨hrd, hne, hw, hl⟩ := id hL
  simp at ha
  subst ha
  unfold b__law_refused
  show wpX _ [some t, some (.val (.int s)), some (.val (wd l)), none, none, none, none, none, none] (outK [true, false, false] Pn (.val .non)) (PD [true, false, false] Pn Pe)
  have hz : betw (.int s) 2 4 = true := betw_int s1 s2
  have nz : ∀ {p : Prop}, betw (.int s) 2 4 = false → p := fun h => by rw [hz] at h; cases h
  have il : ins1 (wd l) = true := ins1_wd (by omega)
  have rl : isRd s (wd l) = true := isRd_of hw hl hrd hne
  have nl : ∀ {p : Prop}, isRd s (wd l) = false → p := fun h => by rw [rl] at h; cases h
  refine S_seq fun K1 h1 => ?_
  simp
  refine call1_of ⟨_, rfl, rfl, hd, fun z t z1 z2 hd => ?_⟩
  simp
  refine call1_of ⟨s, l, _, rfl, rfl, s1, s2, hL, hd, fun xs t x1 x2 x3 hd => ?_⟩
  simp
  refine call1_of ⟨_, _, .inl rfl, rfl, x1, by omega, hd, fun b t hb hd => ?_⟩
  obtain ⟨b1, b2, b3⟩ := x3 b hb
  clear x3 hb x1 x2
  simp
  refine h1 _ ?_
  clear h1
  have nZ : ∀ {p : Prop}, betw z 2 4 = true → p := fun h => by rw [z2] at h; cases h
  have nb : ∀ {p : Prop}, isRd s b = true → p := fun h => by rw [b3] at h; cases h
  refine S_seq fun K1 h1 => ?_
  simp [Lim_eq]
  refine call1_of ⟨_, _, .inl rfl, rfl, by simp, by simp, hd, fun no t hm hd => ?_⟩
  obtain ⟨n1, n2⟩ : ins no = true ∧ betw no 1 60 = false := by
    simp at hm
    rcases hm with rfl | rfl | rfl | rfl | rfl | rfl <;> exact ⟨rfl, rfl⟩
  clear hm
  simp
  refine h1 _ ?_
  clear h1
  have m1 : ("BadSize" : Str) ∈ nts := by decide +kernel
  have m2 : ("BadRound" : Str) ∈ nts := by decide +kernel
  have m3 : ("BadNumber" : Str) ∈ nts := by decide +kernel
  have m4 : ("BadWord" : Str) ∈ nts := by decide +kernel
  have x1 : (("BadSize" : Str), true) ∈ isxT "BadSize" := by decide +kernel
  have x2 : (("BadRound" : Str), true) ∈ isxT "BadRound" := by decide +kernel
  have x3 : (("BadNumber" : Str), true) ∈ isxT "BadNumber" := by decide +kernel
  have x4 : (("BadWord" : Str), true) ∈ isxT "BadWord" := by decide +kernel
  refine S_seq fun K1 h1 => ?_
  simp [Lim_eq]
  refine h1 _ ?_
  clear h1
  refine S_seq fun K1 h1 => ?_
  simp [Lim_eq]
  refine h1 _ ?_
  clear h1
  refine S_seq fun K1 h1 => ?_
  simp [Lim_eq]
  refine cwK_all [0, 1, 2, 3, 4, 5] rfl (by rw [Lim_eq]; decide) ⟨by decide, by simp⟩ (fun N K hK j hj => ?_) ?_
  · have no' : betw z 2 4 = true → isRd (intOf z) b = true → ins no = true := fun h => nZ h
    have bad := hK "BadSize" [] [] m1 x1
    clear hK
    simp at hj
    rcases hj with rfl | rfl | rfl | rfl | rfl | rfl
    · unfold tb__law_refused
      simp only [J_succ, J_zero]
      unfold lb__law_refused_0
      simp
      exact call0_of ⟨z, .non, rfl, rfl, z1, rfl, rfl, fun _ => bad, fun h => nZ h, fun h => nZ h⟩
    · unfold tb__law_refused
      simp only [J_succ, J_zero]
      unfold lb__law_refused_1
      simp
      exact call0_of ⟨z, .non, rfl, rfl, z1, rfl, rfl, fun h => nZ h, fun _ => bad⟩
    · unfold tb__law_refused
      simp only [J_succ, J_zero]
      unfold lb__law_refused_2
      simp
      exact call0_of ⟨z, b, rfl, rfl, z1, b1, b2, fun _ => bad, fun h => nZ h, fun h => nZ h⟩
    · unfold tb__law_refused
      simp only [J_succ, J_zero]
      unfold lb__law_refused_3
      simp
      exact call0_of ⟨z, b, no, rfl, rfl, z1, b1, b2, no', fun _ => bad, fun h => nZ h, fun h => nZ h, fun h => nZ h⟩
    · unfold tb__law_refused
      simp only [J_succ, J_zero]
      unfold lb__law_refused_4
      simp
      exact call0_of ⟨z, b, rfl, rfl, z1, b1, b2, fun _ => bad, fun h => nZ h, fun h => nZ h⟩
    · unfold tb__law_refused
      simp only [J_succ, J_zero]
      unfold lb__law_refused_5
      simp
      exact call0_of ⟨z, b, b, rfl, rfl, z1, b1, b2, fun h => nZ h, fun _ => bad, fun h => nZ h, fun h => nZ h, fun h => nZ h⟩
  simp
  refine h1 _ ?_
  clear h1
  refine S_seq fun K1 h1 => ?_
  simp [Lim_eq]
  refine h1 _ ?_
  clear h1
  refine S_seq fun K1 h1 => ?_
  simp [Lim_eq]
  refine h1 _ ?_
  clear h1
  refine S_seq fun K1 h1 => ?_
  simp [Lim_eq]
  refine cwK_all [6, 7, 8, 9, 10] rfl (by rw [Lim_eq]; decide) ⟨by decide, by simp⟩ (fun N K hK j hj => ?_) ?_
  · have bad := hK "BadRound" [] [] m2 x2
    clear hK
    simp at hj
    rcases hj with rfl | rfl | rfl | rfl | rfl
    · unfold tb__law_refused
      simp only [J_succ, J_zero]
      unfold lb__law_refused_6
      simp
      exact call0_of ⟨.int s, b, rfl, rfl, rfl, b1, b2, nz, fun _ _ => bad, fun _ => nb⟩
    · unfold tb__law_refused
      simp only [J_succ, J_zero]
      unfold lb__law_refused_7
      simp
      exact call0_of ⟨.int s, b, no, rfl, rfl, rfl, b1, b2, fun _ => nb, nz, fun _ _ => bad, fun _ => nb, fun _ => nb⟩
    · unfold tb__law_refused
      simp only [J_succ, J_zero]
      unfold lb__law_refused_8
      simp
      exact call0_of ⟨.int s, b, rfl, rfl, rfl, b1, b2, nz, fun _ _ => bad, fun _ => nb⟩
    · unfold tb__law_refused
      simp only [J_succ, J_zero]
      unfold lb__law_refused_9
      simp
      exact call0_of ⟨.int s, b, b, rfl, rfl, rfl, b1, b2, fun _ => nb, nz, fun _ _ => bad, fun _ => nb, fun _ => nb⟩
    · unfold tb__law_refused
      simp only [J_succ, J_zero]
      unfold lb__law_refused_10
      simp
      exact call0_of ⟨.int s, wd l, b, rfl, rfl, rfl, rfl, il, fun _ _ => ⟨b1, b2⟩, nz, fun _ => nl, fun _ _ _ => bad, fun _ _ => nb⟩
  simp
  refine h1 _ ?_
  clear h1
  refine S_seq fun K1 h1 => ?_
  simp
  refine call0_of ⟨.int s, wd l, no, rfl, rfl, rfl, rfl, il, fun _ _ => n1, nz, fun _ => nl, fun _ _ _ => ?_, fun _ _ h => by rw [n2] at h; cases h⟩
  refine excK_of m3 ?_
  refine h1 _ ?_
  clear h1
  refine S_seq fun K1 h1 => ?_
  simp
  refine isXK_of x3 ?_
  simp
  refine attrK_of (by decide +kernel) ?_
  simp
  refine h1 _ ?_
  clear h1
  simp [Lim_eq, -List.reduceReplicate]
  have ez : List.replicate 201 (D.int 0) = (List.replicate 201 (0 : Int)).map .int := by rw [List.map_replicate]
  rw [ez]
  generalize hZ : List.replicate 201 (0 : Int) = Z
  have lZ : Z.length = 201 := by rw [← hZ, List.length_replicate]
  clear hZ ez
  refine call1_of ⟨_, _, .inl rfl, rfl, by simp, by simp, hd, fun d t hm hd => ?_⟩
  obtain ⟨d1, d2, d3⟩ : ins d = true ∧ ins1 d = true ∧ isWd s d = false := by
    simp at hm
    rcases hm with rfl | rfl | rfl | rfl
    · exact ⟨rfl, rfl, rfl⟩
    · refine ⟨rfl, rfl, ?_⟩
      simp [isWd, isLet, betw]; omega
    · exact ⟨rfl, rfl, rfl⟩
    · exact ⟨rfl, ins1_wd (by omega), by simp [isWd, lZ]⟩
  simp
  refine call0_of ⟨.int s, d, rfl, rfl, rfl, d1, d2, nz, fun _ _ => ?_, fun _ h => by rw [show intOf (.int s) = s from rfl, d3] at h; cases h⟩
  refine excK_of m4 (isXK_of x4 ?_)
  simp
  exact hp t hd
@[simp] theorem o_ne_bl {a b : Bool} {P : T → Prop} : opS2 .ne (.bl a) (.bl b) P = P (.val (.bl (!(a == b)))) := by
  show (((D.bl a).pl 20 = true ∧ (D.bl b).pl 20 = true) ∧ P (.val (.bl (!eqD (.bl a) (.bl b))))) = _
  have e : eqD (.bl a) (.bl b) = (a == b) := by cases a <;> cases b <;> rfl
  rw [e]
  simp [D.pl]
theorem rd_zero : Rd [0] := ⟨fun i a b hi ha hb => by
  have : i = 0 := by simpa using hi
  subst this
  simp at ha hb
  subst ha hb
  decide, rfl⟩
theorem w_law : W b_law [false] r_law 10 := by
  rintro ds ts as Pn Pe ha ⟨ns, rfl, rfl, hn, hp⟩
  simp at ha
  subst ha
  unfold b_law
  show wpX _ [some (.val (.scr ns)), none, none, none, none, none, none, none, none, none, none] (outK [false] Pn (.val .non)) (PD [false] Pn Pe)
  refine S_seq fun K1 h1 => ?_
  simp
  refine call0_of ⟨ns, rfl, rfl, hn, fun t hd => ?_⟩
  simp [Lim_eq]
  refine h1 _ ?_
  clear h1
  refine S_seq fun K1 h1 => ?_
  simp [Lim_eq]
  repeat with_reducible refine And.intro (by split <;> omega) ?_
  refine forT (fun n e => ∃ (t : T) (o2 o3 o4 o5 o6 o7 o8 o9 : Option T), Drw t ∧ e = [some (.val (.scr ns)), some t, o2, o3, o4, o5, o6, o7, o8, o9, none]) noslot_nil ⟨t, _, _, _, _, _, _, _, _, hd, rfl⟩ ?_ ?_
  · rintro n e d K ⟨t, o2, o3, o4, o5, o6, o7, o8, o9, hd, rfl⟩ hx hK
    obtain ⟨hn, rfl⟩ := rng_at0 hx
    simp only [tgt_name]
    refine S_seq fun K1 h1 => ?_
    simp [Lim_eq]
    refine call1_of ⟨_, _, rfl, rfl, hd, by decide, by decide, fun s0 t1 s1 s2 hd => ?_⟩
    simp
    refine call1_of ⟨_, _, rfl, rfl, hd, by decide, by decide, fun m1 t2 m10 m11 hd => ?_⟩
    simp
    refine call1_of ⟨_, _, rfl, rfl, hd, by decide, by decide, fun m2 t3 m20 m21 hd => ?_⟩
    simp
    refine call1_of ⟨_, _, rfl, rfl, hd, by decide, by decide, fun m3 t4 m30 m31 hd => ?_⟩
    simp [Lim_eq]
    refine call1_of ⟨_, _, .inl rfl, rfl, by simp, by simp, hd, fun b t5 hb hd => ?_⟩
    obtain ⟨m, rfl, hm0, hm⟩ : ∃ m, b = .int m ∧ 0 ≤ m ∧ m ≤ 200 := by
      simp at hb
      rcases hb with rfl | rfl | rfl | rfl <;> exact ⟨_, rfl, by omega, by omega⟩
    simp
    refine h1 _ ?_
    clear h1
    obtain ⟨s, hs⟩ : ∃ s, s = 2 + s0 := ⟨_, rfl⟩
    rw [← hs]
    have s1 : 2 ≤ s := by omega
    have s2 : s ≤ 4 := by omega
    clear hs
    refine S_seq fun K1 h1 => ?_
    simp [Lim_eq]
    refine call1_of ⟨_, _, rfl, rfl, hd, by decide, by decide, fun r t6 r0 r1 hd => ?_⟩
    simp
    suffices nxt : ∀ (l : List Int) (t : T), Lt s l → l.length ≤ 200 → Drw t → K1 [some (.val (.scr ns)), some t, some (.val (.int n)), some (.val (wd l)), o4, o5, some (.val (.int s)), some (.val (.int m)), o8, o9, none] by
      refine condK_dec (fun _ => ?_) (fun _ => ?_)
      · exact call1_of ⟨s, m, _, rfl, rfl, s1, s2, hm0, by omega, hd, fun l t' h1 h2 h3 => by simp; exact nxt l t' h1 (by omega) h3⟩
      · have e4 : m.fdiv 4 = m / 4 := Int.fdiv_eq_ediv_of_nonneg _ (by decide)
        rw [e4]
        refine call1_of ⟨s, m / 4, _, rfl, rfl, s1, s2, by omega, by omega, hd, fun l t' h1 h2 h3 => ?_⟩
        have hl : (rep 4 l).length ≤ 200 := by rw [rep_len]; omega
        have := nxt (rep 4 l) t' (lt_rep h1) hl h3
        simp
        refine ⟨by omega, ?_⟩
        rw [show l.map D.int ++ (l.map D.int ++ (l.map D.int ++ l.map D.int)) = (rep 4 l).map .int by rw [← flat_wd]; simp]
        exact this
    clear hd t6
    intro l t6 hl hlen hd
    refine h1 _ ?_
    clear h1
    have i1 : ∀ {l : List Int}, l.length ≤ 200 → ins1 (wd l) = true := fun h => ins1_wd (by omega)
    have hs : betw (.int s) 2 4 = true := betw_int s1 s2
    have ns : ∀ {p : Prop}, betw (.int s) 2 4 = false → p := fun h => by rw [hs] at h; cases h
    have yes : ∀ {l : List Int}, Lt s l → l.length ≤ 200 → ∀ {p : Prop}, isWd s (wd l) = false → p := fun {l} h1 h2 {p} h => by rw [isWd_of h1 h2] at h; cases h
    have dw : Lt s (rnd l) := lt_sub hl fun x hx => rnd_mem hx
    have dl : (rnd l).length ≤ 200 := by have := rnd_len l; omega
    refine S_seq fun K1 h1 => ?_
    simp
    refine call0_of ⟨l, rfl, rfl, by omega, ?_⟩
    simp
    refine call1_of ⟨s, l, _, rfl, rfl, s1, s2, hlen, hl, hd, fun l2 t7 g1 g2 g3 hd => ?_⟩
    simp
    refine h1 _ ?_
    clear h1
    refine S_seq fun K1 h1 => ?_
    simp
    refine call0_of ⟨.int s, wd l, rfl, rfl, rfl, rfl, i1 hlen, ns, fun _ => yes hl hlen, fun _ _ => ?_⟩
    rw [lts_wd]
    simp [Lim_eq]
    refine call0_of ⟨.int s, wd l, rfl, rfl, rfl, rfl, i1 hlen, ns, fun _ => yes hl hlen, fun _ _ => ?_⟩
    rw [lts_wd]
    simp [Lim_eq]
    rw [rep_two dw dw (by omega) (by omega) s2]
    simp [Lim_eq]
    rw [rep_two dw dw (by omega) (by omega) s2]
    simp
    refine call0_of ⟨.int s, wd l2, rfl, rfl, rfl, rfl, i1 g2, ns, fun _ => yes g1 g2, fun _ _ => ?_⟩
    rw [lts_wd]
    dsimp only
    rw [g3]
    simp
    refine h1 _ ?_
    clear h1
    refine S_seq fun K1 h1 => ?_
    simp [Lim_eq]
    refine call1_of ⟨s, l, _, rfl, rfl, s1, s2, hlen, hl, hd, fun n1 t8 n1w n1l hd => ?_⟩
    simp [Lim_eq]
    refine call1_of ⟨s, l2, _, rfl, rfl, s1, s2, g2, g1, hd, fun n2 t9 n2w n2l hd => ?_⟩
    simp [Lim_eq]
    have near : ∀ (i : Nat) (d : D), [wd n1, wd n2][i]? = some d → ∃ r : List Int, d = wd r ∧ Lt s r ∧ r.length ≤ 200 := fun i d h => by
      match i, h with
      | 0, h => simp at h; exact ⟨n1, h.symm, n1w, n1l⟩
      | 1, h => simp at h; exact ⟨n2, h.symm, n2w, n2l⟩
      | i + 2, h => simp at h
    generalize hdue : rnd l = due at *
    refine forT (fun i e => ∃ o4 : Option T, e = [some (.val (.scr _)), some t9, some (.val (.int n)), some (.val (wd l)), o4, o5, some (.val (.int s)), some (.val (.int m)), some (.val (wd due)), some (.val (wd l2)), none]) (by simp) ⟨_, rfl⟩ ?_ ?_
    · rintro i e d K ⟨o4, rfl⟩ hd2 hK
      obtain ⟨r, rfl, rw_, rlen⟩ := near i d hd2
      simp
      refine call0_of ⟨.int s, wd r, rfl, rfl, rfl, rfl, i1 rlen, ns, fun _ => yes rw_ rlen, fun _ _ => ?_⟩
      rw [lts_wd]
      simp
      refine call0_of ⟨l, r, rfl, rfl, by omega, by omega, ?_⟩
      rw [hdue]
      have eq : decide (rnd r = due) = decide (due = rnd r) := by simp only [decide_eq_decide]; exact eq_comm
      rw [eq]
      simp
      exact hK _ ⟨_, rfl⟩
    rintro e ⟨o4, rfl⟩
    refine h1 _ ?_
    clear h1
    refine S_seq fun K1 h1 => ?_
    simp [Lim_eq]
    suffices nxt : ∀ lp : List Int, Lp s lp → K1 [some (.val (.scr _)), some t9, some (.val (.int n)), some (.val (wd l)), o4, some (.val (wd lp)), some (.val (.int s)), some (.val (.int m)), some (.val (wd due)), some (.val (wd l2)), none] by
      refine condK_ndec (fun h => ?_) (fun h => ?_)
      · exact nxt [0] ⟨rd_zero, by simp, fun x hx => by simp at hx; subst hx; omega, by simp⟩
      · exact nxt due ⟨by rw [← hdue]; exact rd_rnd l, h, dw, dl⟩
    intro lp hlp
    obtain ⟨p1, p2, p3, p4⟩ := id hlp
    refine h1 _ ?_
    clear h1
    refine S_seq fun K1 h1 => ?_
    simp
    refine call1_of ⟨s, lp, _, rfl, rfl, s1, s2, hlp, hd, fun t10 hd => ?_⟩
    simp
    refine call1_of ⟨s, lp, _, rfl, rfl, s1, s2, hlp, hd, fun t11 hd => ?_⟩
    simp
    refine h1 _ ?_
    clear h1
    simp
    refine call1_of ⟨s, lp, _, rfl, rfl, s1, s2, hlp, hd, fun xs t12 x1 x2 x3 hd => ?_⟩
    simp
    refine cmpF (fun _ => false) id (by simp) (by rw [Lim_eq]; omega) (fun i d K1 K2 hd2 k1 k2 => ?_) ?_
    · obtain ⟨d1, d2, d3⟩ := x3 d (List.mem_of_getElem? hd2)
      simp
      refine call0_of ⟨.int s, d, rfl, rfl, rfl, d1, d2, fun _ => ?_, ns⟩
      rw [show intOf (.int s) = s from rfl, d3]
      simp
      exact k2 rfl _ rfl
    · rw [show xs.filter (fun _ => false) = [] from List.filter_eq_nil_iff.mpr (by simp)]
      simp
      exact hK _ ⟨_, _, _, _, _, _, _, _, _, hd, rfl⟩
  · rintro e ⟨t, o2, o3, o4, o5, o6, o7, o8, o9, hd, rfl⟩
    refine h1 _ ?_
    simp
    exact hp
end LW
set_option Elab.async false
set_option linter.all false
set_option maxRecDepth 100000
set_option maxHeartbeats 0
namespace LW
open PySem PySem.Spec PyProof.Rows FW
def N_is_number : List Str := ["thing"]
def cs_is_number : Cs := { N := N_is_number, sc := L2.defScope s_is_number, fnb := fun _ => true, excs := mf.excs, nums := mf.nums, defs := mf.defs, gd := false, lam := false, cau := "_law_caught", net := mf.net, nets := mf.nets, isx := mf.isx, inis := mf.inis, fil := mf.fil, rai := false }
theorem chk_is_number : chkSs b_is_number cs_is_number (L2.defBody s_is_number) = true := by decide +kernel
theorem sc_is_number : L2.FnScope N_is_number ["thing"] (L2.defScope s_is_number) := ⟨rfl, rfl, rfl, by decide +kernel, rfl, by decide +kernel, by decide +kernel⟩
def N_is_between : List Str := ["thing", "low", "high"]
def cs_is_between : Cs := { N := N_is_between, sc := L2.defScope s_is_between, fnb := fun _ => true, excs := mf.excs, nums := mf.nums, defs := mf.defs, gd := false, lam := false, cau := "_law_caught", net := mf.net, nets := mf.nets, isx := mf.isx, inis := mf.inis, fil := mf.fil, rai := false }
theorem chk_is_between : chkSs b_is_between cs_is_between (L2.defBody s_is_between) = true := by decide +kernel
theorem sc_is_between : L2.FnScope N_is_between ["thing", "low", "high"] (L2.defScope s_is_between) := ⟨rfl, rfl, rfl, by decide +kernel, rfl, by decide +kernel, by decide +kernel⟩
def N_need_between : List Str := ["number", "low", "high", "part"]
def cs_need_between : Cs := { N := N_need_between, sc := L2.defScope s_need_between, fnb := fun _ => true, excs := mf.excs, nums := mf.nums, defs := mf.defs, gd := false, lam := false, cau := "_law_caught", net := mf.net, nets := mf.nets, isx := mf.isx, inis := mf.inis, fil := mf.fil, rai := true }
theorem chk_need_between : chkSs b_need_between cs_need_between (L2.defBody s_need_between) = true := by decide +kernel
theorem sc_need_between : L2.FnScope N_need_between ["number", "low", "high", "part"] (L2.defScope s_need_between) := ⟨rfl, rfl, rfl, by decide +kernel, rfl, by decide +kernel, by decide +kernel⟩
def N_need_size : List Str := ["size"]
def cs_need_size : Cs := { N := N_need_size, sc := L2.defScope s_need_size, fnb := fun _ => true, excs := mf.excs, nums := mf.nums, defs := mf.defs, gd := false, lam := false, cau := "_law_caught", net := mf.net, nets := mf.nets, isx := mf.isx, inis := mf.inis, fil := mf.fil, rai := false }
theorem chk_need_size : chkSs b_need_size cs_need_size (L2.defBody s_need_size) = true := by decide +kernel
theorem sc_need_size : L2.FnScope N_need_size ["size"] (L2.defScope s_need_size) := ⟨rfl, rfl, rfl, by decide +kernel, rfl, by decide +kernel, by decide +kernel⟩
def N_are_letters : List Str := ["size", "thing", "letter"]
def cs_are_letters : Cs := { N := N_are_letters, sc := L2.defScope s_are_letters, fnb := fun _ => true, excs := mf.excs, nums := mf.nums, defs := mf.defs, gd := false, lam := false, cau := "_law_caught", net := mf.net, nets := mf.nets, isx := mf.isx, inis := mf.inis, fil := mf.fil, rai := false }
theorem chk_are_letters : chkSs b_are_letters cs_are_letters (L2.defBody s_are_letters) = true := by decide +kernel
theorem sc_are_letters : L2.FnScope N_are_letters ["size", "thing"] (L2.defScope s_are_letters) := ⟨rfl, rfl, rfl, by decide +kernel, rfl, by decide +kernel, by decide +kernel⟩
def N_is_word : List Str := ["size", "thing"]
def cs_is_word : Cs := { N := N_is_word, sc := L2.defScope s_is_word, fnb := fun _ => true, excs := mf.excs, nums := mf.nums, defs := mf.defs, gd := false, lam := false, cau := "_law_caught", net := mf.net, nets := mf.nets, isx := mf.isx, inis := mf.inis, fil := mf.fil, rai := false }
theorem chk_is_word : chkSs b_is_word cs_is_word (L2.defBody s_is_word) = true := by decide +kernel
theorem sc_is_word : L2.FnScope N_is_word ["size", "thing"] (L2.defScope s_is_word) := ⟨rfl, rfl, rfl, by decide +kernel, rfl, by decide +kernel, by decide +kernel⟩
def N_need_word : List Str := ["size", "word"]
def cs_need_word : Cs := { N := N_need_word, sc := L2.defScope s_need_word, fnb := fun _ => true, excs := mf.excs, nums := mf.nums, defs := mf.defs, gd := false, lam := false, cau := "_law_caught", net := mf.net, nets := mf.nets, isx := mf.isx, inis := mf.inis, fil := mf.fil, rai := false }
theorem chk_need_word : chkSs b_need_word cs_need_word (L2.defBody s_need_word) = true := by decide +kernel
theorem sc_need_word : L2.FnScope N_need_word ["size", "word"] (L2.defScope s_need_word) := ⟨rfl, rfl, rfl, by decide +kernel, rfl, by decide +kernel, by decide +kernel⟩
def N_freed : List Str := ["word", "found", "letter"]
def cs_freed : Cs := { N := N_freed, sc := L2.defScope s_freed, fnb := fun _ => true, excs := mf.excs, nums := mf.nums, defs := mf.defs, gd := false, lam := false, cau := "_law_caught", net := mf.net, nets := mf.nets, isx := mf.isx, inis := mf.inis, fil := mf.fil, rai := false }
theorem chk_freed : chkSs b_freed cs_freed (L2.defBody s_freed) = true := by decide +kernel
theorem sc_freed : L2.FnScope N_freed ["word"] (L2.defScope s_freed) := ⟨rfl, rfl, rfl, by decide +kernel, rfl, by decide +kernel, by decide +kernel⟩
def N_undone_word : List Str := ["word", "letter"]
def cs_undone_word : Cs := { N := N_undone_word, sc := L2.defScope s_undone_word, fnb := fun _ => true, excs := mf.excs, nums := mf.nums, defs := mf.defs, gd := false, lam := false, cau := "_law_caught", net := mf.net, nets := mf.nets, isx := mf.isx, inis := mf.inis, fil := mf.fil, rai := false }
theorem chk_undone_word : chkSs b_undone_word cs_undone_word (L2.defBody s_undone_word) = true := by decide +kernel
theorem sc_undone_word : L2.FnScope N_undone_word ["word"] (L2.defScope s_undone_word) := ⟨rfl, rfl, rfl, by decide +kernel, rfl, by decide +kernel, by decide +kernel⟩
def N_least_spot : List Str := ["word", "one", "other", "same", "size", "first", "second"]
def cs_least_spot : Cs := { N := N_least_spot, sc := L2.defScope s_least_spot, fnb := fun _ => true, excs := mf.excs, nums := mf.nums, defs := mf.defs, gd := false, lam := false, cau := "_law_caught", net := mf.net, nets := mf.nets, isx := mf.isx, inis := mf.inis, fil := mf.fil, rai := false }
theorem chk_least_spot : chkSs b_least_spot cs_least_spot (L2.defBody s_least_spot) = true := by decide +kernel
theorem sc_least_spot : L2.FnScope N_least_spot ["word"] (L2.defScope s_least_spot) := ⟨rfl, rfl, rfl, by decide +kernel, rfl, by decide +kernel, by decide +kernel⟩
def N_least_turn : List Str := ["word", "core", "spot", "low", "high"]
def cs_least_turn : Cs := { N := N_least_turn, sc := L2.defScope s_least_turn, fnb := fun _ => true, excs := mf.excs, nums := mf.nums, defs := mf.defs, gd := false, lam := false, cau := "_law_caught", net := mf.net, nets := mf.nets, isx := mf.isx, inis := mf.inis, fil := mf.fil, rai := false }
theorem chk_least_turn : chkSs b_least_turn cs_least_turn (L2.defBody s_least_turn) = true := by decide +kernel
theorem sc_least_turn : L2.FnScope N_least_turn ["word"] (L2.defScope s_least_turn) := ⟨rfl, rfl, rfl, by decide +kernel, rfl, by decide +kernel, by decide +kernel⟩
def N_round_of : List Str := ["size", "word"]
def cs_round_of : Cs := { N := N_round_of, sc := L2.defScope s_round_of, fnb := fun _ => true, excs := mf.excs, nums := mf.nums, defs := mf.defs, gd := false, lam := false, cau := "_law_caught", net := mf.net, nets := mf.nets, isx := mf.isx, inis := mf.inis, fil := mf.fil, rai := false }
theorem chk_round_of : chkSs b_round_of cs_round_of (L2.defBody s_round_of) = true := by decide +kernel
theorem sc_round_of : L2.FnScope N_round_of ["size", "word"] (L2.defScope s_round_of) := ⟨rfl, rfl, rfl, by decide +kernel, rfl, by decide +kernel, by decide +kernel⟩
def N_is_round : List Str := ["size", "thing"]
def cs_is_round : Cs := { N := N_is_round, sc := L2.defScope s_is_round, fnb := fun _ => true, excs := mf.excs, nums := mf.nums, defs := mf.defs, gd := false, lam := false, cau := "_law_caught", net := mf.net, nets := mf.nets, isx := mf.isx, inis := mf.inis, fil := mf.fil, rai := false }
theorem chk_is_round : chkSs b_is_round cs_is_round (L2.defBody s_is_round) = true := by decide +kernel
theorem sc_is_round : L2.FnScope N_is_round ["size", "thing"] (L2.defScope s_is_round) := ⟨rfl, rfl, rfl, by decide +kernel, rfl, by decide +kernel, by decide +kernel⟩
def N_need_loop : List Str := ["size", "loop"]
def cs_need_loop : Cs := { N := N_need_loop, sc := L2.defScope s_need_loop, fnb := fun _ => true, excs := mf.excs, nums := mf.nums, defs := mf.defs, gd := false, lam := false, cau := "_law_caught", net := mf.net, nets := mf.nets, isx := mf.isx, inis := mf.inis, fil := mf.fil, rai := false }
theorem chk_need_loop : chkSs b_need_loop cs_need_loop (L2.defBody s_need_loop) = true := by decide +kernel
theorem sc_need_loop : L2.FnScope N_need_loop ["size", "loop"] (L2.defScope s_need_loop) := ⟨rfl, rfl, rfl, by decide +kernel, rfl, by decide +kernel, by decide +kernel⟩
def N_turned_about : List Str := ["size", "loop"]
def cs_turned_about : Cs := { N := N_turned_about, sc := L2.defScope s_turned_about, fnb := fun _ => true, excs := mf.excs, nums := mf.nums, defs := mf.defs, gd := false, lam := false, cau := "_law_caught", net := mf.net, nets := mf.nets, isx := mf.isx, inis := mf.inis, fil := mf.fil, rai := false }
theorem chk_turned_about : chkSs b_turned_about cs_turned_about (L2.defBody s_turned_about) = true := by decide +kernel
theorem sc_turned_about : L2.FnScope N_turned_about ["size", "loop"] (L2.defScope s_turned_about) := ⟨rfl, rfl, rfl, by decide +kernel, rfl, by decide +kernel, by decide +kernel⟩
def N_gone : List Str := ["size", "loop", "times"]
def cs_gone : Cs := { N := N_gone, sc := L2.defScope s_gone, fnb := fun _ => true, excs := mf.excs, nums := mf.nums, defs := mf.defs, gd := false, lam := false, cau := "_law_caught", net := mf.net, nets := mf.nets, isx := mf.isx, inis := mf.inis, fil := mf.fil, rai := false }
theorem chk_gone : chkSs b_gone cs_gone (L2.defBody s_gone) = true := by decide +kernel
theorem sc_gone : L2.FnScope N_gone ["size", "loop", "times"] (L2.defScope s_gone) := ⟨rfl, rfl, rfl, by decide +kernel, rfl, by decide +kernel, by decide +kernel⟩
def N_root_part : List Str := ["word", "size", "step"]
def cs_root_part : Cs := { N := N_root_part, sc := L2.defScope s_root_part, fnb := fun _ => true, excs := mf.excs, nums := mf.nums, defs := mf.defs, gd := false, lam := false, cau := "_law_caught", net := mf.net, nets := mf.nets, isx := mf.isx, inis := mf.inis, fil := mf.fil, rai := false }
theorem chk_root_part : chkSs b_root_part cs_root_part (L2.defBody s_root_part) = true := by decide +kernel
theorem sc_root_part : L2.FnScope N_root_part ["word"] (L2.defScope s_root_part) := ⟨rfl, rfl, rfl, by decide +kernel, rfl, by decide +kernel, by decide +kernel⟩
def N_root_of : List Str := ["size", "loop", "root"]
def cs_root_of : Cs := { N := N_root_of, sc := L2.defScope s_root_of, fnb := fun _ => true, excs := mf.excs, nums := mf.nums, defs := mf.defs, gd := false, lam := false, cau := "_law_caught", net := mf.net, nets := mf.nets, isx := mf.isx, inis := mf.inis, fil := mf.fil, rai := false }
theorem chk_root_of : chkSs b_root_of cs_root_of (L2.defBody s_root_of) = true := by decide +kernel
theorem sc_root_of : L2.FnScope N_root_of ["size", "loop"] (L2.defScope s_root_of) := ⟨rfl, rfl, rfl, by decide +kernel, rfl, by decide +kernel, by decide +kernel⟩
def N_along : List Str := ["size", "one", "other", "first", "second"]
def cs_along : Cs := { N := N_along, sc := L2.defScope s_along, fnb := fun _ => true, excs := mf.excs, nums := mf.nums, defs := mf.defs, gd := false, lam := false, cau := "_law_caught", net := mf.net, nets := mf.nets, isx := mf.isx, inis := mf.inis, fil := mf.fil, rai := false }
theorem chk_along : chkSs b_along cs_along (L2.defBody s_along) = true := by decide +kernel
theorem sc_along : L2.FnScope N_along ["size", "one", "other"] (L2.defScope s_along) := ⟨rfl, rfl, rfl, by decide +kernel, rfl, by decide +kernel, by decide +kernel⟩
def N__law_begun : List Str := ["script", "large", "grain"]
def cs__law_begun : Cs := { N := N__law_begun, sc := L2.defScope s__law_begun, fnb := fun _ => true, excs := mf.excs, nums := mf.nums, defs := mf.defs, gd := false, lam := false, cau := "_law_caught", net := mf.net, nets := mf.nets, isx := mf.isx, inis := mf.inis, fil := mf.fil, rai := false }
theorem chk__law_begun : chkSs b__law_begun cs__law_begun (L2.defBody s__law_begun) = true := by decide +kernel
theorem sc__law_begun : L2.FnScope N__law_begun ["script"] (L2.defScope s__law_begun) := ⟨rfl, rfl, rfl, by decide +kernel, rfl, by decide +kernel, by decide +kernel⟩
def N__law_mixed : List Str := ["draw", "great", "turn", "found", "blend", "grain"]
def cs__law_mixed : Cs := { N := N__law_mixed, sc := L2.defScope s__law_mixed, fnb := fun _ => true, excs := mf.excs, nums := mf.nums, defs := mf.defs, gd := false, lam := false, cau := "_law_caught", net := mf.net, nets := mf.nets, isx := mf.isx, inis := mf.inis, fil := mf.fil, rai := false }
theorem chk__law_mixed : chkSs b__law_mixed cs__law_mixed (L2.defBody s__law_mixed) = true := by decide +kernel
theorem sc__law_mixed : L2.FnScope N__law_mixed ["draw"] (L2.defScope s__law_mixed) := ⟨rfl, rfl, rfl, by decide +kernel, rfl, by decide +kernel, by decide +kernel⟩
def N__law_take : List Str := ["draw", "amount", "found"]
def cs__law_take : Cs := { N := N__law_take, sc := L2.defScope s__law_take, fnb := fun _ => true, excs := mf.excs, nums := mf.nums, defs := mf.defs, gd := false, lam := false, cau := "_law_caught", net := mf.net, nets := mf.nets, isx := mf.isx, inis := mf.inis, fil := mf.fil, rai := false }
theorem chk__law_take : chkSs b__law_take cs__law_take (L2.defBody s__law_take) = true := by decide +kernel
theorem sc__law_take : L2.FnScope N__law_take ["draw", "amount"] (L2.defScope s__law_take) := ⟨rfl, rfl, rfl, by decide +kernel, rfl, by decide +kernel, by decide +kernel⟩
def N__law_pick : List Str := ["draw", "some"]
def cs__law_pick : Cs := { N := N__law_pick, sc := L2.defScope s__law_pick, fnb := fun _ => true, excs := mf.excs, nums := mf.nums, defs := mf.defs, gd := false, lam := false, cau := "_law_caught", net := mf.net, nets := mf.nets, isx := mf.isx, inis := mf.inis, fil := mf.fil, rai := false }
theorem chk__law_pick : chkSs b__law_pick cs__law_pick (L2.defBody s__law_pick) = true := by decide +kernel
theorem sc__law_pick : L2.FnScope N__law_pick ["draw", "some"] (L2.defScope s__law_pick) := ⟨rfl, rfl, rfl, by decide +kernel, rfl, by decide +kernel, by decide +kernel⟩
theorem sc__law_caught : L2.FnScope ["work", "caught", "error"] ["work"] (L2.defScope s__law_caught) := ⟨rfl, rfl, rfl, by decide +kernel, rfl, by decide +kernel, by decide +kernel⟩
def N__law_is_truth : List Str := ["told", "due"]
def cs__law_is_truth : Cs := { N := N__law_is_truth, sc := L2.defScope s__law_is_truth, fnb := fun _ => true, excs := mf.excs, nums := mf.nums, defs := mf.defs, gd := false, lam := false, cau := "_law_caught", net := mf.net, nets := mf.nets, isx := mf.isx, inis := mf.inis, fil := mf.fil, rai := false }
theorem chk__law_is_truth : chkSs b__law_is_truth cs__law_is_truth (L2.defBody s__law_is_truth) = true := by decide +kernel
theorem sc__law_is_truth : L2.FnScope N__law_is_truth ["told", "due"] (L2.defScope s__law_is_truth) := ⟨rfl, rfl, rfl, by decide +kernel, rfl, by decide +kernel, by decide +kernel⟩
def N__law_freed : List Str := ["row", "found", "item"]
def cs__law_freed : Cs := { N := N__law_freed, sc := L2.defScope s__law_freed, fnb := fun _ => true, excs := mf.excs, nums := mf.nums, defs := mf.defs, gd := false, lam := false, cau := "_law_caught", net := mf.net, nets := mf.nets, isx := mf.isx, inis := mf.inis, fil := mf.fil, rai := false }
theorem chk__law_freed : chkSs b__law_freed cs__law_freed (L2.defBody s__law_freed) = true := by decide +kernel
theorem sc__law_freed : L2.FnScope N__law_freed ["row"] (L2.defScope s__law_freed) := ⟨rfl, rfl, rfl, by decide +kernel, rfl, by decide +kernel, by decide +kernel⟩
def N__law_back : List Str := ["row", "item"]
def cs__law_back : Cs := { N := N__law_back, sc := L2.defScope s__law_back, fnb := fun _ => true, excs := mf.excs, nums := mf.nums, defs := mf.defs, gd := false, lam := false, cau := "_law_caught", net := mf.net, nets := mf.nets, isx := mf.isx, inis := mf.inis, fil := mf.fil, rai := false }
theorem chk__law_back : chkSs b__law_back cs__law_back (L2.defBody s__law_back) = true := by decide +kernel
theorem sc__law_back : L2.FnScope N__law_back ["row"] (L2.defScope s__law_back) := ⟨rfl, rfl, rfl, by decide +kernel, rfl, by decide +kernel, by decide +kernel⟩
def N__law_least_turn : List Str := ["row", "left", "at"]
def cs__law_least_turn : Cs := { N := N__law_least_turn, sc := L2.defScope s__law_least_turn, fnb := fun _ => true, excs := mf.excs, nums := mf.nums, defs := mf.defs, gd := false, lam := false, cau := "_law_caught", net := mf.net, nets := mf.nets, isx := mf.isx, inis := mf.inis, fil := mf.fil, rai := false }
theorem chk__law_least_turn : chkSs b__law_least_turn cs__law_least_turn (L2.defBody s__law_least_turn) = true := by decide +kernel
theorem sc__law_least_turn : L2.FnScope N__law_least_turn ["row"] (L2.defScope s__law_least_turn) := ⟨rfl, rfl, rfl, by decide +kernel, rfl, by decide +kernel, by decide +kernel⟩
def N__law_row : List Str := ["draw", "size", "many", "lap"]
def cs__law_row : Cs := { N := N__law_row, sc := L2.defScope s__law_row, fnb := fun _ => true, excs := mf.excs, nums := mf.nums, defs := mf.defs, gd := false, lam := false, cau := "_law_caught", net := mf.net, nets := mf.nets, isx := mf.isx, inis := mf.inis, fil := mf.fil, rai := false }
theorem chk__law_row : chkSs b__law_row cs__law_row (L2.defBody s__law_row) = true := by decide +kernel
theorem sc__law_row : L2.FnScope N__law_row ["draw", "size", "many"] (L2.defScope s__law_row) := ⟨rfl, rfl, rfl, by decide +kernel, rfl, by decide +kernel, by decide +kernel⟩
def N__law_free_row : List Str := ["draw", "size", "many", "found", "lap", "item"]
def cs__law_free_row : Cs := { N := N__law_free_row, sc := L2.defScope s__law_free_row, fnb := fun _ => true, excs := mf.excs, nums := mf.nums, defs := mf.defs, gd := false, lam := false, cau := "_law_caught", net := mf.net, nets := mf.nets, isx := mf.isx, inis := mf.inis, fil := mf.fil, rai := false }
theorem chk__law_free_row : chkSs b__law_free_row cs__law_free_row (L2.defBody s__law_free_row) = true := by decide +kernel
theorem sc__law_free_row : L2.FnScope N__law_free_row ["draw", "size", "many"] (L2.defScope s__law_free_row) := ⟨rfl, rfl, rfl, by decide +kernel, rfl, by decide +kernel, by decide +kernel⟩
def N__law_odd_size : List Str := ["draw"]
def cs__law_odd_size : Cs := { N := N__law_odd_size, sc := L2.defScope s__law_odd_size, fnb := fun _ => true, excs := mf.excs, nums := mf.nums, defs := mf.defs, gd := false, lam := false, cau := "_law_caught", net := mf.net, nets := mf.nets, isx := mf.isx, inis := mf.inis, fil := mf.fil, rai := false }
theorem chk__law_odd_size : chkSs b__law_odd_size cs__law_odd_size (L2.defBody s__law_odd_size) = true := by decide +kernel
theorem sc__law_odd_size : L2.FnScope N__law_odd_size ["draw"] (L2.defScope s__law_odd_size) := ⟨rfl, rfl, rfl, by decide +kernel, rfl, by decide +kernel, by decide +kernel⟩
def N__law_led_about : List Str := ["draw", "size", "row", "found", "lap", "at", "by", "item"]
def cs__law_led_about : Cs := { N := N__law_led_about, sc := L2.defScope s__law_led_about, fnb := fun _ => true, excs := mf.excs, nums := mf.nums, defs := mf.defs, gd := false, lam := false, cau := "_law_caught", net := mf.net, nets := mf.nets, isx := mf.isx, inis := mf.inis, fil := mf.fil, rai := false }
theorem chk__law_led_about : chkSs b__law_led_about cs__law_led_about (L2.defBody s__law_led_about) = true := by decide +kernel
theorem sc__law_led_about : L2.FnScope N__law_led_about ["draw", "size", "row"] (L2.defScope s__law_led_about) := ⟨rfl, rfl, rfl, by decide +kernel, rfl, by decide +kernel, by decide +kernel⟩
def N__law_are_one : List Str := ["one", "other", "rows", "row", "left", "at"]
def cs__law_are_one : Cs := { N := N__law_are_one, sc := L2.defScope s__law_are_one, fnb := fun _ => true, excs := mf.excs, nums := mf.nums, defs := mf.defs, gd := false, lam := false, cau := "_law_caught", net := mf.net, nets := mf.nets, isx := mf.isx, inis := mf.inis, fil := mf.fil, rai := false }
theorem chk__law_are_one : chkSs b__law_are_one cs__law_are_one (L2.defBody s__law_are_one) = true := by decide +kernel
theorem sc__law_are_one : L2.FnScope N__law_are_one ["one", "other"] (L2.defScope s__law_are_one) := ⟨rfl, rfl, rfl, by decide +kernel, rfl, by decide +kernel, by decide +kernel⟩
def N__law_near : List Str := ["draw", "size", "row", "way", "found", "at"]
def cs__law_near : Cs := { N := N__law_near, sc := L2.defScope s__law_near, fnb := fun _ => true, excs := mf.excs, nums := mf.nums, defs := mf.defs, gd := false, lam := false, cau := "_law_caught", net := mf.net, nets := mf.nets, isx := mf.isx, inis := mf.inis, fil := mf.fil, rai := false }
theorem chk__law_near : chkSs b__law_near cs__law_near (L2.defBody s__law_near) = true := by decide +kernel
theorem sc__law_near : L2.FnScope N__law_near ["draw", "size", "row"] (L2.defScope s__law_near) := ⟨rfl, rfl, rfl, by decide +kernel, rfl, by decide +kernel, by decide +kernel⟩
def N__law_none : List Str := ["draw", "size", "loop", "found", "turns", "at"]
def cs__law_none : Cs := { N := N__law_none, sc := L2.defScope s__law_none, fnb := fun _ => true, excs := mf.excs, nums := mf.nums, defs := mf.defs, gd := false, lam := false, cau := "_law_caught", net := mf.net, nets := mf.nets, isx := mf.isx, inis := mf.inis, fil := mf.fil, rai := false }
theorem chk__law_none : chkSs b__law_none cs__law_none (L2.defBody s__law_none) = true := by decide +kernel
theorem sc__law_none : L2.FnScope N__law_none ["draw", "size", "loop"] (L2.defScope s__law_none) := ⟨rfl, rfl, rfl, by decide +kernel, rfl, by decide +kernel, by decide +kernel⟩
def N__law_round_right : List Str := ["draw", "size", "loop", "step", "back", "times", "more", "other", "mate", "due"]
def cs__law_round_right : Cs := { N := N__law_round_right, sc := L2.defScope s__law_round_right, fnb := fun _ => true, excs := mf.excs, nums := mf.nums, defs := mf.defs, gd := true, lam := false, cau := "_law_caught", net := mf.net, nets := mf.nets, isx := mf.isx, inis := mf.inis, fil := mf.fil, rai := false }
theorem chk__law_round_right : chkSs b__law_round_right cs__law_round_right (L2.defBody s__law_round_right) = true := by decide +kernel
theorem sc__law_round_right : L2.FnScope N__law_round_right ["draw", "size", "loop"] (L2.defScope s__law_round_right) := ⟨rfl, rfl, rfl, by decide +kernel, rfl, by decide +kernel, by decide +kernel⟩
def N__law_go_along : List Str := ["one", "other", "rows", "loop", "step"]
def cs__law_go_along : Cs := { N := N__law_go_along, sc := L2.defScope s__law_go_along, fnb := fun _ => true, excs := mf.excs, nums := mf.nums, defs := mf.defs, gd := false, lam := false, cau := "_law_caught", net := mf.net, nets := mf.nets, isx := mf.isx, inis := mf.inis, fil := mf.fil, rai := false }
theorem chk__law_go_along : chkSs b__law_go_along cs__law_go_along (L2.defBody s__law_go_along) = true := by decide +kernel
theorem sc__law_go_along : L2.FnScope N__law_go_along ["one", "other"] (L2.defScope s__law_go_along) := ⟨rfl, rfl, rfl, by decide +kernel, rfl, by decide +kernel, by decide +kernel⟩
def N__law_refused : List Str := ["draw", "size", "loop", "no", "works", "error", "odd", "bad", "work"]
def cs__law_refused : Cs := { N := N__law_refused, sc := L2.defScope s__law_refused, fnb := fun _ => true, excs := mf.excs, nums := mf.nums, defs := mf.defs, gd := false, lam := true, cau := "_law_caught", net := mf.net, nets := mf.nets, isx := mf.isx, inis := mf.inis, fil := mf.fil, rai := false }
theorem chk__law_refused (cf : CF) : chkSs (b__law_refused cf) cs__law_refused (L2.defBody s__law_refused) = true := by kernel_rfl
theorem sc__law_refused : L2.FnScope N__law_refused ["draw", "size", "loop"] (L2.defScope s__law_refused) := ⟨rfl, rfl, rfl, by decide +kernel, rfl, by decide +kernel, by decide +kernel⟩
def N_law : List Str := ["script", "draw", "turn", "row", "mate", "loop", "size", "many", "due", "other", "bad"]
def cs_law : Cs := { N := N_law, sc := L2.defScope s_law, fnb := fun _ => true, excs := mf.excs, nums := mf.nums, defs := mf.defs, gd := true, lam := false, cau := "_law_caught", net := mf.net, nets := mf.nets, isx := mf.isx, inis := mf.inis, fil := mf.fil, rai := false }
theorem chk_law : chkSs b_law cs_law (L2.defBody s_law) = true := by decide +kernel
theorem sc_law : L2.FnScope N_law ["script"] (L2.defScope s_law) := ⟨rfl, rfl, rfl, by decide +kernel, rfl, by decide +kernel, by decide +kernel⟩
def cpos : List Stmt → Nat → Pos
  | [.Assign [.Name _ p0] (.Constant .none _ p1) p2, .Try [.Expr (.Call (.Name _ p3) [] [] p4) p5] [.ExceptHandler (some (.Name _ p6)) _ [.Assign [.Name _ p7] (.Name _ p8) p9] p10] [] [] p11, .Return (some (.Name _ p12)) p13], n => [p0, p1, p2, p3, p4, p5, p6, p7, p8, p9, p10, p11, p12, p13].getD n ⟨0, 0, 0, 0⟩
  | _, _ => ⟨0, 0, 0, 0⟩
def cjj : List Stmt → Nat
  | .Assign _ (.Constant _ j _) _ :: _ => j
  | _ => 0
theorem cbody : L2.defBody s__law_caught = caughtBody "work" "caught" "error" mf.net (cjj (L2.defBody s__law_caught)) (cpos (L2.defBody s__law_caught)) := by rfl
theorem fok_law {w : World} {mg : Str → Option Value} {h base : Heap} {K : PySem.W.Frag} (s : SaysM mf lams fnL K h) (Nn : h.Ns mainGlobals mg) (TB : ∀ p ∈ tabL K lams, LamX.TabB base mg p.1 p.2) : Fok PW w K mg base (GCm K mg lams) 10 "law" c_law := by
  have cau : CauOk K mg "_law_caught" mf.net := cau_of (params := L2.defArgs s__law_caught) (body := L2.defBody s__law_caught) (scope := L2.defScope s__law_caught) 23 s Nn rfl (by decide) cbody rfl (fun _ _ _ _ _ _ us hl => match us, hl with | [_], _ => rfl) sc__law_caught rfl rfl rfl rfl rfl ⟨⟨rfl, rfl⟩, ⟨rfl, rfl⟩, rfl, rfl⟩
  have h__law_freed : Fok PW w K mg base (GCm K mg lams) 1 "_law_freed" c__law_freed := fok1 (params := L2.defArgs s__law_freed) (body := L2.defBody s__law_freed) (scope := L2.defScope s__law_freed) (b := b__law_freed) (c := cs__law_freed) (k := 0) 25 s Nn TB (fun z => nomatch z) rfl (by decide) (fun z => nomatch z) sc__law_freed ⟨rfl, rfl, rfl⟩ ⟨rfl, rfl, rfl, rfl, rfl, rfl, rfl, rfl⟩ (by decide) (fun z => nomatch z)
    (fun _ _ _ _ _ _ us hl => match us, hl with | [_], _ => rfl) rfl (fun ks pm hk => nomatch (show (ks, pm) ∈ ([] : List (List Str × List Nat)) from hk)) rfl chk__law_freed (by intro _; simp only [okI, b__law_freed, and_true, true_and]) (W.wp w__law_freed)
  have h__law_are_one : Fok PW w K mg base (GCm K mg lams) 2 "_law_are_one" c__law_are_one := fok1 (params := L2.defArgs s__law_are_one) (body := L2.defBody s__law_are_one) (scope := L2.defScope s__law_are_one) (b := b__law_are_one) (c := cs__law_are_one) (k := 1) 32 s Nn TB (fun z => nomatch z) rfl (by decide) (fun z => nomatch z) sc__law_are_one ⟨rfl, rfl, rfl⟩ ⟨rfl, rfl, rfl, rfl, rfl, rfl, rfl, rfl⟩ (by decide) (fun z => nomatch z)
    (fun _ _ _ _ _ _ us hl => match us, hl with | [_, _], _ => rfl) rfl (fun ks pm hk => nomatch (show (ks, pm) ∈ ([] : List (List Str × List Nat)) from hk)) rfl chk__law_are_one (by
    intro _
    have g__law_freed := h__law_freed.mono (show 1 ≤ 1 by decide)
    try simp only [okI, b__law_are_one, List.forall_mem_cons, List.not_mem_nil, false_implies, implies_true, and_true, true_and]
    and_intros <;> first | assumption | trivial | rfl) (W.wp w__law_are_one)
  have h__law_begun : Fok PW w K mg base (GCm K mg lams) 1 "_law_begun" c__law_begun := fok1 (params := L2.defArgs s__law_begun) (body := L2.defBody s__law_begun) (scope := L2.defScope s__law_begun) (b := b__law_begun) (c := cs__law_begun) (k := 0) 19 s Nn TB (fun z => nomatch z) rfl (by decide) (fun z => nomatch z) sc__law_begun ⟨rfl, rfl, rfl⟩ ⟨rfl, rfl, rfl, rfl, rfl, rfl, rfl, rfl⟩ (by decide) (fun z => nomatch z)
    (fun _ _ _ _ _ _ us hl => match us, hl with | [_], _ => rfl) rfl (fun ks pm hk => nomatch (show (ks, pm) ∈ ([] : List (List Str × List Nat)) from hk)) rfl chk__law_begun (by intro _; simp only [okI, b__law_begun, and_true, true_and]) (W.wp w__law_begun)
  have h__law_mixed : Fok PW w K mg base (GCm K mg lams) 1 "_law_mixed" c__law_mixed := fok1 (params := L2.defArgs s__law_mixed) (body := L2.defBody s__law_mixed) (scope := L2.defScope s__law_mixed) (b := b__law_mixed) (c := cs__law_mixed) (k := 0) 20 s Nn TB (fun z => nomatch z) rfl (by decide) (fun z => nomatch z) sc__law_mixed ⟨rfl, rfl, rfl⟩ ⟨rfl, rfl, rfl, rfl, rfl, rfl, rfl, rfl⟩ (by decide) (fun z => nomatch z)
    (fun _ _ _ _ _ _ us hl => match us, hl with | [_], _ => rfl) rfl (fun ks pm hk => nomatch (show (ks, pm) ∈ ([] : List (List Str × List Nat)) from hk)) rfl chk__law_mixed (by intro _; simp only [okI, b__law_mixed, and_true, true_and]) (W.wp w__law_mixed)
  have h__law_take : Fok PW w K mg base (GCm K mg lams) 2 "_law_take" c__law_take := fok1 (params := L2.defArgs s__law_take) (body := L2.defBody s__law_take) (scope := L2.defScope s__law_take) (b := b__law_take) (c := cs__law_take) (k := 1) 21 s Nn TB (fun z => nomatch z) rfl (by decide) (fun z => nomatch z) sc__law_take ⟨rfl, rfl, rfl⟩ ⟨rfl, rfl, rfl, rfl, rfl, rfl, rfl, rfl⟩ (by decide) (fun z => nomatch z)
    (fun _ _ _ _ _ _ us hl => match us, hl with | [_, _], _ => rfl) rfl (fun ks pm hk => nomatch (show (ks, pm) ∈ ([] : List (List Str × List Nat)) from hk)) rfl chk__law_take (by
    intro _
    have g__law_mixed := h__law_mixed.mono (show 1 ≤ 1 by decide)
    try simp only [okI, b__law_take, List.forall_mem_cons, List.not_mem_nil, false_implies, implies_true, and_true, true_and]
    and_intros <;> first | assumption | trivial | rfl) (W.wp w__law_take)
  have h__law_pick : Fok PW w K mg base (GCm K mg lams) 3 "_law_pick" c__law_pick := fok1 (params := L2.defArgs s__law_pick) (body := L2.defBody s__law_pick) (scope := L2.defScope s__law_pick) (b := b__law_pick) (c := cs__law_pick) (k := 2) 22 s Nn TB (fun z => nomatch z) rfl (by decide) (fun z => nomatch z) sc__law_pick ⟨rfl, rfl, rfl⟩ ⟨rfl, rfl, rfl, rfl, rfl, rfl, rfl, rfl⟩ (by decide) (fun z => nomatch z)
    (fun _ _ _ _ _ _ us hl => match us, hl with | [_, _], _ => rfl) rfl (fun ks pm hk => nomatch (show (ks, pm) ∈ ([] : List (List Str × List Nat)) from hk)) rfl chk__law_pick (by
    intro _
    have g__law_take := h__law_take.mono (show 2 ≤ 2 by decide)
    try simp only [okI, b__law_pick, List.forall_mem_cons, List.not_mem_nil, false_implies, implies_true, and_true, true_and]
    and_intros <;> first | assumption | trivial | rfl) (W.wp w__law_pick)
  have h__law_free_row : Fok PW w K mg base (GCm K mg lams) 4 "_law_free_row" c__law_free_row := fok1 (params := L2.defArgs s__law_free_row) (body := L2.defBody s__law_free_row) (scope := L2.defScope s__law_free_row) (b := b__law_free_row) (c := cs__law_free_row) (k := 3) 29 s Nn TB (fun z => nomatch z) rfl (by decide) (fun z => nomatch z) sc__law_free_row ⟨rfl, rfl, rfl⟩ ⟨rfl, rfl, rfl, rfl, rfl, rfl, rfl, rfl⟩ (by decide) (fun z => nomatch z)
    (fun _ _ _ _ _ _ us hl => match us, hl with | [_, _, _], _ => rfl) rfl (fun ks pm hk => nomatch (show (ks, pm) ∈ ([] : List (List Str × List Nat)) from hk)) rfl chk__law_free_row (by
    intro _
    have g__law_pick := h__law_pick.mono (show 3 ≤ 3 by decide)
    try simp only [okI, b__law_free_row, List.forall_mem_cons, List.not_mem_nil, false_implies, implies_true, and_true, true_and]
    and_intros <;> first | assumption | trivial | rfl) (W.wp w__law_free_row)
  have h__law_least_turn : Fok PW w K mg base (GCm K mg lams) 2 "_law_least_turn" c__law_least_turn := fok1 (params := L2.defArgs s__law_least_turn) (body := L2.defBody s__law_least_turn) (scope := L2.defScope s__law_least_turn) (b := b__law_least_turn) (c := cs__law_least_turn) (k := 1) 27 s Nn TB (fun z => nomatch z) rfl (by decide) (fun z => nomatch z) sc__law_least_turn ⟨rfl, rfl, rfl⟩ ⟨rfl, rfl, rfl, rfl, rfl, rfl, rfl, rfl⟩ (by decide) (fun z => nomatch z)
    (fun _ _ _ _ _ _ us hl => match us, hl with | [_], _ => rfl) rfl (fun ks pm hk => nomatch (show (ks, pm) ∈ ([] : List (List Str × List Nat)) from hk)) rfl chk__law_least_turn (by
    intro _
    have g__law_freed := h__law_freed.mono (show 1 ≤ 1 by decide)
    try simp only [okI, b__law_least_turn, List.forall_mem_cons, List.not_mem_nil, false_implies, implies_true, and_true, true_and]
    and_intros <;> first | assumption | trivial | rfl) (W.wp w__law_least_turn)
  have h__law_back : Fok PW w K mg base (GCm K mg lams) 1 "_law_back" c__law_back := fok1 (params := L2.defArgs s__law_back) (body := L2.defBody s__law_back) (scope := L2.defScope s__law_back) (b := b__law_back) (c := cs__law_back) (k := 0) 26 s Nn TB (fun z => nomatch z) rfl (by decide) (fun z => nomatch z) sc__law_back ⟨rfl, rfl, rfl⟩ ⟨rfl, rfl, rfl, rfl, rfl, rfl, rfl, rfl⟩ (by decide) (fun z => nomatch z)
    (fun _ _ _ _ _ _ us hl => match us, hl with | [_], _ => rfl) rfl (fun ks pm hk => nomatch (show (ks, pm) ∈ ([] : List (List Str × List Nat)) from hk)) rfl chk__law_back (by intro _; simp only [okI, b__law_back, and_true, true_and]) (W.wp w__law_back)
  have h__law_row : Fok PW w K mg base (GCm K mg lams) 3 "_law_row" c__law_row := fok1 (params := L2.defArgs s__law_row) (body := L2.defBody s__law_row) (scope := L2.defScope s__law_row) (b := b__law_row) (c := cs__law_row) (k := 2) 28 s Nn TB (fun z => nomatch z) rfl (by decide) (fun z => nomatch z) sc__law_row ⟨rfl, rfl, rfl⟩ ⟨rfl, rfl, rfl, rfl, rfl, rfl, rfl, rfl⟩ (by decide) (fun z => nomatch z)
    (fun _ _ _ _ _ _ us hl => match us, hl with | [_, _, _], _ => rfl) rfl (fun ks pm hk => nomatch (show (ks, pm) ∈ ([] : List (List Str × List Nat)) from hk)) rfl chk__law_row (by
    intro _
    have g__law_take := h__law_take.mono (show 2 ≤ 2 by decide)
    try simp only [okI, b__law_row, List.forall_mem_cons, List.not_mem_nil, false_implies, implies_true, and_true, true_and]
    and_intros <;> first | assumption | trivial | rfl) (W.wp w__law_row)
  have h__law_led_about : Fok PW w K mg base (GCm K mg lams) 4 "_law_led_about" c__law_led_about := fok1 (params := L2.defArgs s__law_led_about) (body := L2.defBody s__law_led_about) (scope := L2.defScope s__law_led_about) (b := b__law_led_about) (c := cs__law_led_about) (k := 3) 31 s Nn TB (fun z => nomatch z) rfl (by decide) (fun z => nomatch z) sc__law_led_about ⟨rfl, rfl, rfl⟩ ⟨rfl, rfl, rfl, rfl, rfl, rfl, rfl, rfl⟩ (by decide) (fun z => nomatch z)
    (fun _ _ _ _ _ _ us hl => match us, hl with | [_, _, _], _ => rfl) rfl (fun ks pm hk => nomatch (show (ks, pm) ∈ ([] : List (List Str × List Nat)) from hk)) rfl chk__law_led_about (by
    intro _
    have g__law_back := h__law_back.mono (show 1 ≤ 3 by decide)
    have g__law_row := h__law_row.mono (show 3 ≤ 3 by decide)
    have g__law_take := h__law_take.mono (show 2 ≤ 3 by decide)
    try simp only [okI, b__law_led_about, List.forall_mem_cons, List.not_mem_nil, false_implies, implies_true, and_true, true_and]
    and_intros <;> first | assumption | trivial | rfl) (W.wp w__law_led_about)
  have h__law_near : Fok PW w K mg base (GCm K mg lams) 3 "_law_near" c__law_near := fok1 (params := L2.defArgs s__law_near) (body := L2.defBody s__law_near) (scope := L2.defScope s__law_near) (b := b__law_near) (c := cs__law_near) (k := 2) 33 s Nn TB (fun z => nomatch z) rfl (by decide) (fun z => nomatch z) sc__law_near ⟨rfl, rfl, rfl⟩ ⟨rfl, rfl, rfl, rfl, rfl, rfl, rfl, rfl⟩ (by decide) (fun z => nomatch z)
    (fun _ _ _ _ _ _ us hl => match us, hl with | [_, _, _], _ => rfl) rfl (fun ks pm hk => nomatch (show (ks, pm) ∈ ([] : List (List Str × List Nat)) from hk)) rfl chk__law_near (by
    intro _
    have g__law_take := h__law_take.mono (show 2 ≤ 2 by decide)
    try simp only [okI, b__law_near, List.forall_mem_cons, List.not_mem_nil, false_implies, implies_true, and_true, true_and]
    and_intros <;> first | assumption | trivial | rfl) (W.wp w__law_near)
  have h__law_none : Fok PW w K mg base (GCm K mg lams) 4 "_law_none" c__law_none := fok1 (params := L2.defArgs s__law_none) (body := L2.defBody s__law_none) (scope := L2.defScope s__law_none) (b := b__law_none) (c := cs__law_none) (k := 3) 34 s Nn TB (fun z => nomatch z) rfl (by decide) (fun z => nomatch z) sc__law_none ⟨rfl, rfl, rfl⟩ ⟨rfl, rfl, rfl, rfl, rfl, rfl, rfl, rfl⟩ (by decide) (fun z => nomatch z)
    (fun _ _ _ _ _ _ us hl => match us, hl with | [_, _, _], _ => rfl) rfl (fun ks pm hk => nomatch (show (ks, pm) ∈ ([] : List (List Str × List Nat)) from hk)) rfl chk__law_none (by
    intro _
    have g__law_pick := h__law_pick.mono (show 3 ≤ 3 by decide)
    try simp only [okI, b__law_none, List.forall_mem_cons, List.not_mem_nil, false_implies, implies_true, and_true, true_and]
    and_intros <;> first | assumption | trivial | rfl) (W.wp w__law_none)
  have h__law_odd_size : Fok PW w K mg base (GCm K mg lams) 4 "_law_odd_size" c__law_odd_size := fok1 (params := L2.defArgs s__law_odd_size) (body := L2.defBody s__law_odd_size) (scope := L2.defScope s__law_odd_size) (b := b__law_odd_size) (c := cs__law_odd_size) (k := 3) 30 s Nn TB (fun z => nomatch z) rfl (by decide) (fun z => nomatch z) sc__law_odd_size ⟨rfl, rfl, rfl⟩ ⟨rfl, rfl, rfl, rfl, rfl, rfl, rfl, rfl⟩ (by decide) (fun z => nomatch z)
    (fun _ _ _ _ _ _ us hl => match us, hl with | [_], _ => rfl) rfl (fun ks pm hk => nomatch (show (ks, pm) ∈ ([] : List (List Str × List Nat)) from hk)) rfl chk__law_odd_size (by
    intro _
    have g__law_pick := h__law_pick.mono (show 3 ≤ 3 by decide)
    try simp only [okI, b__law_odd_size, List.forall_mem_cons, List.not_mem_nil, false_implies, implies_true, and_true, true_and]
    and_intros <;> first | assumption | trivial | rfl) (W.wp w__law_odd_size)
  have h_freed : Fok PW w K mg base (GCm K mg lams) 1 "freed" c_freed := fok1 (params := L2.defArgs s_freed) (body := L2.defBody s_freed) (scope := L2.defScope s_freed) (b := b_freed) (c := cs_freed) (k := 0) 7 s Nn TB (fun z => nomatch z) rfl (by decide) (fun z => nomatch z) sc_freed ⟨rfl, rfl, rfl⟩ ⟨rfl, rfl, rfl, rfl, rfl, rfl, rfl, rfl⟩ (by decide) (fun z => nomatch z)
    (fun _ _ _ _ _ _ us hl => match us, hl with | [_], _ => rfl) rfl (fun ks pm hk => nomatch (show (ks, pm) ∈ ([] : List (List Str × List Nat)) from hk)) rfl chk_freed (by intro _; simp only [okI, b_freed, and_true, true_and]) (W.wp w_freed)
  have h_least_spot : Fok PW w K mg base (GCm K mg lams) 1 "least_spot" c_least_spot := fok1 (params := L2.defArgs s_least_spot) (body := L2.defBody s_least_spot) (scope := L2.defScope s_least_spot) (b := b_least_spot) (c := cs_least_spot) (k := 0) 9 s Nn TB (fun z => nomatch z) rfl (by decide) (fun z => nomatch z) sc_least_spot ⟨rfl, rfl, rfl⟩ ⟨rfl, rfl, rfl, rfl, rfl, rfl, rfl, rfl⟩ (by decide) (fun z => nomatch z)
    (fun _ _ _ _ _ _ us hl => match us, hl with | [_], _ => rfl) rfl (fun ks pm hk => nomatch (show (ks, pm) ∈ ([] : List (List Str × List Nat)) from hk)) rfl chk_least_spot (by intro _; simp only [okI, b_least_spot, and_true, true_and]) (W.wp w_least_spot)
  have h_least_turn : Fok PW w K mg base (GCm K mg lams) 2 "least_turn" c_least_turn := fok1 (params := L2.defArgs s_least_turn) (body := L2.defBody s_least_turn) (scope := L2.defScope s_least_turn) (b := b_least_turn) (c := cs_least_turn) (k := 1) 10 s Nn TB (fun z => nomatch z) rfl (by decide) (fun z => nomatch z) sc_least_turn ⟨rfl, rfl, rfl⟩ ⟨rfl, rfl, rfl, rfl, rfl, rfl, rfl, rfl⟩ (by decide) (fun z => nomatch z)
    (fun _ _ _ _ _ _ us hl => match us, hl with | [_], _ => rfl) rfl (fun ks pm hk => nomatch (show (ks, pm) ∈ ([] : List (List Str × List Nat)) from hk)) rfl chk_least_turn (by
    intro _
    have g_freed := h_freed.mono (show 1 ≤ 1 by decide)
    have g_least_spot := h_least_spot.mono (show 1 ≤ 1 by decide)
    try simp only [okI, b_least_turn, List.forall_mem_cons, List.not_mem_nil, false_implies, implies_true, and_true, true_and]
    and_intros <;> first | assumption | trivial | rfl) (W.wp w_least_turn)
  have h_is_number : Fok PW w K mg base (GCm K mg lams) 1 "is_number" c_is_number := fok1 (params := L2.defArgs s_is_number) (body := L2.defBody s_is_number) (scope := L2.defScope s_is_number) (b := b_is_number) (c := cs_is_number) (k := 0) 0 s Nn TB (fun z => nomatch z) rfl (by decide) (fun z => nomatch z) sc_is_number ⟨rfl, rfl, rfl⟩ ⟨rfl, rfl, rfl, rfl, rfl, rfl, rfl, rfl⟩ (by decide) (fun z => nomatch z)
    (fun _ _ _ _ _ _ us hl => match us, hl with | [_], _ => rfl) rfl (fun ks pm hk => nomatch (show (ks, pm) ∈ ([] : List (List Str × List Nat)) from hk)) rfl chk_is_number (by intro _; simp only [okI, b_is_number, and_true, true_and]) (W.wp w_is_number)
  have h_is_between : Fok PW w K mg base (GCm K mg lams) 2 "is_between" c_is_between := fok1 (params := L2.defArgs s_is_between) (body := L2.defBody s_is_between) (scope := L2.defScope s_is_between) (b := b_is_between) (c := cs_is_between) (k := 1) 1 s Nn TB (fun z => nomatch z) rfl (by decide) (fun z => nomatch z) sc_is_between ⟨rfl, rfl, rfl⟩ ⟨rfl, rfl, rfl, rfl, rfl, rfl, rfl, rfl⟩ (by decide) (fun z => nomatch z)
    (fun _ _ _ _ _ _ us hl => match us, hl with | [_, _, _], _ => rfl) rfl (fun ks pm hk => nomatch (show (ks, pm) ∈ ([] : List (List Str × List Nat)) from hk)) rfl chk_is_between (by
    intro _
    have g_is_number := h_is_number.mono (show 1 ≤ 1 by decide)
    try simp only [okI, b_is_between, List.forall_mem_cons, List.not_mem_nil, false_implies, implies_true, and_true, true_and]
    and_intros <;> first | assumption | trivial | rfl) (W.wp w_is_between)
  have h_are_letters : Fok PW w K mg base (GCm K mg lams) 3 "are_letters" c_are_letters := fok1 (params := L2.defArgs s_are_letters) (body := L2.defBody s_are_letters) (scope := L2.defScope s_are_letters) (b := b_are_letters) (c := cs_are_letters) (k := 2) 4 s Nn TB (fun z => nomatch z) rfl (by decide) (fun z => nomatch z) sc_are_letters ⟨rfl, rfl, rfl⟩ ⟨rfl, rfl, rfl, rfl, rfl, rfl, rfl, rfl⟩ (by decide) (fun z => nomatch z)
    (fun _ _ _ _ _ _ us hl => match us, hl with | [_, _], _ => rfl) rfl (fun ks pm hk => nomatch (show (ks, pm) ∈ ([] : List (List Str × List Nat)) from hk)) rfl chk_are_letters (by
    intro _
    have g_is_between := h_is_between.mono (show 2 ≤ 2 by decide)
    try simp only [okI, b_are_letters, List.forall_mem_cons, List.not_mem_nil, false_implies, implies_true, and_true, true_and]
    and_intros <;> first | assumption | trivial | rfl) (W.wp w_are_letters)
  have h_need_size : Fok PW w K mg base (GCm K mg lams) 3 "need_size" c_need_size := fok1 (params := L2.defArgs s_need_size) (body := L2.defBody s_need_size) (scope := L2.defScope s_need_size) (b := b_need_size) (c := cs_need_size) (k := 2) 3 s Nn TB (fun z => nomatch z) rfl (by decide) (fun z => nomatch z) sc_need_size ⟨rfl, rfl, rfl⟩ ⟨rfl, rfl, rfl, rfl, rfl, rfl, rfl, rfl⟩ (by decide) (fun z => nomatch z)
    (fun _ _ _ _ _ _ us hl => match us, hl with | [_], _ => rfl) rfl (fun ks pm hk => nomatch (show (ks, pm) ∈ ([] : List (List Str × List Nat)) from hk)) rfl chk_need_size (by
    intro _
    have g_is_between := h_is_between.mono (show 2 ≤ 2 by decide)
    try simp only [okI, b_need_size, List.forall_mem_cons, List.not_mem_nil, false_implies, implies_true, and_true, true_and]
    and_intros <;> first | assumption | trivial | rfl) (W.wp w_need_size)
  have h_is_round : Fok PW w K mg base (GCm K mg lams) 4 "is_round" c_is_round := fok1 (params := L2.defArgs s_is_round) (body := L2.defBody s_is_round) (scope := L2.defScope s_is_round) (b := b_is_round) (c := cs_is_round) (k := 3) 12 s Nn TB (fun z => nomatch z) rfl (by decide) (fun z => nomatch z) sc_is_round ⟨rfl, rfl, rfl⟩ ⟨rfl, rfl, rfl, rfl, rfl, rfl, rfl, rfl⟩ (by decide) (fun z => nomatch z)
    (fun _ _ _ _ _ _ us hl => match us, hl with | [_, _], _ => rfl) rfl (fun ks pm hk => by
    simp only [c_is_round, List.mem_cons, List.not_mem_nil, or_false, Prod.mk.injEq] at hk
    rcases hk with ⟨rfl, rfl⟩ <;> exact ⟨rfl, by decide, fun _ _ _ _ _ _ ws hw => match ws, hw with | [_, _], _ => rfl⟩) rfl chk_is_round (by
    intro _
    have g_are_letters := h_are_letters.mono (show 3 ≤ 3 by decide)
    have g_least_turn := h_least_turn.mono (show 2 ≤ 3 by decide)
    have g_need_size := h_need_size.mono (show 3 ≤ 3 by decide)
    try simp only [okI, b_is_round, List.forall_mem_cons, List.not_mem_nil, false_implies, implies_true, and_true, true_and]
    and_intros <;> first | assumption | trivial | rfl) (W.wp w_is_round)
  have h_need_loop : Fok PW w K mg base (GCm K mg lams) 5 "need_loop" c_need_loop := fok1 (params := L2.defArgs s_need_loop) (body := L2.defBody s_need_loop) (scope := L2.defScope s_need_loop) (b := b_need_loop) (c := cs_need_loop) (k := 4) 13 s Nn TB (fun z => nomatch z) rfl (by decide) (fun z => nomatch z) sc_need_loop ⟨rfl, rfl, rfl⟩ ⟨rfl, rfl, rfl, rfl, rfl, rfl, rfl, rfl⟩ (by decide) (fun z => nomatch z)
    (fun _ _ _ _ _ _ us hl => match us, hl with | [_, _], _ => rfl) rfl (fun ks pm hk => nomatch (show (ks, pm) ∈ ([] : List (List Str × List Nat)) from hk)) rfl chk_need_loop (by
    intro _
    have g_is_round := h_is_round.mono (show 4 ≤ 4 by decide)
    try simp only [okI, b_need_loop, List.forall_mem_cons, List.not_mem_nil, false_implies, implies_true, and_true, true_and]
    and_intros <;> first | assumption | trivial | rfl) (W.wp w_need_loop)
  have h_root_part : Fok PW w K mg base (GCm K mg lams) 1 "root_part" c_root_part := fok1 (params := L2.defArgs s_root_part) (body := L2.defBody s_root_part) (scope := L2.defScope s_root_part) (b := b_root_part) (c := cs_root_part) (k := 0) 16 s Nn TB (fun z => nomatch z) rfl (by decide) (fun z => nomatch z) sc_root_part ⟨rfl, rfl, rfl⟩ ⟨rfl, rfl, rfl, rfl, rfl, rfl, rfl, rfl⟩ (by decide) (fun z => nomatch z)
    (fun _ _ _ _ _ _ us hl => match us, hl with | [_], _ => rfl) rfl (fun ks pm hk => nomatch (show (ks, pm) ∈ ([] : List (List Str × List Nat)) from hk)) rfl chk_root_part (by intro _; simp only [okI, b_root_part, and_true, true_and]) (W.wp w_root_part)
  have h_undone_word : Fok PW w K mg base (GCm K mg lams) 1 "undone_word" c_undone_word := fok1 (params := L2.defArgs s_undone_word) (body := L2.defBody s_undone_word) (scope := L2.defScope s_undone_word) (b := b_undone_word) (c := cs_undone_word) (k := 0) 8 s Nn TB (fun z => nomatch z) rfl (by decide) (fun z => nomatch z) sc_undone_word ⟨rfl, rfl, rfl⟩ ⟨rfl, rfl, rfl, rfl, rfl, rfl, rfl, rfl⟩ (by decide) (fun z => nomatch z)
    (fun _ _ _ _ _ _ us hl => match us, hl with | [_], _ => rfl) rfl (fun ks pm hk => nomatch (show (ks, pm) ∈ ([] : List (List Str × List Nat)) from hk)) rfl chk_undone_word (by intro _; simp only [okI, b_undone_word, and_true, true_and]) (W.wp w_undone_word)
  have h_along : Fok PW w K mg base (GCm K mg lams) 6 "along" c_along := fok1 (params := L2.defArgs s_along) (body := L2.defBody s_along) (scope := L2.defScope s_along) (b := b_along) (c := cs_along) (k := 5) 18 s Nn TB (fun z => nomatch z) rfl (by decide) (fun z => nomatch z) sc_along ⟨rfl, rfl, rfl⟩ ⟨rfl, rfl, rfl, rfl, rfl, rfl, rfl, rfl⟩ (by decide) (fun z => nomatch z)
    (fun _ _ _ _ _ _ us hl => match us, hl with | [_, _, _], _ => rfl) rfl (fun ks pm hk => by
    simp only [c_along, List.mem_cons, List.not_mem_nil, or_false, Prod.mk.injEq] at hk
    rcases hk with ⟨rfl, rfl⟩ <;> exact ⟨rfl, by decide, fun _ _ _ _ _ _ ws hw => match ws, hw with | [_, _, _], _ => rfl⟩) rfl chk_along (by
    intro _
    have g_least_turn := h_least_turn.mono (show 2 ≤ 5 by decide)
    have g_need_loop := h_need_loop.mono (show 5 ≤ 5 by decide)
    have g_need_size := h_need_size.mono (show 3 ≤ 5 by decide)
    have g_root_part := h_root_part.mono (show 1 ≤ 5 by decide)
    have g_undone_word := h_undone_word.mono (show 1 ≤ 5 by decide)
    try simp only [okI, b_along, List.forall_mem_cons, List.not_mem_nil, false_implies, implies_true, and_true, true_and]
    and_intros <;> first | assumption | trivial | rfl) (W.wp w_along)
  have h_need_between : Fok PW w K mg base (GCm K mg lams) 5 "need_between" c_need_between := fok1 (params := L2.defArgs s_need_between) (body := L2.defBody s_need_between) (scope := L2.defScope s_need_between) (b := b_need_between) (c := cs_need_between) (k := 2) 2 s Nn TB (fun z => nomatch z) rfl (by decide) (fun z => nomatch z) sc_need_between ⟨rfl, rfl, rfl⟩ ⟨rfl, rfl, rfl, rfl, rfl, rfl, rfl, rfl⟩ (by decide) (fun _ => ⟨rfl, by decide +kernel⟩)
    (fun _ _ _ _ _ _ us hl => match us, hl with | [_, _, _, _], _ => rfl) rfl (fun ks pm hk => nomatch (show (ks, pm) ∈ ([] : List (List Str × List Nat)) from hk)) rfl chk_need_between (by
    intro _
    have g_is_between := h_is_between.mono (show 2 ≤ 2 by decide)
    try simp only [okI, b_need_between, List.forall_mem_cons, List.not_mem_nil, false_implies, implies_true, and_true, true_and]
    and_intros <;> first | assumption | trivial | rfl) (W.wp w_need_between)
  have h_gone : Fok PW w K mg base (GCm K mg lams) 6 "gone" c_gone := fok1 (params := L2.defArgs s_gone) (body := L2.defBody s_gone) (scope := L2.defScope s_gone) (b := b_gone) (c := cs_gone) (k := 5) 15 s Nn TB (fun z => nomatch z) rfl (by decide) (fun z => nomatch z) sc_gone ⟨rfl, rfl, rfl⟩ ⟨rfl, rfl, rfl, rfl, rfl, rfl, rfl, rfl⟩ (by decide) (fun z => nomatch z)
    (fun _ _ _ _ _ _ us hl => match us, hl with | [_, _, _], _ => rfl) rfl (fun ks pm hk => by
    simp only [c_gone, List.mem_cons, List.not_mem_nil, or_false, Prod.mk.injEq] at hk
    rcases hk with ⟨rfl, rfl⟩ <;> exact ⟨rfl, by decide, fun _ _ _ _ _ _ ws hw => match ws, hw with | [_, _, _], _ => rfl⟩) rfl chk_gone (by
    intro _
    have g_need_between := h_need_between.mono (show 5 ≤ 5 by decide)
    have g_need_loop := h_need_loop.mono (show 5 ≤ 5 by decide)
    have g_need_size := h_need_size.mono (show 3 ≤ 5 by decide)
    try simp only [okI, b_gone, List.forall_mem_cons, List.not_mem_nil, false_implies, implies_true, and_true, true_and]
    and_intros <;> first | assumption | trivial | rfl) (W.wp w_gone)
  have h_root_of : Fok PW w K mg base (GCm K mg lams) 6 "root_of" c_root_of := fok1 (params := L2.defArgs s_root_of) (body := L2.defBody s_root_of) (scope := L2.defScope s_root_of) (b := b_root_of) (c := cs_root_of) (k := 5) 17 s Nn TB (fun z => nomatch z) rfl (by decide) (fun z => nomatch z) sc_root_of ⟨rfl, rfl, rfl⟩ ⟨rfl, rfl, rfl, rfl, rfl, rfl, rfl, rfl⟩ (by decide) (fun z => nomatch z)
    (fun _ _ _ _ _ _ us hl => match us, hl with | [_, _], _ => rfl) rfl (fun ks pm hk => by
    simp only [c_root_of, List.mem_cons, List.not_mem_nil, or_false, Prod.mk.injEq] at hk
    rcases hk with ⟨rfl, rfl⟩ <;> exact ⟨rfl, by decide, fun _ _ _ _ _ _ ws hw => match ws, hw with | [_, _], _ => rfl⟩) rfl chk_root_of (by
    intro _
    have g_need_loop := h_need_loop.mono (show 5 ≤ 5 by decide)
    have g_need_size := h_need_size.mono (show 3 ≤ 5 by decide)
    have g_root_part := h_root_part.mono (show 1 ≤ 5 by decide)
    try simp only [okI, b_root_of, List.forall_mem_cons, List.not_mem_nil, false_implies, implies_true, and_true, true_and]
    and_intros <;> first | assumption | trivial | rfl) (W.wp w_root_of)
  have h_is_word : Fok PW w K mg base (GCm K mg lams) 4 "is_word" c_is_word := fok1 (params := L2.defArgs s_is_word) (body := L2.defBody s_is_word) (scope := L2.defScope s_is_word) (b := b_is_word) (c := cs_is_word) (k := 3) 5 s Nn TB (fun z => nomatch z) rfl (by decide) (fun z => nomatch z) sc_is_word ⟨rfl, rfl, rfl⟩ ⟨rfl, rfl, rfl, rfl, rfl, rfl, rfl, rfl⟩ (by decide) (fun z => nomatch z)
    (fun _ _ _ _ _ _ us hl => match us, hl with | [_, _], _ => rfl) rfl (fun ks pm hk => by
    simp only [c_is_word, List.mem_cons, List.not_mem_nil, or_false, Prod.mk.injEq] at hk
    rcases hk with ⟨rfl, rfl⟩ <;> exact ⟨rfl, by decide, fun _ _ _ _ _ _ ws hw => match ws, hw with | [_, _], _ => rfl⟩) rfl chk_is_word (by
    intro _
    have g_are_letters := h_are_letters.mono (show 3 ≤ 3 by decide)
    have g_need_size := h_need_size.mono (show 3 ≤ 3 by decide)
    try simp only [okI, b_is_word, List.forall_mem_cons, List.not_mem_nil, false_implies, implies_true, and_true, true_and]
    and_intros <;> first | assumption | trivial | rfl) (W.wp w_is_word)
  have h_need_word : Fok PW w K mg base (GCm K mg lams) 5 "need_word" c_need_word := fok1 (params := L2.defArgs s_need_word) (body := L2.defBody s_need_word) (scope := L2.defScope s_need_word) (b := b_need_word) (c := cs_need_word) (k := 4) 6 s Nn TB (fun z => nomatch z) rfl (by decide) (fun z => nomatch z) sc_need_word ⟨rfl, rfl, rfl⟩ ⟨rfl, rfl, rfl, rfl, rfl, rfl, rfl, rfl⟩ (by decide) (fun z => nomatch z)
    (fun _ _ _ _ _ _ us hl => match us, hl with | [_, _], _ => rfl) rfl (fun ks pm hk => nomatch (show (ks, pm) ∈ ([] : List (List Str × List Nat)) from hk)) rfl chk_need_word (by
    intro _
    have g_is_word := h_is_word.mono (show 4 ≤ 4 by decide)
    try simp only [okI, b_need_word, List.forall_mem_cons, List.not_mem_nil, false_implies, implies_true, and_true, true_and]
    and_intros <;> first | assumption | trivial | rfl) (W.wp w_need_word)
  have h_round_of : Fok PW w K mg base (GCm K mg lams) 6 "round_of" c_round_of := fok1 (params := L2.defArgs s_round_of) (body := L2.defBody s_round_of) (scope := L2.defScope s_round_of) (b := b_round_of) (c := cs_round_of) (k := 5) 11 s Nn TB (fun z => nomatch z) rfl (by decide) (fun z => nomatch z) sc_round_of ⟨rfl, rfl, rfl⟩ ⟨rfl, rfl, rfl, rfl, rfl, rfl, rfl, rfl⟩ (by decide) (fun z => nomatch z)
    (fun _ _ _ _ _ _ us hl => match us, hl with | [_, _], _ => rfl) rfl (fun ks pm hk => by
    simp only [c_round_of, List.mem_cons, List.not_mem_nil, or_false, Prod.mk.injEq] at hk
    rcases hk with ⟨rfl, rfl⟩ <;> exact ⟨rfl, by decide, fun _ _ _ _ _ _ ws hw => match ws, hw with | [_, _], _ => rfl⟩) rfl chk_round_of (by
    intro _
    have g_least_turn := h_least_turn.mono (show 2 ≤ 5 by decide)
    have g_need_size := h_need_size.mono (show 3 ≤ 5 by decide)
    have g_need_word := h_need_word.mono (show 5 ≤ 5 by decide)
    try simp only [okI, b_round_of, List.forall_mem_cons, List.not_mem_nil, false_implies, implies_true, and_true, true_and]
    and_intros <;> first | assumption | trivial | rfl) (W.wp w_round_of)
  have h_turned_about : Fok PW w K mg base (GCm K mg lams) 6 "turned_about" c_turned_about := fok1 (params := L2.defArgs s_turned_about) (body := L2.defBody s_turned_about) (scope := L2.defScope s_turned_about) (b := b_turned_about) (c := cs_turned_about) (k := 5) 14 s Nn TB (fun z => nomatch z) rfl (by decide) (fun z => nomatch z) sc_turned_about ⟨rfl, rfl, rfl⟩ ⟨rfl, rfl, rfl, rfl, rfl, rfl, rfl, rfl⟩ (by decide) (fun z => nomatch z)
    (fun _ _ _ _ _ _ us hl => match us, hl with | [_, _], _ => rfl) rfl (fun ks pm hk => by
    simp only [c_turned_about, List.mem_cons, List.not_mem_nil, or_false, Prod.mk.injEq] at hk
    rcases hk with ⟨rfl, rfl⟩ <;> exact ⟨rfl, by decide, fun _ _ _ _ _ _ ws hw => match ws, hw with | [_, _], _ => rfl⟩) rfl chk_turned_about (by
    intro _
    have g_least_turn := h_least_turn.mono (show 2 ≤ 5 by decide)
    have g_need_loop := h_need_loop.mono (show 5 ≤ 5 by decide)
    have g_need_size := h_need_size.mono (show 3 ≤ 5 by decide)
    have g_undone_word := h_undone_word.mono (show 1 ≤ 5 by decide)
    try simp only [okI, b_turned_about, List.forall_mem_cons, List.not_mem_nil, false_implies, implies_true, and_true, true_and]
    and_intros <;> first | assumption | trivial | rfl) (W.wp w_turned_about)
  have h__law_refused : Fok PW w K mg base (GCm K mg lams) 9 "_law_refused" c__law_refused := fok1L (params := L2.defArgs s__law_refused) (body := L2.defBody s__law_refused) (scope := L2.defScope s__law_refused) (b := b__law_refused) (bod := bod__law_refused) (c := cs__law_refused) (k := 6) 37 s Nn TB (fun _ => cau) rfl (by decide) (fun _ => by decide) sc__law_refused ⟨rfl, rfl, rfl⟩ ⟨rfl, rfl, rfl, rfl, rfl, rfl, rfl, rfl⟩ (by decide) (fun z => nomatch z)
    (fun _ _ _ _ _ _ us hl => match us, hl with | [_, _, _], _ => rfl) rfl (fun ks pm hk => nomatch (show (ks, pm) ∈ ([] : List (List Str × List Nat)) from hk)) (fun _ => rfl) chk__law_refused (by
    intro _
    have g__law_none := h__law_none.mono (show 4 ≤ 6 by decide)
    have g__law_odd_size := h__law_odd_size.mono (show 4 ≤ 6 by decide)
    have g__law_pick := h__law_pick.mono (show 3 ≤ 6 by decide)
    have g_along := h_along.mono (show 6 ≤ 6 by decide)
    have g_gone := h_gone.mono (show 6 ≤ 6 by decide)
    have g_is_round := h_is_round.mono (show 4 ≤ 6 by decide)
    have g_root_of := h_root_of.mono (show 6 ≤ 6 by decide)
    have g_round_of := h_round_of.mono (show 6 ≤ 6 by decide)
    have g_turned_about := h_turned_about.mono (show 6 ≤ 6 by decide)
    try simp only [okI, b__law_refused, tb__law_refused, tabOk, bod__law_refused, lb__law_refused_0, lb__law_refused_1, lb__law_refused_2, lb__law_refused_3, lb__law_refused_4, lb__law_refused_5, lb__law_refused_6, lb__law_refused_7, lb__law_refused_8, lb__law_refused_9, lb__law_refused_10, List.forall_mem_cons, List.not_mem_nil, false_implies, implies_true, and_true, true_and]
    and_intros <;> first | assumption | trivial | rfl) (fun cf => W.wp (w__law_refused cf))
  have h__law_go_along : Fok PW w K mg base (GCm K mg lams) 3 "_law_go_along" c__law_go_along := fok1 (params := L2.defArgs s__law_go_along) (body := L2.defBody s__law_go_along) (scope := L2.defScope s__law_go_along) (b := b__law_go_along) (c := cs__law_go_along) (k := 2) 36 s Nn TB (fun z => nomatch z) rfl (by decide) (fun z => nomatch z) sc__law_go_along ⟨rfl, rfl, rfl⟩ ⟨rfl, rfl, rfl, rfl, rfl, rfl, rfl, rfl⟩ (by decide) (fun z => nomatch z)
    (fun _ _ _ _ _ _ us hl => match us, hl with | [_, _], _ => rfl) rfl (fun ks pm hk => nomatch (show (ks, pm) ∈ ([] : List (List Str × List Nat)) from hk)) rfl chk__law_go_along (by
    intro _
    have g__law_back := h__law_back.mono (show 1 ≤ 2 by decide)
    have g__law_least_turn := h__law_least_turn.mono (show 2 ≤ 2 by decide)
    try simp only [okI, b__law_go_along, List.forall_mem_cons, List.not_mem_nil, false_implies, implies_true, and_true, true_and]
    and_intros <;> first | assumption | trivial | rfl) (W.wp w__law_go_along)
  have h__law_is_truth : Fok PW w K mg base (GCm K mg lams) 1 "_law_is_truth" c__law_is_truth := fok1 (params := L2.defArgs s__law_is_truth) (body := L2.defBody s__law_is_truth) (scope := L2.defScope s__law_is_truth) (b := b__law_is_truth) (c := cs__law_is_truth) (k := 0) 24 s Nn TB (fun z => nomatch z) rfl (by decide) (fun z => nomatch z) sc__law_is_truth ⟨rfl, rfl, rfl⟩ ⟨rfl, rfl, rfl, rfl, rfl, rfl, rfl, rfl⟩ (by decide) (fun z => nomatch z)
    (fun _ _ _ _ _ _ us hl => match us, hl with | [_, _], _ => rfl) rfl (fun ks pm hk => nomatch (show (ks, pm) ∈ ([] : List (List Str × List Nat)) from hk)) rfl chk__law_is_truth (by intro _; simp only [okI, b__law_is_truth, and_true, true_and]) (W.wp w__law_is_truth)
  have h__law_round_right : Fok PW w K mg base (GCm K mg lams) 7 "_law_round_right" c__law_round_right := fok1 (params := L2.defArgs s__law_round_right) (body := L2.defBody s__law_round_right) (scope := L2.defScope s__law_round_right) (b := b__law_round_right) (c := cs__law_round_right) (k := 6) 35 s Nn TB (fun z => nomatch z) rfl (by decide) (fun z => nomatch z) sc__law_round_right ⟨rfl, rfl, rfl⟩ ⟨rfl, rfl, rfl, rfl, rfl, rfl, rfl, rfl⟩ (by decide) (fun z => nomatch z)
    (fun _ _ _ _ _ _ us hl => match us, hl with | [_, _, _], _ => rfl) rfl (fun ks pm hk => nomatch (show (ks, pm) ∈ ([] : List (List Str × List Nat)) from hk)) rfl chk__law_round_right (by
    intro _
    have g__law_back := h__law_back.mono (show 1 ≤ 6 by decide)
    have g__law_free_row := h__law_free_row.mono (show 4 ≤ 6 by decide)
    have g__law_go_along := h__law_go_along.mono (show 3 ≤ 6 by decide)
    have g__law_is_truth := h__law_is_truth.mono (show 1 ≤ 6 by decide)
    have g__law_least_turn := h__law_least_turn.mono (show 2 ≤ 6 by decide)
    have g__law_pick := h__law_pick.mono (show 3 ≤ 6 by decide)
    have g__law_take := h__law_take.mono (show 2 ≤ 6 by decide)
    have g_along := h_along.mono (show 6 ≤ 6 by decide)
    have g_gone := h_gone.mono (show 6 ≤ 6 by decide)
    have g_is_round := h_is_round.mono (show 4 ≤ 6 by decide)
    have g_root_of := h_root_of.mono (show 6 ≤ 6 by decide)
    have g_turned_about := h_turned_about.mono (show 6 ≤ 6 by decide)
    try simp only [okI, b__law_round_right, List.forall_mem_cons, List.not_mem_nil, false_implies, implies_true, and_true, true_and]
    and_intros <;> first | assumption | trivial | rfl) (W.wp w__law_round_right)
  have h_law : Fok PW w K mg base (GCm K mg lams) 10 "law" c_law := fok1 (params := L2.defArgs s_law) (body := L2.defBody s_law) (scope := L2.defScope s_law) (b := b_law) (c := cs_law) (k := 9) 38 s Nn TB (fun z => nomatch z) rfl (by decide) (fun z => nomatch z) sc_law ⟨rfl, rfl, rfl⟩ ⟨rfl, rfl, rfl, rfl, rfl, rfl, rfl, rfl⟩ (by decide) (fun z => nomatch z)
    (fun _ _ _ _ _ _ us hl => match us, hl with | [_], _ => rfl) rfl (fun ks pm hk => nomatch (show (ks, pm) ∈ ([] : List (List Str × List Nat)) from hk)) rfl chk_law (by
    intro _
    have g__law_are_one := h__law_are_one.mono (show 2 ≤ 9 by decide)
    have g__law_begun := h__law_begun.mono (show 1 ≤ 9 by decide)
    have g__law_free_row := h__law_free_row.mono (show 4 ≤ 9 by decide)
    have g__law_least_turn := h__law_least_turn.mono (show 2 ≤ 9 by decide)
    have g__law_led_about := h__law_led_about.mono (show 4 ≤ 9 by decide)
    have g__law_near := h__law_near.mono (show 3 ≤ 9 by decide)
    have g__law_none := h__law_none.mono (show 4 ≤ 9 by decide)
    have g__law_pick := h__law_pick.mono (show 3 ≤ 9 by decide)
    have g__law_refused := h__law_refused.mono (show 9 ≤ 9 by decide)
    have g__law_round_right := h__law_round_right.mono (show 7 ≤ 9 by decide)
    have g__law_row := h__law_row.mono (show 3 ≤ 9 by decide)
    have g__law_take := h__law_take.mono (show 2 ≤ 9 by decide)
    have g_is_round := h_is_round.mono (show 4 ≤ 9 by decide)
    have g_round_of := h_round_of.mono (show 6 ≤ 9 by decide)
    try simp only [okI, b_law, List.forall_mem_cons, List.not_mem_nil, false_implies, implies_true, and_true, true_and]
    and_intros <;> first | assumption | trivial | rfl) (W.wp w_law)
  exact h_law
theorem law_runs (ns : List Int) (hl : ns.length ≤ 63) (hb : ∀ z ∈ ns, Builtin.Int.intBits z ≤ 1048576) : c_law.run [.scr ns] [] (fun t _ => t = .val (.bl true)) (fun _ _ => False) := ⟨ns, rfl, rfl, hl, rfl⟩
end LW
open PySem PySem.W PySem.Calls PyProof.Rows
theorem PySem.Challenge.cw_smoothnets_k03_whole_rounds_holds : PySem.Challenge.rw_smoothnets_k03_whole_rounds.Holds := by
  w_on; o_law
  refine HandSHeadRun.head_any (r := OpenLaw.row PySem.Challenge.rw_smoothnets_k03_whole_rounds) (q := view (OpenLaw.row PySem.Challenge.rw_smoothnets_k03_whole_rounds).prog [50]) (H := LW.hk) (ob := LW.ob) (M := 4000) (loose := LW.loose) (d := HandSHeadRun.topDef (OpenLaw.row PySem.Challenge.rw_smoothnets_k03_whole_rounds).prog 50) (kwd := []) LW.ob_eq
    (by kernel_rfl) (fun s => by kernel_rfl) LW.run (by kernel_rfl) (by kernel_rfl) (by kernel_rfl) (by rfl) (by first | assumption | decide +kernel) (by decide +kernel) ⟨rfl, rfl, rfl, rfl, rfl, by decide +kernel⟩ ?hw ?hc
  case hw => w_witness2
  case hc =>
    exact FW.walkM (m := LW.mf) (ls := LW.lams) (fn := LW.fnL) (n := 63) (k := 10) (x := "law") (cn := LW.c_law) rfl (by decide) (by kernel_rfl) ⟨rfl, by decide, by decide⟩ (by kernel_rfl) rfl (fun w mg h K s Nn base _ _ TB => LW.fok_law s Nn TB) LW.law_runs
