import PyProof.Rows.All
import Wide.All
import OpenK.AllK
import Wide.FinOn
import PyProof.EqAt
import PyProof.EqKinds
import PyProof.TupleCall
import Lean
import KE.KWithOwn
import KE.KStateDown
import HandS.ForMost
import HandS.Exc
import HandS.TryOnly
import HandS.ExcOwn
import HandS.WordsExc
import HandS.ExcCtx
import HandS.HotCalls
import HandS.SuiteRaise
import HandS.RaiseFrom
import HandS.ExcInit
import HandS.ExcInitHot
import HandS.ExcSuper
import HandS.Defaults
import HandS.Star
import HandS.Slots
import HandS.SlotsOwn
import HandS.Property
import HandS.ClsMeth
import HandS.DictComp
import HandS.OwnEq
import HandS.IsInst
import HandS.Zip
import HandS.Zip0
import HandS.Conv
import HandS.Style
import HandS.Flow
import HandS.SetFor
import HandS.SetKeys
import HandS.SortInts
import HandS.StrMore
import HandS.StrSplit
import HandS.RaiseMore
import HandS.TupAny
import HandS.TupLe
import HandS.Deep
import HandS.IterVal
import HandS.HeadEnd
import HandS.HeadHook1
import HandS.HeadHook2
import HandS.HeadHook3
import HandS.Head0
import HandS.Head1
import HandS.Head2
import HandS.Walk
import PyProof.WalkInts
import OpenK.KOps
import KE.GoesEnum
import KE.KDictZip
import PyProof.ListRange
import PyProof.CollectWalk
import HandS.Iter
import KE.KRevSl
import PySem.Challenge.RW_sawnsheets_k57_whole_scripts_rolled_out
set_option Elab.async false
set_option linter.all false
set_option maxRecDepth 100000
set_option maxHeartbeats 4000000


namespace S57
open PySem PySem.Spec PyProof.Rows L2
abbrev Fr := PySem.W.Frag
def ga := @He.ga
def ma := @He.ma
/-- the getter of a property, the def of a classmethod -/
def gpA (K : Fr) (C : Addr) (f : Str) : Addr := match PySem.W.recIn K (ma K C f) "property" with
  | some (.ref g :: _) => g
  | _ => 0
def gcA (K : Fr) (C : Addr) (f : Str) : Addr := match PySem.W.recIn K (ma K C f) "classmethod" with
  | some (.ref g :: _) => g
  | _ => 0
def top (i : Nat) : Stmt := PySem.Challenge.pw_sawnsheets_k57_whole_scripts_rolled_out.main.body.getD i (.Pass ⟨0, 0, 0, 0⟩)
/-! ### a def as the head tells it -/
def fnP (K : Fr) (a : Addr) : He.FnW := match K.lookup a with
  | some ⟨_, _, .func fd, _⟩ => some (fd.name, fd.qualname, fd.params, fd.body, fd.scope, fd.globals, fd.closure, fd.builtins)
  | _ => none
structure DefP where
  at_ : Fr → Addr
  name : Str
  qual : Str
  st : Stmt
def DefP.val (d : DefP) : He.FnW := some (d.name, d.qual, defArgs d.st, .stmts (defBody d.st), defScope d.st, mainGlobals, [], builtinsNs)
def DefP.ok (K : Fr) (d : DefP) : Bool := PySem.W.keepIn K (.ref (d.at_ K)) && (match K.lookup (d.at_ K) with
  | some ⟨_, _, .func fd, _⟩ => PySem.W.codeIn K fd.code d.qual && (He.dflB K fd.defaults [] && He.kwdB K fd.kwdefaults [])
  | _ => false)
abbrev FunP (K : Fr) (name qual : Str) (st : Stmt) (f : Addr) (fd : FuncData) : Prop := FunD K name qual (defArgs st) (defBody st) (defScope st) [] [] f fd
theorem DefP.funD {K : Fr} {d : DefP} (e : fnP K (d.at_ K) = d.val) (c : d.ok K = true) : ∃ fd, FunP K d.name d.qual d.st (d.at_ K) fd := by
  obtain ⟨kp, c2⟩ := He.ba c
  unfold fnP at e
  cases q : K.lookup (d.at_ K) with
  | none =>
    rw [q] at c2
    cases c2
  | some o =>
    obtain ⟨oc, od, dt, osl⟩ := o
    rw [q] at c2 e
    cases dt with
    | func fd =>
      obtain ⟨n1, n2, n3, n4, n5, n6, n7, n8, n9, n10, n11, n12, n13, n14, n15⟩ := fd
      have e2 : (some (n1, n2, n3, n4, n5, n6, n7, n15) : He.FnW) = some (d.name, d.qual, defArgs d.st, .stmts (defBody d.st), defScope d.st, mainGlobals, [], builtinsNs) := e
      simp only [Option.some.injEq, Prod.mk.injEq] at e2
      obtain ⟨h1, h2, h3, h4, h5, h6, h7, h8⟩ := e2
      subst h1 h2 h3 h4 h5 h6 h7 h8
      have c3 : (PySem.W.codeIn K n13 d.qual && (He.dflB K n8 [] && He.kwdB K n9 [])) = true := c2
      obtain ⟨k1, k2⟩ := He.ba c3
      obtain ⟨k3, k4⟩ := He.ba k2
      exact ⟨_, ⟨oc, od, n8, n9, n10, n11, n12, n13, n14, osl, rfl, q, k1, He.dflB_ok k3, He.kwdB_ok k4⟩, kp⟩
    | _ => cases c2
/-! ### facts as Bools -/
def gloB (x : Str) (K : Fr) : Bool := He.eqO (PySem.W.nsIn K mainGlobals x) (some (some (.ref (ga K x))))
def freeB (x : Str) (K : Fr) : Bool := He.eqO (PySem.W.nsIn K mainGlobals x) (some none)
def relN (x : Str) (v : V) (K : Fr) : Bool := match PySem.W.nsIn K mainGlobals x with
  | some (some u) => He.relB v u
  | _ => false
def clsB (x : Str) (K : Fr) : Bool := (He.Fa.cls x).ok K
def noatB (x f : Str) (K : Fr) : Bool := He.eqO (PySem.W.findIn K (.ref (ga K x)) f) (some none)
def methB (x m : Str) (K : Fr) : Bool := (He.Fa.meth x m).ok K
def mkB (x : Str) (K : Fr) : Bool := (He.Fa.mkr x).ok K
def sclsB (x : Str) (K : Fr) : Bool := PySem.W.plainGet K (ga K x) Str.empty && (PySem.W.isClsIn K (ga K x) && (PySem.W.plainOver K (ga K x) && He.eqO (PySem.W.findIn K (.ref (ga K x)) "__setattr__") (some (some (.builtin "object.__setattr__")))))
def slotB (x f : Str) (i : Nat) (K : Fr) : Bool := He.eqO (PySem.W.findIn K (.ref (ga K x)) f) (some (some (.ref (ma K (ga K x) f)))) && (He.eqO (PySem.W.specialIn K (.ref (ma K (ga K x) f)) "__get__") (some (some (.builtin "member_descriptor.__get__"))) &&
  (decide (PySem.W.takesIn K (.ref (ma K (ga K x) f)) = some true) && (decide (PySem.W.typeIn K (.ref (ma K (ga K x) f)) = some (.type "member_descriptor")) && (decide (PySem.W.slotIn K (ma K (ga K x) f) (ga K x) = some i) && decide (i < 1000)))))
def propB (x f : Str) (K : Fr) : Bool := He.eqO (PySem.W.findIn K (.ref (ga K x)) f) (some (some (.ref (ma K (ga K x) f)))) && (He.eqO (PySem.W.specialIn K (.ref (ma K (ga K x) f)) "__get__") (some (some (.builtin "property.__get__"))) &&
  (decide (PySem.W.takesIn K (.ref (ma K (ga K x) f)) = some true) && (match PySem.W.recIn K (ma K (ga K x) f) "property" with
    | some (.ref g :: _) => decide (g = gpA K (ga K x) f)
    | _ => false)))
def isiB (x : Str) (K : Fr) : Bool := He.eqO (PySem.W.findIn K (.ref (ga K x)) "__class__") (some (some (.builtin "object.__class__"))) && (He.eqO (PySem.W.specialIn K (.builtin "object.__class__") "__get__") (some (some (.builtin "getset_descriptor.__get__"))) &&
  (decide (PySem.W.takesIn K (.builtin "object.__class__") = some true) && decide (PySem.W.mroIn K (ga K x) (.type "object") = some true)))
def excB (x : Str) (K : Fr) : Bool := PySem.W.excIn K (ga K x) He.veBase "ValueError.__new__" && (PySem.W.keepIn K (.ref (ga K x)) && (decide (PySem.W.subIn K (.ref (ga K x)) (.type "BaseException") = some true) && decide (PySem.W.typeIn K (.ref (ga K x)) = some (.type "type"))))
def exmB (x y : Str) (b : Bool) (K : Fr) : Bool := decide (PySem.W.exmOne K (.ref (ga K x)) (.ref (ga K y)) = some b)
def keepB (x : Str) (K : Fr) : Bool := PySem.W.keepIn K (.ref (ga K x))
def creadB (x : Str) (mc : Value) (K : Fr) : Bool := PySem.W.readsIn K (ga K x) mc && He.eqO (PySem.W.specialIn K (.ref (ga K x)) "__getattribute__") (some (some (.builtin "type.__getattribute__")))
def oexB (x : Str) (K : Fr) : Bool := (match K.lookup (ga K x) with
  | some ⟨.type "type", _, .cls cd, sl⟩ => (match cd.mro, sl.toList with
    | .ref C' :: bm, [_, _, _, _, some (.builtin n), _] => decide (C' = ga K x) && (decide (n = "ValueError.__new__") && (!cd.hasDel && (cd.hasDict && PySem.HandSPX.refsVE bm)))
    | _, _ => false)
  | _ => false) && (He.eqO (PySem.W.findIn K (.ref (ga K x)) "__setattr__") (some (some (.builtin "object.__setattr__"))) && (decide (PySem.W.subIn K (.ref (ga K x)) (.type "BaseException") = some true) && (decide (PySem.W.typeIn K (.ref (ga K x)) = some (.type "type")) && PySem.W.keepIn K (.ref (ga K x)))))
theorem oex_ok {K : Fr} {x : Str} (c : oexB x K = true) : OexC K (ga K x) := by
  unfold oexB at c
  obtain ⟨c1, c⟩ := He.ba c
  obtain ⟨c2, c⟩ := He.ba c
  obtain ⟨c3, c⟩ := He.ba c
  obtain ⟨c4, c5⟩ := He.ba c
  refine ⟨?_, He.eqO_ok c2, of_decide_eq_true c3, of_decide_eq_true c4, c5⟩
  split at c1
  · rename_i dd cd sl ho
    split at c1
    · rename_i C' bm k0 k1 k2 k3 n k5 hm hs
      obtain ⟨d1, c1⟩ := He.ba c1
      obtain ⟨d2, c1⟩ := He.ba c1
      obtain ⟨d3, c1⟩ := He.ba c1
      obtain ⟨d4, d5⟩ := He.ba c1
      have e1 := of_decide_eq_true d1
      have e2 := of_decide_eq_true d2
      have e3 : cd.hasDel = false := by simpa using d3
      have e4 : cd.hasDict = true := d4
      clear d1 d2 d3 d4
      obtain ⟨nm, bs, mro, ns, qn, hd, sn, sub, ab, col, del⟩ := cd
      dsimp only at hm e3 e4
      subst hm e3 e4 e1 e2
      have hsl : sl = #[k0, k1, k2, k3, some (.builtin "ValueError.__new__"), k5] := by
        obtain ⟨l⟩ := sl
        simp only at hs
        rw [hs]
      subst hsl
      exact ⟨nm, qn, ns, bs, bm, sn, sub, ab, col, dd, k0, k1, k2, k3, k5, ho, d5⟩
    · cases c1
  · cases c1
def vinB (x : Str) (K : Fr) : Bool := match PySem.W.findCls K (.ref (ga K x)) (.type "type") "__init__" with
  | some (.val (.builtin b)) => decide (b = "ValueError.__init__")
  | _ => false
theorem vin_ok {K : Fr} {x : Str} (c : vinB x K = true) : PySem.W.findCls K (.ref (ga K x)) (.type "type") "__init__" = some (.val (.builtin "ValueError.__init__")) := by
  unfold vinB at c
  split at c
  · rename_i b e
    rw [e, of_decide_eq_true c]
  · cases c
def tyfB (x m : Str) (K : Fr) : Bool := decide (PySem.W.typeIn K (.ref (ma K (ga K x) m)) = some (.type "function"))
def cmetB (x m : Str) (K : Fr) : Bool := (match PySem.W.findCls K (.ref (ga K x)) (.type "type") m with
  | some (.get a b c d) => decide (a = .builtin "classmethod.__get__") && (decide (b = .ref (ma K (ga K x) m)) && (decide (c = .none) && decide (d = .ref (ga K x))))
  | _ => false) && ((match PySem.W.recIn K (ma K (ga K x) m) "classmethod" with
  | some (.ref _ :: _) => true
  | _ => false) && PySem.W.fnIn K (gcA K (ga K x) m))
theorem cmet_ok {K : Fr} {x m : Str} (c : cmetB x m K = true) : ClX.CMet K (ga K x) (.type "type") m (ma K (ga K x) m) (gcA K (ga K x) m) := by
  unfold cmetB at c
  obtain ⟨c1, c2⟩ := He.ba c
  obtain ⟨c2, c3⟩ := He.ba c2
  refine ⟨?_, ?_, c3⟩
  · cases e : PySem.W.findCls K (.ref (ga K x)) (.type "type") m with
    | none => rw [e] at c1; cases c1
    | some f =>
      rw [e] at c1
      cases f with
      | get a b c d =>
        obtain ⟨d1, c1⟩ := He.ba c1
        obtain ⟨d2, c1⟩ := He.ba c1
        obtain ⟨d3, d4⟩ := He.ba c1
        rw [of_decide_eq_true d1, of_decide_eq_true d2, of_decide_eq_true d3, of_decide_eq_true d4]
      | _ => cases c1
  · unfold gcA
    cases e : PySem.W.recIn K (ma K (ga K x) m) "classmethod" with
    | none => rw [e] at c2; cases c2
    | some l =>
      rw [e] at c2
      cases l with
      | nil => cases c2
      | cons v r =>
        cases v with
        | ref g => exact ⟨r, rfl⟩
        | _ => cases c2
theorem cread_ok {K : Fr} {x : Str} (c : creadB x (.type "type") K = true) : ClX.CRead K (ga K x) (.type "type") := by
  obtain ⟨c1, c2⟩ := He.ba c
  exact ⟨c1, He.eqO_ok c2⟩
def neB (x : Str) (K : Fr) : Bool := He.eqO (PySem.W.findIn K (.ref (ga K x)) "__ne__") (some (some (.builtin "object.__ne__")))
def specB (x m : Str) (K : Fr) : Bool := He.eqO (PySem.W.findIn K (.ref (ga K x)) m) (some (some (.ref (ma K (ga K x) m)))) && PySem.W.isFn K (.ref (ma K (ga K x) m))
/-- an object's slots, told by the facts -/
theorem slot_ok {K : Fr} {x f : Str} {i : Nat} (c : slotB x f i K = true) : SlX.Slot1 K (ga K x) f (ma K (ga K x) f) i := by
  obtain ⟨c1, c⟩ := He.ba c
  obtain ⟨c2, c⟩ := He.ba c
  obtain ⟨c3, c⟩ := He.ba c
  obtain ⟨c4, c⟩ := He.ba c
  obtain ⟨c5, c6⟩ := He.ba c
  exact ⟨He.eqO_ok c1, He.eqO_ok c2, of_decide_eq_true c3, of_decide_eq_true c4, of_decide_eq_true c5, of_decide_eq_true c6⟩
theorem scls_ok {K : Fr} {x : Str} (c : sclsB x K = true) : SlX.SCls K (ga K x) := by
  obtain ⟨c1, c⟩ := He.ba c
  obtain ⟨c2, c⟩ := He.ba c
  obtain ⟨c3, c4⟩ := He.ba c
  exact ⟨c1, c2, c3, He.eqO_ok c4⟩
theorem prop_ok {K : Fr} {x f : Str} (c : propB x f K = true) : PropOf K (ga K x) f (ma K (ga K x) f) (gpA K (ga K x) f) := by
  obtain ⟨c1, c⟩ := He.ba c
  obtain ⟨c2, c⟩ := He.ba c
  obtain ⟨c3, c4⟩ := He.ba c
  refine ⟨He.eqO_ok c1, He.eqO_ok c2, of_decide_eq_true c3, ?_⟩
  cases e : PySem.W.recIn K (ma K (ga K x) f) "property" with
  | none =>
    rw [e] at c4
    cases c4
  | some l =>
    rw [e] at c4
    cases l with
    | nil => cases c4
    | cons v r =>
      cases v with
      | ref g => exact ⟨r, by rw [← of_decide_eq_true c4]⟩
      | _ => cases c4
theorem isi_ok {K : Fr} {x : Str} (c : isiB x K = true) : SlX.SIsi K (ga K x) := by
  obtain ⟨c1, c⟩ := He.ba c
  obtain ⟨c2, c⟩ := He.ba c
  obtain ⟨c3, c4⟩ := He.ba c
  exact ⟨He.eqO_ok c1, He.eqO_ok c2, of_decide_eq_true c3, of_decide_eq_true c4⟩
theorem rel_ok {K : Fr} {mg : Str → Option Value} {x : Str} {v : V} (gl : ∀ x o, PySem.W.nsIn K mainGlobals x = some o → mg x = o) (c : relN x v K = true) : ∃ u, mg x = some u ∧ RelV v u := by
  unfold relN at c
  cases e : PySem.W.nsIn K mainGlobals x with
  | none =>
    rw [e] at c
    cases c
  | some r =>
    rw [e] at c
    cases r with
    | none => cases c
    | some u => exact ⟨u, gl _ _ e, He.relB_ok c⟩
theorem spec_ok {K : Fr} {x m : Str} (c : specB x m K = true) : PySem.W.findIn K (.ref (ga K x)) m = some (some (.ref (ma K (ga K x) m))) ∧ PySem.W.isFn K (.ref (ma K (ga K x) m)) = true := by
  obtain ⟨c1, c2⟩ := He.ba c
  exact ⟨He.eqO_ok c1, c2⟩

abbrev s_ExecutionFailed_init : Stmt := inClass (top 14) 0
abbrev a_ExecutionFailed_init (K : Fr) : Addr := ma K (ga K "ExecutionFailed") "__init__"
abbrev s_is_number : Stmt := top 21
abbrev a_is_number (K : Fr) : Addr := ga K "is_number"
abbrev s_is_picture : Stmt := top 22
abbrev a_is_picture (K : Fr) : Addr := ga K "is_picture"
abbrev s_are_pictures : Stmt := top 23
abbrev a_are_pictures (K : Fr) : Addr := ga K "are_pictures"
abbrev s_is_size : Stmt := top 24
abbrev a_is_size (K : Fr) : Addr := ga K "is_size"
abbrev s_Packet_init : Stmt := inClass (top 25) 1
abbrev a_Packet_init (K : Fr) : Addr := ma K (ga K "Packet") "__init__"
abbrev s_Packet_width : Stmt := inClass (top 25) 2
abbrev a_Packet_width (K : Fr) : Addr := gpA K (ga K "Packet") "width"
abbrev s_Packet_height : Stmt := inClass (top 25) 3
abbrev a_Packet_height (K : Fr) : Addr := gpA K (ga K "Packet") "height"
abbrev s_Packet_sheets : Stmt := inClass (top 25) 4
abbrev a_Packet_sheets (K : Fr) : Addr := gpA K (ga K "Packet") "sheets"
abbrev s_Packet_cells : Stmt := inClass (top 25) 5
abbrev a_Packet_cells (K : Fr) : Addr := gpA K (ga K "Packet") "cells"
abbrev s_Packet_len : Stmt := inClass (top 25) 6
abbrev a_Packet_len (K : Fr) : Addr := ma K (ga K "Packet") "__len__"
abbrev s_Packet_eq : Stmt := inClass (top 25) 7
abbrev a_Packet_eq (K : Fr) : Addr := ma K (ga K "Packet") "__eq__"
abbrev s_sides : Stmt := top 26
abbrev a_sides (K : Fr) : Addr := ga K "sides"
abbrev s_parted : Stmt := top 27
abbrev a_parted (K : Fr) : Addr := ga K "parted"
abbrev s_is_pattern : Stmt := top 28
abbrev a_is_pattern (K : Fr) : Addr := ga K "is_pattern"
abbrev s_check_pattern : Stmt := top 29
abbrev a_check_pattern (K : Fr) : Addr := ga K "check_pattern"
abbrev s_length_of : Stmt := top 30
abbrev a_length_of (K : Fr) : Addr := ga K "length_of"
abbrev s_is_order : Stmt := top 32
abbrev a_is_order (K : Fr) : Addr := ga K "is_order"
abbrev s_relaid : Stmt := top 33
abbrev a_relaid (K : Fr) : Addr := ga K "relaid"
abbrev s_mirrored : Stmt := top 35
abbrev a_mirrored (K : Fr) : Addr := ga K "mirrored"
abbrev s_turned_over : Stmt := top 36
abbrev a_turned_over (K : Fr) : Addr := ga K "turned_over"
abbrev s_is_operation : Stmt := top 40
abbrev a_is_operation (K : Fr) : Addr := ga K "is_operation"
abbrev s_is_name : Stmt := top 41
abbrev a_is_name (K : Fr) : Addr := ga K "is_name"
abbrev s_State_init : Stmt := inClass (top 42) 1
abbrev a_State_init (K : Fr) : Addr := ma K (ga K "State") "__init__"
abbrev s_State_copied : Stmt := inClass (top 42) 2
abbrev a_State_copied (K : Fr) : Addr := ma K (ga K "State") "copied"
abbrev s_State_go_on : Stmt := inClass (top 42) 3
abbrev a_State_go_on (K : Fr) : Addr := ma K (ga K "State") "go_on"
abbrev s_Bench_init : Stmt := inClass (top 43) 0
abbrev a_Bench_init (K : Fr) : Addr := ma K (ga K "Bench") "__init__"
abbrev s_Bench_replay : Stmt := inClass (top 43) 1
abbrev a_Bench_replay (K : Fr) : Addr := gcA K (ga K "Bench") "replay"
abbrev s_Bench_packet_now : Stmt := inClass (top 43) 2
abbrev a_Bench_packet_now (K : Fr) : Addr := gpA K (ga K "Bench") "packet_now"
abbrev s_Bench_pattern_now : Stmt := inClass (top 43) 3
abbrev a_Bench_pattern_now (K : Fr) : Addr := gpA K (ga K "Bench") "pattern_now"
abbrev s_Bench_length_now : Stmt := inClass (top 43) 4
abbrev a_Bench_length_now (K : Fr) : Addr := gpA K (ga K "Bench") "length_now"
abbrev s_Bench_history : Stmt := inClass (top 43) 6
abbrev a_Bench_history (K : Fr) : Addr := gpA K (ga K "Bench") "history"
abbrev s_Bench_saw : Stmt := inClass (top 43) 7
abbrev a_Bench_saw (K : Fr) : Addr := ma K (ga K "Bench") "saw"
abbrev s_Bench_exchange : Stmt := inClass (top 43) 8
abbrev a_Bench_exchange (K : Fr) : Addr := ma K (ga K "Bench") "exchange"
abbrev s_Bench_glue : Stmt := inClass (top 43) 9
abbrev a_Bench_glue (K : Fr) : Addr := ma K (ga K "Bench") "glue"
abbrev s_Bench_over : Stmt := inClass (top 43) 10
abbrev a_Bench_over (K : Fr) : Addr := ma K (ga K "Bench") "over"
abbrev s_Bench_execute : Stmt := inClass (top 43) 15
abbrev a_Bench_execute (K : Fr) : Addr := ma K (ga K "Bench") "execute"
abbrev s_Bench_apply_all : Stmt := inClass (top 43) 16
abbrev a_Bench_apply_all (K : Fr) : Addr := ma K (ga K "Bench") "apply_all"
abbrev s_Trial_init : Stmt := inClass (top 44) 0
abbrev a_Trial_init (K : Fr) : Addr := ma K (ga K "Trial") "__init__"
abbrev s_Trial_hold : Stmt := inClass (top 44) 1
abbrev a_Trial_hold (K : Fr) : Addr := ma K (ga K "Trial") "hold"
abbrev s_Trial_enter : Stmt := inClass (top 44) 2
abbrev a_Trial_enter (K : Fr) : Addr := ma K (ga K "Trial") "__enter__"
abbrev s_Trial_exit : Stmt := inClass (top 44) 3
abbrev a_Trial_exit (K : Fr) : Addr := ma K (ga K "Trial") "__exit__"
abbrev s_is_small : Stmt := top 60
abbrev a_is_small (K : Fr) : Addr := ga K "is_small"
abbrev s_numbers_in : Stmt := top 61
abbrev a_numbers_in (K : Fr) : Addr := ga K "numbers_in"
abbrev s_Line_init : Stmt := inClass (top 62) 1
abbrev a_Line_init (K : Fr) : Addr := ma K (ga K "Line") "__init__"
abbrev s_is_row : Stmt := top 63
abbrev a_is_row (K : Fr) : Addr := ga K "is_row"
abbrev s_read_script : Stmt := top 64
abbrev a_read_script (K : Fr) : Addr := ga K "read_script"
abbrev s_Machine_init : Stmt := inClass (top 65) 0
abbrev a_Machine_init (K : Fr) : Addr := ma K (ga K "Machine") "__init__"
abbrev s_Machine_step : Stmt := inClass (top 65) 1
abbrev a_Machine_step (K : Fr) : Addr := ma K (ga K "Machine") "step"
abbrev s_Machine_execute_all : Stmt := inClass (top 65) 2
abbrev a_Machine_execute_all (K : Fr) : Addr := ma K (ga K "Machine") "execute_all"
abbrev s_Machine_sheet : Stmt := inClass (top 65) 3
abbrev a_Machine_sheet (K : Fr) : Addr := ma K (ga K "Machine") "sheet"
abbrev s_Machine_letter_at : Stmt := inClass (top 65) 4
abbrev a_Machine_letter_at (K : Fr) : Addr := ma K (ga K "Machine") "letter_at"
abbrev s_Machine_execute : Stmt := inClass (top 65) 5
abbrev a_Machine_execute (K : Fr) : Addr := ma K (ga K "Machine") "execute"
abbrev s_Machine_act : Stmt := inClass (top 65) 6
abbrev a_Machine_act (K : Fr) : Addr := ma K (ga K "Machine") "act"
abbrev s_run_script : Stmt := top 66
abbrev a_run_script (K : Fr) : Addr := ga K "run_script"
abbrev s__law_taken : Stmt := top 68
abbrev a__law_taken (K : Fr) : Addr := ga K "_law_taken"
abbrev s__law_packet : Stmt := top 69
abbrev a__law_packet (K : Fr) : Addr := ga K "_law_packet"
abbrev s__law_parted : Stmt := top 70
abbrev a__law_parted (K : Fr) : Addr := ga K "_law_parted"
abbrev s__law_pattern : Stmt := top 71
abbrev a__law_pattern (K : Fr) : Addr := ga K "_law_pattern"
abbrev s__law_orders : Stmt := top 72
abbrev a__law_orders (K : Fr) : Addr := ga K "_law_orders"
abbrev s__law_row : Stmt := top 73
abbrev a__law_row (K : Fr) : Addr := ga K "_law_row"
abbrev s__law_tree : Stmt := top 74
abbrev a__law_tree (K : Fr) : Addr := ga K "_law_tree"
abbrev s__law_lines : Stmt := top 75
abbrev a__law_lines (K : Fr) : Addr := ga K "_law_lines"
abbrev s__law_rolled : Stmt := top 76
abbrev a__law_rolled (K : Fr) : Addr := ga K "_law_rolled"
abbrev s__law_run : Stmt := top 77
abbrev a__law_run (K : Fr) : Addr := ga K "_law_run"
abbrev s_law : Stmt := top 78
abbrev a_law (K : Fr) : Addr := ga K "law"
abbrev C_SheetError (K : Fr) : Addr := ga K "SheetError"
abbrev C_InvalidPattern (K : Fr) : Addr := ga K "InvalidPattern"
abbrev C_UnknownPiece (K : Fr) : Addr := ga K "UnknownPiece"
abbrev C_InvalidOrder (K : Fr) : Addr := ga K "InvalidOrder"
abbrev C_UnknownSheet (K : Fr) : Addr := ga K "UnknownSheet"
abbrev C_UnknownCell (K : Fr) : Addr := ga K "UnknownCell"
abbrev C_NotWhole (K : Fr) : Addr := ga K "NotWhole"
abbrev C_ExecutionFailed (K : Fr) : Addr := ga K "ExecutionFailed"
abbrev C_Packet (K : Fr) : Addr := ga K "Packet"
abbrev C_State (K : Fr) : Addr := ga K "State"
abbrev C_Line (K : Fr) : Addr := ga K "Line"
abbrev C_Bench (K : Fr) : Addr := ga K "Bench"
abbrev C_Trial (K : Fr) : Addr := ga K "Trial"
abbrev C_Machine (K : Fr) : Addr := ga K "Machine"
def defsB0 : List DefP := [⟨fun K => a_ExecutionFailed_init K, "__init__", "ExecutionFailed.__init__", s_ExecutionFailed_init⟩,
  ⟨fun K => a_is_number K, "is_number", "is_number", s_is_number⟩,
  ⟨fun K => a_is_picture K, "is_picture", "is_picture", s_is_picture⟩,
  ⟨fun K => a_are_pictures K, "are_pictures", "are_pictures", s_are_pictures⟩,
  ⟨fun K => a_is_size K, "is_size", "is_size", s_is_size⟩,
  ⟨fun K => a_Packet_init K, "__init__", "Packet.__init__", s_Packet_init⟩,
  ⟨fun K => a_Packet_width K, "width", "Packet.width", s_Packet_width⟩,
  ⟨fun K => a_Packet_height K, "height", "Packet.height", s_Packet_height⟩]
def defsB1 : List DefP := [⟨fun K => a_Packet_sheets K, "sheets", "Packet.sheets", s_Packet_sheets⟩,
  ⟨fun K => a_Packet_cells K, "cells", "Packet.cells", s_Packet_cells⟩,
  ⟨fun K => a_Packet_len K, "__len__", "Packet.__len__", s_Packet_len⟩,
  ⟨fun K => a_Packet_eq K, "__eq__", "Packet.__eq__", s_Packet_eq⟩,
  ⟨fun K => a_sides K, "sides", "sides", s_sides⟩,
  ⟨fun K => a_parted K, "parted", "parted", s_parted⟩,
  ⟨fun K => a_is_pattern K, "is_pattern", "is_pattern", s_is_pattern⟩,
  ⟨fun K => a_check_pattern K, "check_pattern", "check_pattern", s_check_pattern⟩]
def defsB2 : List DefP := [⟨fun K => a_length_of K, "length_of", "length_of", s_length_of⟩,
  ⟨fun K => a_is_order K, "is_order", "is_order", s_is_order⟩,
  ⟨fun K => a_relaid K, "relaid", "relaid", s_relaid⟩,
  ⟨fun K => a_mirrored K, "mirrored", "mirrored", s_mirrored⟩,
  ⟨fun K => a_turned_over K, "turned_over", "turned_over", s_turned_over⟩,
  ⟨fun K => a_is_operation K, "is_operation", "is_operation", s_is_operation⟩,
  ⟨fun K => a_is_name K, "is_name", "is_name", s_is_name⟩,
  ⟨fun K => a_State_init K, "__init__", "State.__init__", s_State_init⟩]
def defsB3 : List DefP := [⟨fun K => a_State_copied K, "copied", "State.copied", s_State_copied⟩,
  ⟨fun K => a_State_go_on K, "go_on", "State.go_on", s_State_go_on⟩,
  ⟨fun K => a_Bench_init K, "__init__", "Bench.__init__", s_Bench_init⟩,
  ⟨fun K => a_Bench_replay K, "replay", "Bench.replay", s_Bench_replay⟩,
  ⟨fun K => a_Bench_packet_now K, "packet_now", "Bench.packet_now", s_Bench_packet_now⟩,
  ⟨fun K => a_Bench_pattern_now K, "pattern_now", "Bench.pattern_now", s_Bench_pattern_now⟩,
  ⟨fun K => a_Bench_length_now K, "length_now", "Bench.length_now", s_Bench_length_now⟩,
  ⟨fun K => a_Bench_history K, "history", "Bench.history", s_Bench_history⟩]
def defsB4 : List DefP := [⟨fun K => a_Bench_saw K, "saw", "Bench.saw", s_Bench_saw⟩,
  ⟨fun K => a_Bench_exchange K, "exchange", "Bench.exchange", s_Bench_exchange⟩,
  ⟨fun K => a_Bench_glue K, "glue", "Bench.glue", s_Bench_glue⟩,
  ⟨fun K => a_Bench_over K, "over", "Bench.over", s_Bench_over⟩,
  ⟨fun K => a_Bench_execute K, "execute", "Bench.execute", s_Bench_execute⟩,
  ⟨fun K => a_Bench_apply_all K, "apply_all", "Bench.apply_all", s_Bench_apply_all⟩,
  ⟨fun K => a_Trial_init K, "__init__", "Trial.__init__", s_Trial_init⟩,
  ⟨fun K => a_Trial_hold K, "hold", "Trial.hold", s_Trial_hold⟩]
def defsB5 : List DefP := [⟨fun K => a_Trial_enter K, "__enter__", "Trial.__enter__", s_Trial_enter⟩,
  ⟨fun K => a_Trial_exit K, "__exit__", "Trial.__exit__", s_Trial_exit⟩,
  ⟨fun K => a_is_small K, "is_small", "is_small", s_is_small⟩,
  ⟨fun K => a_numbers_in K, "numbers_in", "numbers_in", s_numbers_in⟩,
  ⟨fun K => a_Line_init K, "__init__", "Line.__init__", s_Line_init⟩,
  ⟨fun K => a_is_row K, "is_row", "is_row", s_is_row⟩,
  ⟨fun K => a_read_script K, "read_script", "read_script", s_read_script⟩,
  ⟨fun K => a_Machine_init K, "__init__", "Machine.__init__", s_Machine_init⟩]
def defsB6 : List DefP := [⟨fun K => a_Machine_step K, "step", "Machine.step", s_Machine_step⟩,
  ⟨fun K => a_Machine_execute_all K, "execute_all", "Machine.execute_all", s_Machine_execute_all⟩,
  ⟨fun K => a_Machine_sheet K, "sheet", "Machine.sheet", s_Machine_sheet⟩,
  ⟨fun K => a_Machine_letter_at K, "letter_at", "Machine.letter_at", s_Machine_letter_at⟩,
  ⟨fun K => a_Machine_execute K, "execute", "Machine.execute", s_Machine_execute⟩,
  ⟨fun K => a_Machine_act K, "act", "Machine.act", s_Machine_act⟩,
  ⟨fun K => a_run_script K, "run_script", "run_script", s_run_script⟩,
  ⟨fun K => a__law_taken K, "_law_taken", "_law_taken", s__law_taken⟩]
def defsB7 : List DefP := [⟨fun K => a__law_packet K, "_law_packet", "_law_packet", s__law_packet⟩,
  ⟨fun K => a__law_parted K, "_law_parted", "_law_parted", s__law_parted⟩,
  ⟨fun K => a__law_pattern K, "_law_pattern", "_law_pattern", s__law_pattern⟩,
  ⟨fun K => a__law_orders K, "_law_orders", "_law_orders", s__law_orders⟩,
  ⟨fun K => a__law_row K, "_law_row", "_law_row", s__law_row⟩,
  ⟨fun K => a__law_tree K, "_law_tree", "_law_tree", s__law_tree⟩,
  ⟨fun K => a__law_lines K, "_law_lines", "_law_lines", s__law_lines⟩,
  ⟨fun K => a__law_rolled K, "_law_rolled", "_law_rolled", s__law_rolled⟩]
def defsB8 : List DefP := [⟨fun K => a__law_run K, "_law_run", "_law_run", s__law_run⟩,
  ⟨fun K => a_law K, "law", "law", s_law⟩]
def defsB : List DefP := defsB0 ++ (defsB1 ++ (defsB2 ++ (defsB3 ++ (defsB4 ++ (defsB5 ++ (defsB6 ++ (defsB7 ++ (defsB8))))))))
def factsB0 : List (Fr → Bool) := [gloB "is_number",
  gloB "is_picture",
  gloB "are_pictures",
  gloB "is_size",
  gloB "sides",
  gloB "parted",
  gloB "is_pattern",
  gloB "check_pattern",
  gloB "length_of",
  gloB "is_order",
  gloB "relaid",
  gloB "mirrored",
  gloB "turned_over",
  gloB "is_operation",
  gloB "is_name",
  gloB "is_small"]
def factsB1 : List (Fr → Bool) := [gloB "numbers_in",
  gloB "is_row",
  gloB "read_script",
  gloB "run_script",
  gloB "_law_taken",
  gloB "_law_packet",
  gloB "_law_parted",
  gloB "_law_pattern",
  gloB "_law_orders",
  gloB "_law_row",
  gloB "_law_tree",
  gloB "_law_lines",
  gloB "_law_rolled",
  gloB "_law_run",
  gloB "law",
  gloB "SheetError"]
def factsB2 : List (Fr → Bool) := [gloB "InvalidPattern",
  gloB "UnknownPiece",
  gloB "InvalidOrder",
  gloB "UnknownSheet",
  gloB "UnknownCell",
  gloB "NotWhole",
  gloB "ExecutionFailed",
  gloB "Packet",
  gloB "State",
  gloB "Line",
  gloB "Bench",
  gloB "Trial",
  gloB "Machine",
  gloB "SIZES",
  gloB "BLOCKS",
  freeB "isinstance"]
def factsB3 : List (Fr → Bool) := [freeB "int",
  freeB "bool",
  freeB "str",
  freeB "len",
  freeB "all",
  freeB "tuple",
  freeB "range",
  freeB "list",
  freeB "enumerate",
  freeB "zip",
  freeB "max",
  freeB "min",
  freeB "set",
  freeB "sorted",
  relN "LETTERS" (.str "abcdefghijklmnopqrstuvwxyz"),
  relN "MAX_SIDE" (.int 4)]
def factsB4 : List (Fr → Bool) := [relN "MAX_CELLS" (.int 9),
  relN "MAX_SHEETS" (.int 4),
  relN "MOST_ROWS" (.int 60),
  relN "MOST_DEPTH" (.int 4),
  relN "MOST_STEPS" (.int 300),
  relN "DIGITS" (.str "0123456789"),
  relN "MOST_DIGITS" (.int 2),
  relN "SAW" (.str "saw"),
  relN "EXCHANGE" (.str "exchange"),
  relN "GLUE" (.str "glue"),
  relN "OVER" (.str "over"),
  relN "SHOW" (.str "show"),
  relN "REPEAT" (.str "repeat"),
  relN "WHEN" (.str "when"),
  relN "END" (.str "end"),
  sclsB "Packet"]
def factsB5 : List (Fr → Bool) := [sclsB "State",
  sclsB "Line",
  slotB "Packet" "parts" 0,
  slotB "State" "facts" 0,
  slotB "State" "past" 1,
  slotB "State" "shelf" 2,
  slotB "State" "undone" 3,
  slotB "Line" "block" 0,
  slotB "Line" "head" 1,
  slotB "Line" "letter" 2,
  slotB "Line" "number" 3,
  slotB "Line" "rest" 4,
  clsB "Bench",
  clsB "Trial",
  clsB "Machine",
  noatB "Bench" "held"]
def factsB6 : List (Fr → Bool) := [noatB "Trial" "tested_bench",
  noatB "Trial" "origin",
  noatB "Trial" "fresh",
  noatB "Trial" "chosen",
  noatB "Machine" "bench",
  noatB "Machine" "output",
  noatB "Machine" "step_count",
  propB "Packet" "width",
  propB "Packet" "height",
  propB "Packet" "sheets",
  propB "Packet" "cells",
  methB "State" "copied",
  methB "State" "go_on",
  propB "Bench" "packet_now",
  propB "Bench" "pattern_now",
  propB "Bench" "length_now"]
def factsB7 : List (Fr → Bool) := [propB "Bench" "history",
  methB "Bench" "saw",
  methB "Bench" "exchange",
  methB "Bench" "glue",
  methB "Bench" "over",
  methB "Bench" "execute",
  methB "Bench" "apply_all",
  methB "Trial" "hold",
  methB "Machine" "step",
  methB "Machine" "execute_all",
  methB "Machine" "sheet",
  methB "Machine" "letter_at",
  methB "Machine" "execute",
  methB "Machine" "act",
  mkB "Packet",
  mkB "State"]
def factsB8 : List (Fr → Bool) := [mkB "Line",
  mkB "Bench",
  mkB "Trial",
  mkB "Machine",
  isiB "Packet",
  specB "Packet" "__len__",
  specB "Packet" "__eq__",
  specB "Trial" "__enter__",
  specB "Trial" "__exit__",
  excB "InvalidPattern",
  excB "UnknownPiece",
  excB "InvalidOrder",
  excB "UnknownSheet",
  excB "UnknownCell",
  excB "NotWhole",
  exmB "InvalidPattern" "SheetError" true]
def factsB9 : List (Fr → Bool) := [exmB "UnknownPiece" "SheetError" true,
  exmB "InvalidOrder" "SheetError" true,
  exmB "UnknownSheet" "SheetError" true,
  exmB "UnknownCell" "SheetError" true,
  exmB "NotWhole" "SheetError" true,
  exmB "ExecutionFailed" "SheetError" true,
  neB "Packet",
  cmetB "Bench" "replay",
  creadB "Bench" (.type "type"),
  creadB "SheetError" (.type "type"),
  vinB "SheetError",
  oexB "ExecutionFailed",
  specB "ExecutionFailed" "__init__",
  tyfB "ExecutionFailed" "__init__",
  noatB "ExecutionFailed" "row"]
def factsB : List (Fr → Bool) := factsB0 ++ (factsB1 ++ (factsB2 ++ (factsB3 ++ (factsB4 ++ (factsB5 ++ (factsB6 ++ (factsB7 ++ (factsB8 ++ (factsB9)))))))))
/-- what the head tells of the written part -/
structure Txt (K : Fr) (mg : Str → Option Value) (w : World) : Prop where
  gl : ∀ x o, PySem.W.nsIn K mainGlobals x = some o → mg x = o
  fa : ∀ (i : Nat) (f : Fr → Bool), factsB[i]? = some f → f K = true
  de : ∀ (i : Nat) (d : DefP), defsB[i]? = some d → ∃ fd, FunP K d.name d.qual d.st (d.at_ K) fd
  sizes : ∃ es n, KDict K w (ga K "SIZES") es n
  sizesV : He.valsB K (ga K "SIZES") [("saw", .int 2), ("exchange", .int 3), ("glue", .int 1), ("over", .int 2)] = true
  blocks : He.tupB K "BLOCKS" [.str "repeat", .str "when"] = true
section
variable {K : Fr} {mg : Str → Option Value} {w : World}
theorem d_ExecutionFailed_init (T : Txt K mg w) : ∃ fd, FunP K "__init__" "ExecutionFailed.__init__" s_ExecutionFailed_init (a_ExecutionFailed_init K) fd := T.de 0 ⟨fun K => a_ExecutionFailed_init K, "__init__", "ExecutionFailed.__init__", s_ExecutionFailed_init⟩ rfl
theorem d_is_number (T : Txt K mg w) : ∃ fd, FunP K "is_number" "is_number" s_is_number (a_is_number K) fd := T.de 1 ⟨fun K => a_is_number K, "is_number", "is_number", s_is_number⟩ rfl
theorem d_is_picture (T : Txt K mg w) : ∃ fd, FunP K "is_picture" "is_picture" s_is_picture (a_is_picture K) fd := T.de 2 ⟨fun K => a_is_picture K, "is_picture", "is_picture", s_is_picture⟩ rfl
theorem d_are_pictures (T : Txt K mg w) : ∃ fd, FunP K "are_pictures" "are_pictures" s_are_pictures (a_are_pictures K) fd := T.de 3 ⟨fun K => a_are_pictures K, "are_pictures", "are_pictures", s_are_pictures⟩ rfl
theorem d_is_size (T : Txt K mg w) : ∃ fd, FunP K "is_size" "is_size" s_is_size (a_is_size K) fd := T.de 4 ⟨fun K => a_is_size K, "is_size", "is_size", s_is_size⟩ rfl
theorem d_Packet_init (T : Txt K mg w) : ∃ fd, FunP K "__init__" "Packet.__init__" s_Packet_init (a_Packet_init K) fd := T.de 5 ⟨fun K => a_Packet_init K, "__init__", "Packet.__init__", s_Packet_init⟩ rfl
theorem d_Packet_width (T : Txt K mg w) : ∃ fd, FunP K "width" "Packet.width" s_Packet_width (a_Packet_width K) fd := T.de 6 ⟨fun K => a_Packet_width K, "width", "Packet.width", s_Packet_width⟩ rfl
theorem d_Packet_height (T : Txt K mg w) : ∃ fd, FunP K "height" "Packet.height" s_Packet_height (a_Packet_height K) fd := T.de 7 ⟨fun K => a_Packet_height K, "height", "Packet.height", s_Packet_height⟩ rfl
theorem d_Packet_sheets (T : Txt K mg w) : ∃ fd, FunP K "sheets" "Packet.sheets" s_Packet_sheets (a_Packet_sheets K) fd := T.de 8 ⟨fun K => a_Packet_sheets K, "sheets", "Packet.sheets", s_Packet_sheets⟩ rfl
theorem d_Packet_cells (T : Txt K mg w) : ∃ fd, FunP K "cells" "Packet.cells" s_Packet_cells (a_Packet_cells K) fd := T.de 9 ⟨fun K => a_Packet_cells K, "cells", "Packet.cells", s_Packet_cells⟩ rfl
theorem d_Packet_len (T : Txt K mg w) : ∃ fd, FunP K "__len__" "Packet.__len__" s_Packet_len (a_Packet_len K) fd := T.de 10 ⟨fun K => a_Packet_len K, "__len__", "Packet.__len__", s_Packet_len⟩ rfl
theorem d_Packet_eq (T : Txt K mg w) : ∃ fd, FunP K "__eq__" "Packet.__eq__" s_Packet_eq (a_Packet_eq K) fd := T.de 11 ⟨fun K => a_Packet_eq K, "__eq__", "Packet.__eq__", s_Packet_eq⟩ rfl
theorem d_sides (T : Txt K mg w) : ∃ fd, FunP K "sides" "sides" s_sides (a_sides K) fd := T.de 12 ⟨fun K => a_sides K, "sides", "sides", s_sides⟩ rfl
theorem d_parted (T : Txt K mg w) : ∃ fd, FunP K "parted" "parted" s_parted (a_parted K) fd := T.de 13 ⟨fun K => a_parted K, "parted", "parted", s_parted⟩ rfl
theorem d_is_pattern (T : Txt K mg w) : ∃ fd, FunP K "is_pattern" "is_pattern" s_is_pattern (a_is_pattern K) fd := T.de 14 ⟨fun K => a_is_pattern K, "is_pattern", "is_pattern", s_is_pattern⟩ rfl
theorem d_check_pattern (T : Txt K mg w) : ∃ fd, FunP K "check_pattern" "check_pattern" s_check_pattern (a_check_pattern K) fd := T.de 15 ⟨fun K => a_check_pattern K, "check_pattern", "check_pattern", s_check_pattern⟩ rfl
theorem d_length_of (T : Txt K mg w) : ∃ fd, FunP K "length_of" "length_of" s_length_of (a_length_of K) fd := T.de 16 ⟨fun K => a_length_of K, "length_of", "length_of", s_length_of⟩ rfl
theorem d_is_order (T : Txt K mg w) : ∃ fd, FunP K "is_order" "is_order" s_is_order (a_is_order K) fd := T.de 17 ⟨fun K => a_is_order K, "is_order", "is_order", s_is_order⟩ rfl
theorem d_relaid (T : Txt K mg w) : ∃ fd, FunP K "relaid" "relaid" s_relaid (a_relaid K) fd := T.de 18 ⟨fun K => a_relaid K, "relaid", "relaid", s_relaid⟩ rfl
theorem d_mirrored (T : Txt K mg w) : ∃ fd, FunP K "mirrored" "mirrored" s_mirrored (a_mirrored K) fd := T.de 19 ⟨fun K => a_mirrored K, "mirrored", "mirrored", s_mirrored⟩ rfl
theorem d_turned_over (T : Txt K mg w) : ∃ fd, FunP K "turned_over" "turned_over" s_turned_over (a_turned_over K) fd := T.de 20 ⟨fun K => a_turned_over K, "turned_over", "turned_over", s_turned_over⟩ rfl
theorem d_is_operation (T : Txt K mg w) : ∃ fd, FunP K "is_operation" "is_operation" s_is_operation (a_is_operation K) fd := T.de 21 ⟨fun K => a_is_operation K, "is_operation", "is_operation", s_is_operation⟩ rfl
theorem d_is_name (T : Txt K mg w) : ∃ fd, FunP K "is_name" "is_name" s_is_name (a_is_name K) fd := T.de 22 ⟨fun K => a_is_name K, "is_name", "is_name", s_is_name⟩ rfl
theorem d_State_init (T : Txt K mg w) : ∃ fd, FunP K "__init__" "State.__init__" s_State_init (a_State_init K) fd := T.de 23 ⟨fun K => a_State_init K, "__init__", "State.__init__", s_State_init⟩ rfl
theorem d_State_copied (T : Txt K mg w) : ∃ fd, FunP K "copied" "State.copied" s_State_copied (a_State_copied K) fd := T.de 24 ⟨fun K => a_State_copied K, "copied", "State.copied", s_State_copied⟩ rfl
theorem d_State_go_on (T : Txt K mg w) : ∃ fd, FunP K "go_on" "State.go_on" s_State_go_on (a_State_go_on K) fd := T.de 25 ⟨fun K => a_State_go_on K, "go_on", "State.go_on", s_State_go_on⟩ rfl
theorem d_Bench_init (T : Txt K mg w) : ∃ fd, FunP K "__init__" "Bench.__init__" s_Bench_init (a_Bench_init K) fd := T.de 26 ⟨fun K => a_Bench_init K, "__init__", "Bench.__init__", s_Bench_init⟩ rfl
theorem d_Bench_replay (T : Txt K mg w) : ∃ fd, FunP K "replay" "Bench.replay" s_Bench_replay (a_Bench_replay K) fd := T.de 27 ⟨fun K => a_Bench_replay K, "replay", "Bench.replay", s_Bench_replay⟩ rfl
theorem d_Bench_packet_now (T : Txt K mg w) : ∃ fd, FunP K "packet_now" "Bench.packet_now" s_Bench_packet_now (a_Bench_packet_now K) fd := T.de 28 ⟨fun K => a_Bench_packet_now K, "packet_now", "Bench.packet_now", s_Bench_packet_now⟩ rfl
theorem d_Bench_pattern_now (T : Txt K mg w) : ∃ fd, FunP K "pattern_now" "Bench.pattern_now" s_Bench_pattern_now (a_Bench_pattern_now K) fd := T.de 29 ⟨fun K => a_Bench_pattern_now K, "pattern_now", "Bench.pattern_now", s_Bench_pattern_now⟩ rfl
theorem d_Bench_length_now (T : Txt K mg w) : ∃ fd, FunP K "length_now" "Bench.length_now" s_Bench_length_now (a_Bench_length_now K) fd := T.de 30 ⟨fun K => a_Bench_length_now K, "length_now", "Bench.length_now", s_Bench_length_now⟩ rfl
theorem d_Bench_history (T : Txt K mg w) : ∃ fd, FunP K "history" "Bench.history" s_Bench_history (a_Bench_history K) fd := T.de 31 ⟨fun K => a_Bench_history K, "history", "Bench.history", s_Bench_history⟩ rfl
theorem d_Bench_saw (T : Txt K mg w) : ∃ fd, FunP K "saw" "Bench.saw" s_Bench_saw (a_Bench_saw K) fd := T.de 32 ⟨fun K => a_Bench_saw K, "saw", "Bench.saw", s_Bench_saw⟩ rfl
theorem d_Bench_exchange (T : Txt K mg w) : ∃ fd, FunP K "exchange" "Bench.exchange" s_Bench_exchange (a_Bench_exchange K) fd := T.de 33 ⟨fun K => a_Bench_exchange K, "exchange", "Bench.exchange", s_Bench_exchange⟩ rfl
theorem d_Bench_glue (T : Txt K mg w) : ∃ fd, FunP K "glue" "Bench.glue" s_Bench_glue (a_Bench_glue K) fd := T.de 34 ⟨fun K => a_Bench_glue K, "glue", "Bench.glue", s_Bench_glue⟩ rfl
theorem d_Bench_over (T : Txt K mg w) : ∃ fd, FunP K "over" "Bench.over" s_Bench_over (a_Bench_over K) fd := T.de 35 ⟨fun K => a_Bench_over K, "over", "Bench.over", s_Bench_over⟩ rfl
theorem d_Bench_execute (T : Txt K mg w) : ∃ fd, FunP K "execute" "Bench.execute" s_Bench_execute (a_Bench_execute K) fd := T.de 36 ⟨fun K => a_Bench_execute K, "execute", "Bench.execute", s_Bench_execute⟩ rfl
theorem d_Bench_apply_all (T : Txt K mg w) : ∃ fd, FunP K "apply_all" "Bench.apply_all" s_Bench_apply_all (a_Bench_apply_all K) fd := T.de 37 ⟨fun K => a_Bench_apply_all K, "apply_all", "Bench.apply_all", s_Bench_apply_all⟩ rfl
theorem d_Trial_init (T : Txt K mg w) : ∃ fd, FunP K "__init__" "Trial.__init__" s_Trial_init (a_Trial_init K) fd := T.de 38 ⟨fun K => a_Trial_init K, "__init__", "Trial.__init__", s_Trial_init⟩ rfl
theorem d_Trial_hold (T : Txt K mg w) : ∃ fd, FunP K "hold" "Trial.hold" s_Trial_hold (a_Trial_hold K) fd := T.de 39 ⟨fun K => a_Trial_hold K, "hold", "Trial.hold", s_Trial_hold⟩ rfl
theorem d_Trial_enter (T : Txt K mg w) : ∃ fd, FunP K "__enter__" "Trial.__enter__" s_Trial_enter (a_Trial_enter K) fd := T.de 40 ⟨fun K => a_Trial_enter K, "__enter__", "Trial.__enter__", s_Trial_enter⟩ rfl
theorem d_Trial_exit (T : Txt K mg w) : ∃ fd, FunP K "__exit__" "Trial.__exit__" s_Trial_exit (a_Trial_exit K) fd := T.de 41 ⟨fun K => a_Trial_exit K, "__exit__", "Trial.__exit__", s_Trial_exit⟩ rfl
theorem d_is_small (T : Txt K mg w) : ∃ fd, FunP K "is_small" "is_small" s_is_small (a_is_small K) fd := T.de 42 ⟨fun K => a_is_small K, "is_small", "is_small", s_is_small⟩ rfl
theorem d_numbers_in (T : Txt K mg w) : ∃ fd, FunP K "numbers_in" "numbers_in" s_numbers_in (a_numbers_in K) fd := T.de 43 ⟨fun K => a_numbers_in K, "numbers_in", "numbers_in", s_numbers_in⟩ rfl
theorem d_Line_init (T : Txt K mg w) : ∃ fd, FunP K "__init__" "Line.__init__" s_Line_init (a_Line_init K) fd := T.de 44 ⟨fun K => a_Line_init K, "__init__", "Line.__init__", s_Line_init⟩ rfl
theorem d_is_row (T : Txt K mg w) : ∃ fd, FunP K "is_row" "is_row" s_is_row (a_is_row K) fd := T.de 45 ⟨fun K => a_is_row K, "is_row", "is_row", s_is_row⟩ rfl
theorem d_read_script (T : Txt K mg w) : ∃ fd, FunP K "read_script" "read_script" s_read_script (a_read_script K) fd := T.de 46 ⟨fun K => a_read_script K, "read_script", "read_script", s_read_script⟩ rfl
theorem d_Machine_init (T : Txt K mg w) : ∃ fd, FunP K "__init__" "Machine.__init__" s_Machine_init (a_Machine_init K) fd := T.de 47 ⟨fun K => a_Machine_init K, "__init__", "Machine.__init__", s_Machine_init⟩ rfl
theorem d_Machine_step (T : Txt K mg w) : ∃ fd, FunP K "step" "Machine.step" s_Machine_step (a_Machine_step K) fd := T.de 48 ⟨fun K => a_Machine_step K, "step", "Machine.step", s_Machine_step⟩ rfl
theorem d_Machine_execute_all (T : Txt K mg w) : ∃ fd, FunP K "execute_all" "Machine.execute_all" s_Machine_execute_all (a_Machine_execute_all K) fd := T.de 49 ⟨fun K => a_Machine_execute_all K, "execute_all", "Machine.execute_all", s_Machine_execute_all⟩ rfl
theorem d_Machine_sheet (T : Txt K mg w) : ∃ fd, FunP K "sheet" "Machine.sheet" s_Machine_sheet (a_Machine_sheet K) fd := T.de 50 ⟨fun K => a_Machine_sheet K, "sheet", "Machine.sheet", s_Machine_sheet⟩ rfl
theorem d_Machine_letter_at (T : Txt K mg w) : ∃ fd, FunP K "letter_at" "Machine.letter_at" s_Machine_letter_at (a_Machine_letter_at K) fd := T.de 51 ⟨fun K => a_Machine_letter_at K, "letter_at", "Machine.letter_at", s_Machine_letter_at⟩ rfl
theorem d_Machine_execute (T : Txt K mg w) : ∃ fd, FunP K "execute" "Machine.execute" s_Machine_execute (a_Machine_execute K) fd := T.de 52 ⟨fun K => a_Machine_execute K, "execute", "Machine.execute", s_Machine_execute⟩ rfl
theorem d_Machine_act (T : Txt K mg w) : ∃ fd, FunP K "act" "Machine.act" s_Machine_act (a_Machine_act K) fd := T.de 53 ⟨fun K => a_Machine_act K, "act", "Machine.act", s_Machine_act⟩ rfl
theorem d_run_script (T : Txt K mg w) : ∃ fd, FunP K "run_script" "run_script" s_run_script (a_run_script K) fd := T.de 54 ⟨fun K => a_run_script K, "run_script", "run_script", s_run_script⟩ rfl
theorem d__law_taken (T : Txt K mg w) : ∃ fd, FunP K "_law_taken" "_law_taken" s__law_taken (a__law_taken K) fd := T.de 55 ⟨fun K => a__law_taken K, "_law_taken", "_law_taken", s__law_taken⟩ rfl
theorem d__law_packet (T : Txt K mg w) : ∃ fd, FunP K "_law_packet" "_law_packet" s__law_packet (a__law_packet K) fd := T.de 56 ⟨fun K => a__law_packet K, "_law_packet", "_law_packet", s__law_packet⟩ rfl
theorem d__law_parted (T : Txt K mg w) : ∃ fd, FunP K "_law_parted" "_law_parted" s__law_parted (a__law_parted K) fd := T.de 57 ⟨fun K => a__law_parted K, "_law_parted", "_law_parted", s__law_parted⟩ rfl
theorem d__law_pattern (T : Txt K mg w) : ∃ fd, FunP K "_law_pattern" "_law_pattern" s__law_pattern (a__law_pattern K) fd := T.de 58 ⟨fun K => a__law_pattern K, "_law_pattern", "_law_pattern", s__law_pattern⟩ rfl
theorem d__law_orders (T : Txt K mg w) : ∃ fd, FunP K "_law_orders" "_law_orders" s__law_orders (a__law_orders K) fd := T.de 59 ⟨fun K => a__law_orders K, "_law_orders", "_law_orders", s__law_orders⟩ rfl
theorem d__law_row (T : Txt K mg w) : ∃ fd, FunP K "_law_row" "_law_row" s__law_row (a__law_row K) fd := T.de 60 ⟨fun K => a__law_row K, "_law_row", "_law_row", s__law_row⟩ rfl
theorem d__law_tree (T : Txt K mg w) : ∃ fd, FunP K "_law_tree" "_law_tree" s__law_tree (a__law_tree K) fd := T.de 61 ⟨fun K => a__law_tree K, "_law_tree", "_law_tree", s__law_tree⟩ rfl
theorem d__law_lines (T : Txt K mg w) : ∃ fd, FunP K "_law_lines" "_law_lines" s__law_lines (a__law_lines K) fd := T.de 62 ⟨fun K => a__law_lines K, "_law_lines", "_law_lines", s__law_lines⟩ rfl
theorem d__law_rolled (T : Txt K mg w) : ∃ fd, FunP K "_law_rolled" "_law_rolled" s__law_rolled (a__law_rolled K) fd := T.de 63 ⟨fun K => a__law_rolled K, "_law_rolled", "_law_rolled", s__law_rolled⟩ rfl
theorem d__law_run (T : Txt K mg w) : ∃ fd, FunP K "_law_run" "_law_run" s__law_run (a__law_run K) fd := T.de 64 ⟨fun K => a__law_run K, "_law_run", "_law_run", s__law_run⟩ rfl
theorem d_law (T : Txt K mg w) : ∃ fd, FunP K "law" "law" s_law (a_law K) fd := T.de 65 ⟨fun K => a_law K, "law", "law", s_law⟩ rfl
theorem kp_ExecutionFailed_init (T : Txt K mg w) : PySem.W.keepIn K (.ref (a_ExecutionFailed_init K)) = true := let ⟨_, F⟩ := d_ExecutionFailed_init T; F.kp
theorem kp_is_number (T : Txt K mg w) : PySem.W.keepIn K (.ref (a_is_number K)) = true := let ⟨_, F⟩ := d_is_number T; F.kp
theorem kp_is_picture (T : Txt K mg w) : PySem.W.keepIn K (.ref (a_is_picture K)) = true := let ⟨_, F⟩ := d_is_picture T; F.kp
theorem kp_are_pictures (T : Txt K mg w) : PySem.W.keepIn K (.ref (a_are_pictures K)) = true := let ⟨_, F⟩ := d_are_pictures T; F.kp
theorem kp_is_size (T : Txt K mg w) : PySem.W.keepIn K (.ref (a_is_size K)) = true := let ⟨_, F⟩ := d_is_size T; F.kp
theorem kp_Packet_init (T : Txt K mg w) : PySem.W.keepIn K (.ref (a_Packet_init K)) = true := let ⟨_, F⟩ := d_Packet_init T; F.kp
theorem kp_Packet_width (T : Txt K mg w) : PySem.W.keepIn K (.ref (a_Packet_width K)) = true := let ⟨_, F⟩ := d_Packet_width T; F.kp
theorem kp_Packet_height (T : Txt K mg w) : PySem.W.keepIn K (.ref (a_Packet_height K)) = true := let ⟨_, F⟩ := d_Packet_height T; F.kp
theorem kp_Packet_sheets (T : Txt K mg w) : PySem.W.keepIn K (.ref (a_Packet_sheets K)) = true := let ⟨_, F⟩ := d_Packet_sheets T; F.kp
theorem kp_Packet_cells (T : Txt K mg w) : PySem.W.keepIn K (.ref (a_Packet_cells K)) = true := let ⟨_, F⟩ := d_Packet_cells T; F.kp
theorem kp_Packet_len (T : Txt K mg w) : PySem.W.keepIn K (.ref (a_Packet_len K)) = true := let ⟨_, F⟩ := d_Packet_len T; F.kp
theorem kp_Packet_eq (T : Txt K mg w) : PySem.W.keepIn K (.ref (a_Packet_eq K)) = true := let ⟨_, F⟩ := d_Packet_eq T; F.kp
theorem kp_sides (T : Txt K mg w) : PySem.W.keepIn K (.ref (a_sides K)) = true := let ⟨_, F⟩ := d_sides T; F.kp
theorem kp_parted (T : Txt K mg w) : PySem.W.keepIn K (.ref (a_parted K)) = true := let ⟨_, F⟩ := d_parted T; F.kp
theorem kp_is_pattern (T : Txt K mg w) : PySem.W.keepIn K (.ref (a_is_pattern K)) = true := let ⟨_, F⟩ := d_is_pattern T; F.kp
theorem kp_check_pattern (T : Txt K mg w) : PySem.W.keepIn K (.ref (a_check_pattern K)) = true := let ⟨_, F⟩ := d_check_pattern T; F.kp
theorem kp_length_of (T : Txt K mg w) : PySem.W.keepIn K (.ref (a_length_of K)) = true := let ⟨_, F⟩ := d_length_of T; F.kp
theorem kp_is_order (T : Txt K mg w) : PySem.W.keepIn K (.ref (a_is_order K)) = true := let ⟨_, F⟩ := d_is_order T; F.kp
theorem kp_relaid (T : Txt K mg w) : PySem.W.keepIn K (.ref (a_relaid K)) = true := let ⟨_, F⟩ := d_relaid T; F.kp
theorem kp_mirrored (T : Txt K mg w) : PySem.W.keepIn K (.ref (a_mirrored K)) = true := let ⟨_, F⟩ := d_mirrored T; F.kp
theorem kp_turned_over (T : Txt K mg w) : PySem.W.keepIn K (.ref (a_turned_over K)) = true := let ⟨_, F⟩ := d_turned_over T; F.kp
theorem kp_is_operation (T : Txt K mg w) : PySem.W.keepIn K (.ref (a_is_operation K)) = true := let ⟨_, F⟩ := d_is_operation T; F.kp
theorem kp_is_name (T : Txt K mg w) : PySem.W.keepIn K (.ref (a_is_name K)) = true := let ⟨_, F⟩ := d_is_name T; F.kp
theorem kp_State_init (T : Txt K mg w) : PySem.W.keepIn K (.ref (a_State_init K)) = true := let ⟨_, F⟩ := d_State_init T; F.kp
theorem kp_State_copied (T : Txt K mg w) : PySem.W.keepIn K (.ref (a_State_copied K)) = true := let ⟨_, F⟩ := d_State_copied T; F.kp
theorem kp_State_go_on (T : Txt K mg w) : PySem.W.keepIn K (.ref (a_State_go_on K)) = true := let ⟨_, F⟩ := d_State_go_on T; F.kp
theorem kp_Bench_init (T : Txt K mg w) : PySem.W.keepIn K (.ref (a_Bench_init K)) = true := let ⟨_, F⟩ := d_Bench_init T; F.kp
theorem kp_Bench_replay (T : Txt K mg w) : PySem.W.keepIn K (.ref (a_Bench_replay K)) = true := let ⟨_, F⟩ := d_Bench_replay T; F.kp
theorem kp_Bench_packet_now (T : Txt K mg w) : PySem.W.keepIn K (.ref (a_Bench_packet_now K)) = true := let ⟨_, F⟩ := d_Bench_packet_now T; F.kp
theorem kp_Bench_pattern_now (T : Txt K mg w) : PySem.W.keepIn K (.ref (a_Bench_pattern_now K)) = true := let ⟨_, F⟩ := d_Bench_pattern_now T; F.kp
theorem kp_Bench_length_now (T : Txt K mg w) : PySem.W.keepIn K (.ref (a_Bench_length_now K)) = true := let ⟨_, F⟩ := d_Bench_length_now T; F.kp
theorem kp_Bench_history (T : Txt K mg w) : PySem.W.keepIn K (.ref (a_Bench_history K)) = true := let ⟨_, F⟩ := d_Bench_history T; F.kp
theorem kp_Bench_saw (T : Txt K mg w) : PySem.W.keepIn K (.ref (a_Bench_saw K)) = true := let ⟨_, F⟩ := d_Bench_saw T; F.kp
theorem kp_Bench_exchange (T : Txt K mg w) : PySem.W.keepIn K (.ref (a_Bench_exchange K)) = true := let ⟨_, F⟩ := d_Bench_exchange T; F.kp
theorem kp_Bench_glue (T : Txt K mg w) : PySem.W.keepIn K (.ref (a_Bench_glue K)) = true := let ⟨_, F⟩ := d_Bench_glue T; F.kp
theorem kp_Bench_over (T : Txt K mg w) : PySem.W.keepIn K (.ref (a_Bench_over K)) = true := let ⟨_, F⟩ := d_Bench_over T; F.kp
theorem kp_Bench_execute (T : Txt K mg w) : PySem.W.keepIn K (.ref (a_Bench_execute K)) = true := let ⟨_, F⟩ := d_Bench_execute T; F.kp
theorem kp_Bench_apply_all (T : Txt K mg w) : PySem.W.keepIn K (.ref (a_Bench_apply_all K)) = true := let ⟨_, F⟩ := d_Bench_apply_all T; F.kp
theorem kp_Trial_init (T : Txt K mg w) : PySem.W.keepIn K (.ref (a_Trial_init K)) = true := let ⟨_, F⟩ := d_Trial_init T; F.kp
theorem kp_Trial_hold (T : Txt K mg w) : PySem.W.keepIn K (.ref (a_Trial_hold K)) = true := let ⟨_, F⟩ := d_Trial_hold T; F.kp
theorem kp_Trial_enter (T : Txt K mg w) : PySem.W.keepIn K (.ref (a_Trial_enter K)) = true := let ⟨_, F⟩ := d_Trial_enter T; F.kp
theorem kp_Trial_exit (T : Txt K mg w) : PySem.W.keepIn K (.ref (a_Trial_exit K)) = true := let ⟨_, F⟩ := d_Trial_exit T; F.kp
theorem kp_is_small (T : Txt K mg w) : PySem.W.keepIn K (.ref (a_is_small K)) = true := let ⟨_, F⟩ := d_is_small T; F.kp
theorem kp_numbers_in (T : Txt K mg w) : PySem.W.keepIn K (.ref (a_numbers_in K)) = true := let ⟨_, F⟩ := d_numbers_in T; F.kp
theorem kp_Line_init (T : Txt K mg w) : PySem.W.keepIn K (.ref (a_Line_init K)) = true := let ⟨_, F⟩ := d_Line_init T; F.kp
theorem kp_is_row (T : Txt K mg w) : PySem.W.keepIn K (.ref (a_is_row K)) = true := let ⟨_, F⟩ := d_is_row T; F.kp
theorem kp_read_script (T : Txt K mg w) : PySem.W.keepIn K (.ref (a_read_script K)) = true := let ⟨_, F⟩ := d_read_script T; F.kp
theorem kp_Machine_init (T : Txt K mg w) : PySem.W.keepIn K (.ref (a_Machine_init K)) = true := let ⟨_, F⟩ := d_Machine_init T; F.kp
theorem kp_Machine_step (T : Txt K mg w) : PySem.W.keepIn K (.ref (a_Machine_step K)) = true := let ⟨_, F⟩ := d_Machine_step T; F.kp
theorem kp_Machine_execute_all (T : Txt K mg w) : PySem.W.keepIn K (.ref (a_Machine_execute_all K)) = true := let ⟨_, F⟩ := d_Machine_execute_all T; F.kp
theorem kp_Machine_sheet (T : Txt K mg w) : PySem.W.keepIn K (.ref (a_Machine_sheet K)) = true := let ⟨_, F⟩ := d_Machine_sheet T; F.kp
theorem kp_Machine_letter_at (T : Txt K mg w) : PySem.W.keepIn K (.ref (a_Machine_letter_at K)) = true := let ⟨_, F⟩ := d_Machine_letter_at T; F.kp
theorem kp_Machine_execute (T : Txt K mg w) : PySem.W.keepIn K (.ref (a_Machine_execute K)) = true := let ⟨_, F⟩ := d_Machine_execute T; F.kp
theorem kp_Machine_act (T : Txt K mg w) : PySem.W.keepIn K (.ref (a_Machine_act K)) = true := let ⟨_, F⟩ := d_Machine_act T; F.kp
theorem kp_run_script (T : Txt K mg w) : PySem.W.keepIn K (.ref (a_run_script K)) = true := let ⟨_, F⟩ := d_run_script T; F.kp
theorem kp__law_taken (T : Txt K mg w) : PySem.W.keepIn K (.ref (a__law_taken K)) = true := let ⟨_, F⟩ := d__law_taken T; F.kp
theorem kp__law_packet (T : Txt K mg w) : PySem.W.keepIn K (.ref (a__law_packet K)) = true := let ⟨_, F⟩ := d__law_packet T; F.kp
theorem kp__law_parted (T : Txt K mg w) : PySem.W.keepIn K (.ref (a__law_parted K)) = true := let ⟨_, F⟩ := d__law_parted T; F.kp
theorem kp__law_pattern (T : Txt K mg w) : PySem.W.keepIn K (.ref (a__law_pattern K)) = true := let ⟨_, F⟩ := d__law_pattern T; F.kp
theorem kp__law_orders (T : Txt K mg w) : PySem.W.keepIn K (.ref (a__law_orders K)) = true := let ⟨_, F⟩ := d__law_orders T; F.kp
theorem kp__law_row (T : Txt K mg w) : PySem.W.keepIn K (.ref (a__law_row K)) = true := let ⟨_, F⟩ := d__law_row T; F.kp
theorem kp__law_tree (T : Txt K mg w) : PySem.W.keepIn K (.ref (a__law_tree K)) = true := let ⟨_, F⟩ := d__law_tree T; F.kp
theorem kp__law_lines (T : Txt K mg w) : PySem.W.keepIn K (.ref (a__law_lines K)) = true := let ⟨_, F⟩ := d__law_lines T; F.kp
theorem kp__law_rolled (T : Txt K mg w) : PySem.W.keepIn K (.ref (a__law_rolled K)) = true := let ⟨_, F⟩ := d__law_rolled T; F.kp
theorem kp__law_run (T : Txt K mg w) : PySem.W.keepIn K (.ref (a__law_run K)) = true := let ⟨_, F⟩ := d__law_run T; F.kp
theorem kp_law (T : Txt K mg w) : PySem.W.keepIn K (.ref (a_law K)) = true := let ⟨_, F⟩ := d_law T; F.kp
theorem g_is_number (T : Txt K mg w) : mg "is_number" = some (.ref (a_is_number K)) := T.gl _ _ (He.eqO_ok (T.fa 0 (gloB "is_number") rfl))
theorem g_is_picture (T : Txt K mg w) : mg "is_picture" = some (.ref (a_is_picture K)) := T.gl _ _ (He.eqO_ok (T.fa 1 (gloB "is_picture") rfl))
theorem g_are_pictures (T : Txt K mg w) : mg "are_pictures" = some (.ref (a_are_pictures K)) := T.gl _ _ (He.eqO_ok (T.fa 2 (gloB "are_pictures") rfl))
theorem g_is_size (T : Txt K mg w) : mg "is_size" = some (.ref (a_is_size K)) := T.gl _ _ (He.eqO_ok (T.fa 3 (gloB "is_size") rfl))
theorem g_sides (T : Txt K mg w) : mg "sides" = some (.ref (a_sides K)) := T.gl _ _ (He.eqO_ok (T.fa 4 (gloB "sides") rfl))
theorem g_parted (T : Txt K mg w) : mg "parted" = some (.ref (a_parted K)) := T.gl _ _ (He.eqO_ok (T.fa 5 (gloB "parted") rfl))
theorem g_is_pattern (T : Txt K mg w) : mg "is_pattern" = some (.ref (a_is_pattern K)) := T.gl _ _ (He.eqO_ok (T.fa 6 (gloB "is_pattern") rfl))
theorem g_check_pattern (T : Txt K mg w) : mg "check_pattern" = some (.ref (a_check_pattern K)) := T.gl _ _ (He.eqO_ok (T.fa 7 (gloB "check_pattern") rfl))
theorem g_length_of (T : Txt K mg w) : mg "length_of" = some (.ref (a_length_of K)) := T.gl _ _ (He.eqO_ok (T.fa 8 (gloB "length_of") rfl))
theorem g_is_order (T : Txt K mg w) : mg "is_order" = some (.ref (a_is_order K)) := T.gl _ _ (He.eqO_ok (T.fa 9 (gloB "is_order") rfl))
theorem g_relaid (T : Txt K mg w) : mg "relaid" = some (.ref (a_relaid K)) := T.gl _ _ (He.eqO_ok (T.fa 10 (gloB "relaid") rfl))
theorem g_mirrored (T : Txt K mg w) : mg "mirrored" = some (.ref (a_mirrored K)) := T.gl _ _ (He.eqO_ok (T.fa 11 (gloB "mirrored") rfl))
theorem g_turned_over (T : Txt K mg w) : mg "turned_over" = some (.ref (a_turned_over K)) := T.gl _ _ (He.eqO_ok (T.fa 12 (gloB "turned_over") rfl))
theorem g_is_operation (T : Txt K mg w) : mg "is_operation" = some (.ref (a_is_operation K)) := T.gl _ _ (He.eqO_ok (T.fa 13 (gloB "is_operation") rfl))
theorem g_is_name (T : Txt K mg w) : mg "is_name" = some (.ref (a_is_name K)) := T.gl _ _ (He.eqO_ok (T.fa 14 (gloB "is_name") rfl))
theorem g_is_small (T : Txt K mg w) : mg "is_small" = some (.ref (a_is_small K)) := T.gl _ _ (He.eqO_ok (T.fa 15 (gloB "is_small") rfl))
theorem g_numbers_in (T : Txt K mg w) : mg "numbers_in" = some (.ref (a_numbers_in K)) := T.gl _ _ (He.eqO_ok (T.fa 16 (gloB "numbers_in") rfl))
theorem g_is_row (T : Txt K mg w) : mg "is_row" = some (.ref (a_is_row K)) := T.gl _ _ (He.eqO_ok (T.fa 17 (gloB "is_row") rfl))
theorem g_read_script (T : Txt K mg w) : mg "read_script" = some (.ref (a_read_script K)) := T.gl _ _ (He.eqO_ok (T.fa 18 (gloB "read_script") rfl))
theorem g_run_script (T : Txt K mg w) : mg "run_script" = some (.ref (a_run_script K)) := T.gl _ _ (He.eqO_ok (T.fa 19 (gloB "run_script") rfl))
theorem g__law_taken (T : Txt K mg w) : mg "_law_taken" = some (.ref (a__law_taken K)) := T.gl _ _ (He.eqO_ok (T.fa 20 (gloB "_law_taken") rfl))
theorem g__law_packet (T : Txt K mg w) : mg "_law_packet" = some (.ref (a__law_packet K)) := T.gl _ _ (He.eqO_ok (T.fa 21 (gloB "_law_packet") rfl))
theorem g__law_parted (T : Txt K mg w) : mg "_law_parted" = some (.ref (a__law_parted K)) := T.gl _ _ (He.eqO_ok (T.fa 22 (gloB "_law_parted") rfl))
theorem g__law_pattern (T : Txt K mg w) : mg "_law_pattern" = some (.ref (a__law_pattern K)) := T.gl _ _ (He.eqO_ok (T.fa 23 (gloB "_law_pattern") rfl))
theorem g__law_orders (T : Txt K mg w) : mg "_law_orders" = some (.ref (a__law_orders K)) := T.gl _ _ (He.eqO_ok (T.fa 24 (gloB "_law_orders") rfl))
theorem g__law_row (T : Txt K mg w) : mg "_law_row" = some (.ref (a__law_row K)) := T.gl _ _ (He.eqO_ok (T.fa 25 (gloB "_law_row") rfl))
theorem g__law_tree (T : Txt K mg w) : mg "_law_tree" = some (.ref (a__law_tree K)) := T.gl _ _ (He.eqO_ok (T.fa 26 (gloB "_law_tree") rfl))
theorem g__law_lines (T : Txt K mg w) : mg "_law_lines" = some (.ref (a__law_lines K)) := T.gl _ _ (He.eqO_ok (T.fa 27 (gloB "_law_lines") rfl))
theorem g__law_rolled (T : Txt K mg w) : mg "_law_rolled" = some (.ref (a__law_rolled K)) := T.gl _ _ (He.eqO_ok (T.fa 28 (gloB "_law_rolled") rfl))
theorem g__law_run (T : Txt K mg w) : mg "_law_run" = some (.ref (a__law_run K)) := T.gl _ _ (He.eqO_ok (T.fa 29 (gloB "_law_run") rfl))
theorem g_law (T : Txt K mg w) : mg "law" = some (.ref (a_law K)) := T.gl _ _ (He.eqO_ok (T.fa 30 (gloB "law") rfl))
theorem g_SheetError (T : Txt K mg w) : mg "SheetError" = some (.ref (C_SheetError K)) := T.gl _ _ (He.eqO_ok (T.fa 31 (gloB "SheetError") rfl))
theorem g_InvalidPattern (T : Txt K mg w) : mg "InvalidPattern" = some (.ref (C_InvalidPattern K)) := T.gl _ _ (He.eqO_ok (T.fa 32 (gloB "InvalidPattern") rfl))
theorem g_UnknownPiece (T : Txt K mg w) : mg "UnknownPiece" = some (.ref (C_UnknownPiece K)) := T.gl _ _ (He.eqO_ok (T.fa 33 (gloB "UnknownPiece") rfl))
theorem g_InvalidOrder (T : Txt K mg w) : mg "InvalidOrder" = some (.ref (C_InvalidOrder K)) := T.gl _ _ (He.eqO_ok (T.fa 34 (gloB "InvalidOrder") rfl))
theorem g_UnknownSheet (T : Txt K mg w) : mg "UnknownSheet" = some (.ref (C_UnknownSheet K)) := T.gl _ _ (He.eqO_ok (T.fa 35 (gloB "UnknownSheet") rfl))
theorem g_UnknownCell (T : Txt K mg w) : mg "UnknownCell" = some (.ref (C_UnknownCell K)) := T.gl _ _ (He.eqO_ok (T.fa 36 (gloB "UnknownCell") rfl))
theorem g_NotWhole (T : Txt K mg w) : mg "NotWhole" = some (.ref (C_NotWhole K)) := T.gl _ _ (He.eqO_ok (T.fa 37 (gloB "NotWhole") rfl))
theorem g_ExecutionFailed (T : Txt K mg w) : mg "ExecutionFailed" = some (.ref (C_ExecutionFailed K)) := T.gl _ _ (He.eqO_ok (T.fa 38 (gloB "ExecutionFailed") rfl))
theorem g_Packet (T : Txt K mg w) : mg "Packet" = some (.ref (C_Packet K)) := T.gl _ _ (He.eqO_ok (T.fa 39 (gloB "Packet") rfl))
theorem g_State (T : Txt K mg w) : mg "State" = some (.ref (C_State K)) := T.gl _ _ (He.eqO_ok (T.fa 40 (gloB "State") rfl))
theorem g_Line (T : Txt K mg w) : mg "Line" = some (.ref (C_Line K)) := T.gl _ _ (He.eqO_ok (T.fa 41 (gloB "Line") rfl))
theorem g_Bench (T : Txt K mg w) : mg "Bench" = some (.ref (C_Bench K)) := T.gl _ _ (He.eqO_ok (T.fa 42 (gloB "Bench") rfl))
theorem g_Trial (T : Txt K mg w) : mg "Trial" = some (.ref (C_Trial K)) := T.gl _ _ (He.eqO_ok (T.fa 43 (gloB "Trial") rfl))
theorem g_Machine (T : Txt K mg w) : mg "Machine" = some (.ref (C_Machine K)) := T.gl _ _ (He.eqO_ok (T.fa 44 (gloB "Machine") rfl))
theorem g_SIZES (T : Txt K mg w) : mg "SIZES" = some (.ref (ga K "SIZES")) := T.gl _ _ (He.eqO_ok (T.fa 45 (gloB "SIZES") rfl))
theorem g_BLOCKS (T : Txt K mg w) : mg "BLOCKS" = some (.ref (ga K "BLOCKS")) := T.gl _ _ (He.eqO_ok (T.fa 46 (gloB "BLOCKS") rfl))
theorem n_isinstance (T : Txt K mg w) : mg "isinstance" = none := T.gl _ _ (He.eqO_ok (T.fa 47 (freeB "isinstance") rfl))
theorem n_int (T : Txt K mg w) : mg "int" = none := T.gl _ _ (He.eqO_ok (T.fa 48 (freeB "int") rfl))
theorem n_bool (T : Txt K mg w) : mg "bool" = none := T.gl _ _ (He.eqO_ok (T.fa 49 (freeB "bool") rfl))
theorem n_str (T : Txt K mg w) : mg "str" = none := T.gl _ _ (He.eqO_ok (T.fa 50 (freeB "str") rfl))
theorem n_len (T : Txt K mg w) : mg "len" = none := T.gl _ _ (He.eqO_ok (T.fa 51 (freeB "len") rfl))
theorem n_all (T : Txt K mg w) : mg "all" = none := T.gl _ _ (He.eqO_ok (T.fa 52 (freeB "all") rfl))
theorem n_tuple (T : Txt K mg w) : mg "tuple" = none := T.gl _ _ (He.eqO_ok (T.fa 53 (freeB "tuple") rfl))
theorem n_range (T : Txt K mg w) : mg "range" = none := T.gl _ _ (He.eqO_ok (T.fa 54 (freeB "range") rfl))
theorem n_list (T : Txt K mg w) : mg "list" = none := T.gl _ _ (He.eqO_ok (T.fa 55 (freeB "list") rfl))
theorem n_enumerate (T : Txt K mg w) : mg "enumerate" = none := T.gl _ _ (He.eqO_ok (T.fa 56 (freeB "enumerate") rfl))
theorem n_zip (T : Txt K mg w) : mg "zip" = none := T.gl _ _ (He.eqO_ok (T.fa 57 (freeB "zip") rfl))
theorem n_max (T : Txt K mg w) : mg "max" = none := T.gl _ _ (He.eqO_ok (T.fa 58 (freeB "max") rfl))
theorem n_min (T : Txt K mg w) : mg "min" = none := T.gl _ _ (He.eqO_ok (T.fa 59 (freeB "min") rfl))
theorem n_set (T : Txt K mg w) : mg "set" = none := T.gl _ _ (He.eqO_ok (T.fa 60 (freeB "set") rfl))
theorem n_sorted (T : Txt K mg w) : mg "sorted" = none := T.gl _ _ (He.eqO_ok (T.fa 61 (freeB "sorted") rfl))
theorem c_LETTERS (T : Txt K mg w) : ∃ u, mg "LETTERS" = some u ∧ RelV (.str "abcdefghijklmnopqrstuvwxyz") u := rel_ok T.gl (T.fa 62 (relN "LETTERS" (.str "abcdefghijklmnopqrstuvwxyz")) rfl)
theorem c_MAX_SIDE (T : Txt K mg w) : ∃ u, mg "MAX_SIDE" = some u ∧ RelV (.int 4) u := rel_ok T.gl (T.fa 63 (relN "MAX_SIDE" (.int 4)) rfl)
theorem c_MAX_CELLS (T : Txt K mg w) : ∃ u, mg "MAX_CELLS" = some u ∧ RelV (.int 9) u := rel_ok T.gl (T.fa 64 (relN "MAX_CELLS" (.int 9)) rfl)
theorem c_MAX_SHEETS (T : Txt K mg w) : ∃ u, mg "MAX_SHEETS" = some u ∧ RelV (.int 4) u := rel_ok T.gl (T.fa 65 (relN "MAX_SHEETS" (.int 4)) rfl)
theorem c_MOST_ROWS (T : Txt K mg w) : ∃ u, mg "MOST_ROWS" = some u ∧ RelV (.int 60) u := rel_ok T.gl (T.fa 66 (relN "MOST_ROWS" (.int 60)) rfl)
theorem c_MOST_DEPTH (T : Txt K mg w) : ∃ u, mg "MOST_DEPTH" = some u ∧ RelV (.int 4) u := rel_ok T.gl (T.fa 67 (relN "MOST_DEPTH" (.int 4)) rfl)
theorem c_MOST_STEPS (T : Txt K mg w) : ∃ u, mg "MOST_STEPS" = some u ∧ RelV (.int 300) u := rel_ok T.gl (T.fa 68 (relN "MOST_STEPS" (.int 300)) rfl)
theorem c_DIGITS (T : Txt K mg w) : ∃ u, mg "DIGITS" = some u ∧ RelV (.str "0123456789") u := rel_ok T.gl (T.fa 69 (relN "DIGITS" (.str "0123456789")) rfl)
theorem c_MOST_DIGITS (T : Txt K mg w) : ∃ u, mg "MOST_DIGITS" = some u ∧ RelV (.int 2) u := rel_ok T.gl (T.fa 70 (relN "MOST_DIGITS" (.int 2)) rfl)
theorem c_SAW (T : Txt K mg w) : ∃ u, mg "SAW" = some u ∧ RelV (.str "saw") u := rel_ok T.gl (T.fa 71 (relN "SAW" (.str "saw")) rfl)
theorem c_EXCHANGE (T : Txt K mg w) : ∃ u, mg "EXCHANGE" = some u ∧ RelV (.str "exchange") u := rel_ok T.gl (T.fa 72 (relN "EXCHANGE" (.str "exchange")) rfl)
theorem c_GLUE (T : Txt K mg w) : ∃ u, mg "GLUE" = some u ∧ RelV (.str "glue") u := rel_ok T.gl (T.fa 73 (relN "GLUE" (.str "glue")) rfl)
theorem c_OVER (T : Txt K mg w) : ∃ u, mg "OVER" = some u ∧ RelV (.str "over") u := rel_ok T.gl (T.fa 74 (relN "OVER" (.str "over")) rfl)
theorem c_SHOW (T : Txt K mg w) : ∃ u, mg "SHOW" = some u ∧ RelV (.str "show") u := rel_ok T.gl (T.fa 75 (relN "SHOW" (.str "show")) rfl)
theorem c_REPEAT (T : Txt K mg w) : ∃ u, mg "REPEAT" = some u ∧ RelV (.str "repeat") u := rel_ok T.gl (T.fa 76 (relN "REPEAT" (.str "repeat")) rfl)
theorem c_WHEN (T : Txt K mg w) : ∃ u, mg "WHEN" = some u ∧ RelV (.str "when") u := rel_ok T.gl (T.fa 77 (relN "WHEN" (.str "when")) rfl)
theorem c_END (T : Txt K mg w) : ∃ u, mg "END" = some u ∧ RelV (.str "end") u := rel_ok T.gl (T.fa 78 (relN "END" (.str "end")) rfl)
theorem sc_Packet (T : Txt K mg w) : SlX.SCls K (C_Packet K) := scls_ok (T.fa 79 (sclsB "Packet") rfl)
theorem sc_State (T : Txt K mg w) : SlX.SCls K (C_State K) := scls_ok (T.fa 80 (sclsB "State") rfl)
theorem sc_Line (T : Txt K mg w) : SlX.SCls K (C_Line K) := scls_ok (T.fa 81 (sclsB "Line") rfl)
theorem sl_Packet_parts (T : Txt K mg w) : SlX.Slot1 K (C_Packet K) "parts" (ma K (C_Packet K) "parts") 0 := slot_ok (T.fa 82 (slotB "Packet" "parts" 0) rfl)
theorem sl_State_facts (T : Txt K mg w) : SlX.Slot1 K (C_State K) "facts" (ma K (C_State K) "facts") 0 := slot_ok (T.fa 83 (slotB "State" "facts" 0) rfl)
theorem sl_State_past (T : Txt K mg w) : SlX.Slot1 K (C_State K) "past" (ma K (C_State K) "past") 1 := slot_ok (T.fa 84 (slotB "State" "past" 1) rfl)
theorem sl_State_shelf (T : Txt K mg w) : SlX.Slot1 K (C_State K) "shelf" (ma K (C_State K) "shelf") 2 := slot_ok (T.fa 85 (slotB "State" "shelf" 2) rfl)
theorem sl_State_undone (T : Txt K mg w) : SlX.Slot1 K (C_State K) "undone" (ma K (C_State K) "undone") 3 := slot_ok (T.fa 86 (slotB "State" "undone" 3) rfl)
theorem sl_Line_block (T : Txt K mg w) : SlX.Slot1 K (C_Line K) "block" (ma K (C_Line K) "block") 0 := slot_ok (T.fa 87 (slotB "Line" "block" 0) rfl)
theorem sl_Line_head (T : Txt K mg w) : SlX.Slot1 K (C_Line K) "head" (ma K (C_Line K) "head") 1 := slot_ok (T.fa 88 (slotB "Line" "head" 1) rfl)
theorem sl_Line_letter (T : Txt K mg w) : SlX.Slot1 K (C_Line K) "letter" (ma K (C_Line K) "letter") 2 := slot_ok (T.fa 89 (slotB "Line" "letter" 2) rfl)
theorem sl_Line_number (T : Txt K mg w) : SlX.Slot1 K (C_Line K) "number" (ma K (C_Line K) "number") 3 := slot_ok (T.fa 90 (slotB "Line" "number" 3) rfl)
theorem sl_Line_rest (T : Txt K mg w) : SlX.Slot1 K (C_Line K) "rest" (ma K (C_Line K) "rest") 4 := slot_ok (T.fa 91 (slotB "Line" "rest" 4) rfl)
theorem cl_Bench (T : Txt K mg w) : Cls K (C_Bench K) := He.cls_ok (x := "Bench") (T.fa 92 (clsB "Bench") rfl)
theorem cl_Trial (T : Txt K mg w) : Cls K (C_Trial K) := He.cls_ok (x := "Trial") (T.fa 93 (clsB "Trial") rfl)
theorem cl_Machine (T : Txt K mg w) : Cls K (C_Machine K) := He.cls_ok (x := "Machine") (T.fa 94 (clsB "Machine") rfl)
theorem na_Bench_held (T : Txt K mg w) : NoAttr K (C_Bench K) "held" := He.noat_ok (x := "Bench") (T.fa 95 (noatB "Bench" "held") rfl)
theorem na_Trial_tested_bench (T : Txt K mg w) : NoAttr K (C_Trial K) "tested_bench" := He.noat_ok (x := "Trial") (T.fa 96 (noatB "Trial" "tested_bench") rfl)
theorem na_Trial_origin (T : Txt K mg w) : NoAttr K (C_Trial K) "origin" := He.noat_ok (x := "Trial") (T.fa 97 (noatB "Trial" "origin") rfl)
theorem na_Trial_fresh (T : Txt K mg w) : NoAttr K (C_Trial K) "fresh" := He.noat_ok (x := "Trial") (T.fa 98 (noatB "Trial" "fresh") rfl)
theorem na_Trial_chosen (T : Txt K mg w) : NoAttr K (C_Trial K) "chosen" := He.noat_ok (x := "Trial") (T.fa 99 (noatB "Trial" "chosen") rfl)
theorem na_Machine_bench (T : Txt K mg w) : NoAttr K (C_Machine K) "bench" := He.noat_ok (x := "Machine") (T.fa 100 (noatB "Machine" "bench") rfl)
theorem na_Machine_output (T : Txt K mg w) : NoAttr K (C_Machine K) "output" := He.noat_ok (x := "Machine") (T.fa 101 (noatB "Machine" "output") rfl)
theorem na_Machine_step_count (T : Txt K mg w) : NoAttr K (C_Machine K) "step_count" := He.noat_ok (x := "Machine") (T.fa 102 (noatB "Machine" "step_count") rfl)
theorem pr_Packet_width (T : Txt K mg w) : PropOf K (C_Packet K) "width" (ma K (C_Packet K) "width") (a_Packet_width K) := prop_ok (T.fa 103 (propB "Packet" "width") rfl)
theorem pr_Packet_height (T : Txt K mg w) : PropOf K (C_Packet K) "height" (ma K (C_Packet K) "height") (a_Packet_height K) := prop_ok (T.fa 104 (propB "Packet" "height") rfl)
theorem pr_Packet_sheets (T : Txt K mg w) : PropOf K (C_Packet K) "sheets" (ma K (C_Packet K) "sheets") (a_Packet_sheets K) := prop_ok (T.fa 105 (propB "Packet" "sheets") rfl)
theorem pr_Packet_cells (T : Txt K mg w) : PropOf K (C_Packet K) "cells" (ma K (C_Packet K) "cells") (a_Packet_cells K) := prop_ok (T.fa 106 (propB "Packet" "cells") rfl)
theorem me_State_copied (T : Txt K mg w) : Meth K (C_State K) "copied" (a_State_copied K) := He.meth_ok (x := "State") (T.fa 107 (methB "State" "copied") rfl)
theorem me_State_go_on (T : Txt K mg w) : Meth K (C_State K) "go_on" (a_State_go_on K) := He.meth_ok (x := "State") (T.fa 108 (methB "State" "go_on") rfl)
theorem pr_Bench_packet_now (T : Txt K mg w) : PropOf K (C_Bench K) "packet_now" (ma K (C_Bench K) "packet_now") (a_Bench_packet_now K) := prop_ok (T.fa 109 (propB "Bench" "packet_now") rfl)
theorem pr_Bench_pattern_now (T : Txt K mg w) : PropOf K (C_Bench K) "pattern_now" (ma K (C_Bench K) "pattern_now") (a_Bench_pattern_now K) := prop_ok (T.fa 110 (propB "Bench" "pattern_now") rfl)
theorem pr_Bench_length_now (T : Txt K mg w) : PropOf K (C_Bench K) "length_now" (ma K (C_Bench K) "length_now") (a_Bench_length_now K) := prop_ok (T.fa 111 (propB "Bench" "length_now") rfl)
theorem pr_Bench_history (T : Txt K mg w) : PropOf K (C_Bench K) "history" (ma K (C_Bench K) "history") (a_Bench_history K) := prop_ok (T.fa 112 (propB "Bench" "history") rfl)
theorem me_Bench_saw (T : Txt K mg w) : Meth K (C_Bench K) "saw" (a_Bench_saw K) := He.meth_ok (x := "Bench") (T.fa 113 (methB "Bench" "saw") rfl)
theorem me_Bench_exchange (T : Txt K mg w) : Meth K (C_Bench K) "exchange" (a_Bench_exchange K) := He.meth_ok (x := "Bench") (T.fa 114 (methB "Bench" "exchange") rfl)
theorem me_Bench_glue (T : Txt K mg w) : Meth K (C_Bench K) "glue" (a_Bench_glue K) := He.meth_ok (x := "Bench") (T.fa 115 (methB "Bench" "glue") rfl)
theorem me_Bench_over (T : Txt K mg w) : Meth K (C_Bench K) "over" (a_Bench_over K) := He.meth_ok (x := "Bench") (T.fa 116 (methB "Bench" "over") rfl)
theorem me_Bench_execute (T : Txt K mg w) : Meth K (C_Bench K) "execute" (a_Bench_execute K) := He.meth_ok (x := "Bench") (T.fa 117 (methB "Bench" "execute") rfl)
theorem me_Bench_apply_all (T : Txt K mg w) : Meth K (C_Bench K) "apply_all" (a_Bench_apply_all K) := He.meth_ok (x := "Bench") (T.fa 118 (methB "Bench" "apply_all") rfl)
theorem me_Trial_hold (T : Txt K mg w) : Meth K (C_Trial K) "hold" (a_Trial_hold K) := He.meth_ok (x := "Trial") (T.fa 119 (methB "Trial" "hold") rfl)
theorem me_Machine_step (T : Txt K mg w) : Meth K (C_Machine K) "step" (a_Machine_step K) := He.meth_ok (x := "Machine") (T.fa 120 (methB "Machine" "step") rfl)
theorem me_Machine_execute_all (T : Txt K mg w) : Meth K (C_Machine K) "execute_all" (a_Machine_execute_all K) := He.meth_ok (x := "Machine") (T.fa 121 (methB "Machine" "execute_all") rfl)
theorem me_Machine_sheet (T : Txt K mg w) : Meth K (C_Machine K) "sheet" (a_Machine_sheet K) := He.meth_ok (x := "Machine") (T.fa 122 (methB "Machine" "sheet") rfl)
theorem me_Machine_letter_at (T : Txt K mg w) : Meth K (C_Machine K) "letter_at" (a_Machine_letter_at K) := He.meth_ok (x := "Machine") (T.fa 123 (methB "Machine" "letter_at") rfl)
theorem me_Machine_execute (T : Txt K mg w) : Meth K (C_Machine K) "execute" (a_Machine_execute K) := He.meth_ok (x := "Machine") (T.fa 124 (methB "Machine" "execute") rfl)
theorem me_Machine_act (T : Txt K mg w) : Meth K (C_Machine K) "act" (a_Machine_act K) := He.meth_ok (x := "Machine") (T.fa 125 (methB "Machine" "act") rfl)
theorem mk_Packet (T : Txt K mg w) : Mk K (C_Packet K) (a_Packet_init K) := He.mkr_ok (x := "Packet") (T.fa 126 (mkB "Packet") rfl)
theorem mk_State (T : Txt K mg w) : Mk K (C_State K) (a_State_init K) := He.mkr_ok (x := "State") (T.fa 127 (mkB "State") rfl)
theorem mk_Line (T : Txt K mg w) : Mk K (C_Line K) (a_Line_init K) := He.mkr_ok (x := "Line") (T.fa 128 (mkB "Line") rfl)
theorem mk_Bench (T : Txt K mg w) : Mk K (C_Bench K) (a_Bench_init K) := He.mkr_ok (x := "Bench") (T.fa 129 (mkB "Bench") rfl)
theorem mk_Trial (T : Txt K mg w) : Mk K (C_Trial K) (a_Trial_init K) := He.mkr_ok (x := "Trial") (T.fa 130 (mkB "Trial") rfl)
theorem mk_Machine (T : Txt K mg w) : Mk K (C_Machine K) (a_Machine_init K) := He.mkr_ok (x := "Machine") (T.fa 131 (mkB "Machine") rfl)
theorem isi_Packet (T : Txt K mg w) : SlX.SIsi K (C_Packet K) := isi_ok (T.fa 132 (isiB "Packet") rfl)
theorem fs_Packet_len (T : Txt K mg w) : PySem.W.findIn K (.ref (C_Packet K)) "__len__" = some (some (.ref (a_Packet_len K))) ∧ PySem.W.isFn K (.ref (a_Packet_len K)) = true := spec_ok (T.fa 133 (specB "Packet" "__len__") rfl)
theorem fs_Packet_eq (T : Txt K mg w) : PySem.W.findIn K (.ref (C_Packet K)) "__eq__" = some (some (.ref (a_Packet_eq K))) ∧ PySem.W.isFn K (.ref (a_Packet_eq K)) = true := spec_ok (T.fa 134 (specB "Packet" "__eq__") rfl)
theorem fs_Trial_enter (T : Txt K mg w) : PySem.W.findIn K (.ref (C_Trial K)) "__enter__" = some (some (.ref (a_Trial_enter K))) ∧ PySem.W.isFn K (.ref (a_Trial_enter K)) = true := spec_ok (T.fa 135 (specB "Trial" "__enter__") rfl)
theorem fs_Trial_exit (T : Txt K mg w) : PySem.W.findIn K (.ref (C_Trial K)) "__exit__" = some (some (.ref (a_Trial_exit K))) ∧ PySem.W.isFn K (.ref (a_Trial_exit K)) = true := spec_ok (T.fa 136 (specB "Trial" "__exit__") rfl)
theorem ex_InvalidPattern (T : Txt K mg w) : PySem.W.excIn K (C_InvalidPattern K) He.veBase "ValueError.__new__" = true ∧ PySem.W.keepIn K (.ref (C_InvalidPattern K)) = true ∧ PySem.W.subIn K (.ref (C_InvalidPattern K)) (.type "BaseException") = some true ∧ PySem.W.typeIn K (.ref (C_InvalidPattern K)) = some (.type "type") := He.exc_ok (x := "InvalidPattern") (T.fa 137 (excB "InvalidPattern") rfl)
theorem ex_UnknownPiece (T : Txt K mg w) : PySem.W.excIn K (C_UnknownPiece K) He.veBase "ValueError.__new__" = true ∧ PySem.W.keepIn K (.ref (C_UnknownPiece K)) = true ∧ PySem.W.subIn K (.ref (C_UnknownPiece K)) (.type "BaseException") = some true ∧ PySem.W.typeIn K (.ref (C_UnknownPiece K)) = some (.type "type") := He.exc_ok (x := "UnknownPiece") (T.fa 138 (excB "UnknownPiece") rfl)
theorem ex_InvalidOrder (T : Txt K mg w) : PySem.W.excIn K (C_InvalidOrder K) He.veBase "ValueError.__new__" = true ∧ PySem.W.keepIn K (.ref (C_InvalidOrder K)) = true ∧ PySem.W.subIn K (.ref (C_InvalidOrder K)) (.type "BaseException") = some true ∧ PySem.W.typeIn K (.ref (C_InvalidOrder K)) = some (.type "type") := He.exc_ok (x := "InvalidOrder") (T.fa 139 (excB "InvalidOrder") rfl)
theorem ex_UnknownSheet (T : Txt K mg w) : PySem.W.excIn K (C_UnknownSheet K) He.veBase "ValueError.__new__" = true ∧ PySem.W.keepIn K (.ref (C_UnknownSheet K)) = true ∧ PySem.W.subIn K (.ref (C_UnknownSheet K)) (.type "BaseException") = some true ∧ PySem.W.typeIn K (.ref (C_UnknownSheet K)) = some (.type "type") := He.exc_ok (x := "UnknownSheet") (T.fa 140 (excB "UnknownSheet") rfl)
theorem ex_UnknownCell (T : Txt K mg w) : PySem.W.excIn K (C_UnknownCell K) He.veBase "ValueError.__new__" = true ∧ PySem.W.keepIn K (.ref (C_UnknownCell K)) = true ∧ PySem.W.subIn K (.ref (C_UnknownCell K)) (.type "BaseException") = some true ∧ PySem.W.typeIn K (.ref (C_UnknownCell K)) = some (.type "type") := He.exc_ok (x := "UnknownCell") (T.fa 141 (excB "UnknownCell") rfl)
theorem ex_NotWhole (T : Txt K mg w) : PySem.W.excIn K (C_NotWhole K) He.veBase "ValueError.__new__" = true ∧ PySem.W.keepIn K (.ref (C_NotWhole K)) = true ∧ PySem.W.subIn K (.ref (C_NotWhole K)) (.type "BaseException") = some true ∧ PySem.W.typeIn K (.ref (C_NotWhole K)) = some (.type "type") := He.exc_ok (x := "NotWhole") (T.fa 142 (excB "NotWhole") rfl)
theorem xm_InvalidPattern (T : Txt K mg w) : PySem.W.exmOne K (.ref (C_InvalidPattern K)) (.ref (C_SheetError K)) = some true := of_decide_eq_true (T.fa 143 (exmB "InvalidPattern" "SheetError" true) rfl)
theorem xm_UnknownPiece (T : Txt K mg w) : PySem.W.exmOne K (.ref (C_UnknownPiece K)) (.ref (C_SheetError K)) = some true := of_decide_eq_true (T.fa 144 (exmB "UnknownPiece" "SheetError" true) rfl)
theorem xm_InvalidOrder (T : Txt K mg w) : PySem.W.exmOne K (.ref (C_InvalidOrder K)) (.ref (C_SheetError K)) = some true := of_decide_eq_true (T.fa 145 (exmB "InvalidOrder" "SheetError" true) rfl)
theorem xm_UnknownSheet (T : Txt K mg w) : PySem.W.exmOne K (.ref (C_UnknownSheet K)) (.ref (C_SheetError K)) = some true := of_decide_eq_true (T.fa 146 (exmB "UnknownSheet" "SheetError" true) rfl)
theorem xm_UnknownCell (T : Txt K mg w) : PySem.W.exmOne K (.ref (C_UnknownCell K)) (.ref (C_SheetError K)) = some true := of_decide_eq_true (T.fa 147 (exmB "UnknownCell" "SheetError" true) rfl)
theorem xm_NotWhole (T : Txt K mg w) : PySem.W.exmOne K (.ref (C_NotWhole K)) (.ref (C_SheetError K)) = some true := of_decide_eq_true (T.fa 148 (exmB "NotWhole" "SheetError" true) rfl)
theorem xm_ExecutionFailed (T : Txt K mg w) : PySem.W.exmOne K (.ref (C_ExecutionFailed K)) (.ref (C_SheetError K)) = some true := of_decide_eq_true (T.fa 149 (exmB "ExecutionFailed" "SheetError" true) rfl)
theorem ne_Packet (T : Txt K mg w) : PySem.W.findIn K (.ref (C_Packet K)) "__ne__" = some (some (.builtin "object.__ne__")) := He.eqO_ok (T.fa 150 (neB "Packet") rfl)
theorem cm_Bench_replay (T : Txt K mg w) : ClX.CMet K (C_Bench K) (.type "type") "replay" (ma K (C_Bench K) "replay") (a_Bench_replay K) := cmet_ok (T.fa 151 (cmetB "Bench" "replay") rfl)
theorem cr_Bench (T : Txt K mg w) : ClX.CRead K (C_Bench K) (.type "type") := cread_ok (T.fa 152 (creadB "Bench" (.type "type")) rfl)
theorem cr_SheetError (T : Txt K mg w) : ClX.CRead K (C_SheetError K) (.type "type") := cread_ok (T.fa 153 (creadB "SheetError" (.type "type")) rfl)
theorem vi_SheetError (T : Txt K mg w) : PySem.W.findCls K (.ref (C_SheetError K)) (.type "type") "__init__" = some (.val (.builtin "ValueError.__init__")) := vin_ok (T.fa 154 (vinB "SheetError") rfl)
theorem ox_ExecutionFailed (T : Txt K mg w) : OexC K (C_ExecutionFailed K) := oex_ok (T.fa 155 (oexB "ExecutionFailed") rfl)
theorem fs_ExecutionFailed_init (T : Txt K mg w) : PySem.W.findIn K (.ref (C_ExecutionFailed K)) "__init__" = some (some (.ref (a_ExecutionFailed_init K))) ∧ PySem.W.isFn K (.ref (a_ExecutionFailed_init K)) = true := spec_ok (T.fa 156 (specB "ExecutionFailed" "__init__") rfl)
theorem ty_ExecutionFailed_init (T : Txt K mg w) : PySem.W.typeIn K (.ref (a_ExecutionFailed_init K)) = some (.type "function") := of_decide_eq_true (T.fa 157 (tyfB "ExecutionFailed" "__init__") rfl)
theorem no_ExecutionFailed_row (T : Txt K mg w) : PySem.W.findIn K (.ref (C_ExecutionFailed K)) "row" = some none := He.eqO_ok (T.fa 158 (noatB "ExecutionFailed" "row") rfl)
end
end S57

set_option Elab.async false
set_option linter.all false
set_option maxRecDepth 100000
set_option maxHeartbeats 0
namespace S57
open PySem PySem.Spec PyProof.Rows L2
/-! ### the head: what it looks at -/
def sizeKeys : List Str := ["saw", "exchange", "glue", "over", "keep_as", "fetch", "undo", "redo"]
abbrev AlS : Type := Bool × List He.FnW × Option (List (Option (Str × Int)))
def obsS (K : Fr) : AlS := (factsB.all (fun f => f K) && (defsB.all (fun d => d.ok K) && (He.valsB K (ga K "SIZES") [("saw", .int 2), ("exchange", .int 3), ("glue", .int 1), ("over", .int 2)] && He.tupB K "BLOCKS" [.str "repeat", .str "when"])), defsB.map (fun d => fnP K (d.at_ K)), He.dicW K (ga K "SIZES"))
def valS (w : World) : AlS := (true, defsB.map DefP.val, some (He.keysIn w.params sizeKeys))
/-- the places that the facts lean on -/
def placesA : List Addr := ([3, 31, 63, 75, 87, 99, 111, 123, 204, 225, 230, 235, 242, 307, 317, 322, 327, 334, 339, 344, 349, 354, 359, 360, 367, 372, 419, 559, 601, 606, 611, 618, 635, 647, 654, 713] : List Addr) ++ (([724, 731, 736, 741, 746, 751, 758, 765, 770, 777, 784, 789, 30, 62, 74, 86, 98, 110, 122, 203, 224, 229, 234, 241, 306, 316, 321, 326, 333, 338, 343, 348, 353, 358, 366, 371] : List Addr) ++ (([418, 558, 600, 610, 617, 634, 646, 653, 712, 723, 730, 735, 740, 745, 750, 757, 764, 769, 776, 783, 788, 201, 257, 265, 273, 281, 289, 296, 303, 308, 387, 394, 401, 420, 421, 422] : List Addr) ++ (([423, 437, 446, 455, 463, 471, 485, 492, 497, 502, 509, 544, 549, 577, 584, 591, 598, 631, 636, 637, 638, 639, 640, 668, 675, 682, 689, 696, 703, 710, 200, 256, 264, 272, 280, 288] : List Addr) ++ (([295, 302, 386, 393, 400, 436, 444, 454, 462, 470, 484, 491, 496, 501, 508, 543, 548, 576, 583, 590, 597, 630, 667, 674, 681, 688, 695, 702, 709, 263, 271, 279, 287, 443, 453, 461] : List Addr) ++ (([469, 483, 2] : List Addr))))))
def partG (g : Addr → Option Obj) : Fr := He.frG g placesA
def hookS : PySem.W.Hook where
  α := AlS
  obs := fun s => obsS (partG s.heap.get?)
  val := fun w => valS w
  says := fun w h => ∃ K : Fr, K.In h ∧ obsS K = valS w
  of := fun _ _ e => ⟨_, He.frG_in, e⟩
  keeps := fun _ _ _ ⟨K, hK, c⟩ k => ⟨K, PySem.W.Frag.In.keeps hK k, c⟩
def obS (s : PySem.W.SharedT) : AlS := obsS (partG (HandSHeadRun.getT s))
theorem obS_eq (s : PySem.W.SharedT) : obS s = hookS.obs s.abs := by
  have e : HandSHeadRun.getT s = s.abs.heap.get? := funext (HandSHeadRun.getT_eq s)
  unfold obS
  rw [e] <;> rfl
theorem txt_of {K : Fr} {h : Heap} {mg : Str → Option Value} {w : World} (X : K.In h) (G : h.Ns mainGlobals mg) (c : obsS K = valS w) : Txt K mg w := by
  have c1 : (factsB.all (fun f => f K) && (defsB.all (fun d => d.ok K) && (He.valsB K (ga K "SIZES") [("saw", .int 2), ("exchange", .int 3), ("glue", .int 1), ("over", .int 2)] && He.tupB K "BLOCKS" [.str "repeat", .str "when"]))) = true := congrArg (fun z : AlS => z.1) c
  have c2 : defsB.map (fun d => fnP K (d.at_ K)) = defsB.map DefP.val := congrArg (fun z : AlS => z.2.1) c
  have c3 : He.dicW K (ga K "SIZES") = some (He.keysIn w.params sizeKeys) := congrArg (fun z : AlS => z.2.2) c
  obtain ⟨f1, f2⟩ := He.ba c1
  obtain ⟨f2, f3⟩ := He.ba f2
  obtain ⟨f3, f4⟩ := He.ba f3
  refine ⟨fun x o e => ?_, fun i f e => List.all_eq_true.mp f1 f (List.mem_of_getElem? e), fun i d e => ?_, He.dicW_ok c3, f3, f4⟩
  · cases o with
    | none => exact PySem.W.mg_none_of X G e
    | some v => exact PySem.W.mg_of X G e
  · have e2 : (defsB.map fun d => fnP K (d.at_ K))[i]? = (defsB.map DefP.val)[i]? := by rw [c2]
    rw [List.getElem?_map, List.getElem?_map, e] at e2
    exact DefP.funD (Option.some.inj e2) (List.all_eq_true.mp f2 d (List.mem_of_getElem? e))
end S57

set_option Elab.async false
set_option linter.all false
set_option maxRecDepth 100000
set_option maxHeartbeats 0
namespace S57
open PySem PySem.W PySem.Calls PyProof.Rows
abbrev rowR : OpenRow := OpenLaw.row PySem.Challenge.rw_sawnsheets_k57_whole_scripts_rolled_out
abbrev seenV : Program := view rowR.prog [78]
def namesH : List PySem.Str := (["_wall", "SheetError", "InvalidPacket", "InvalidPattern", "UnknownPiece", "InvalidOrder", "UnknownSheet", "UnknownCell", "NotWhole", "InvalidName"] : List PySem.Str) ++ (["UnknownKept", "InvalidOperation", "ScriptError", "ExecutionFailed", "TooLong", "LETTERS", "MAX_SIDE", "MAX_CELLS", "MAX_SHEETS", "is_number"] : List PySem.Str) ++ (["is_picture", "are_pictures", "is_size", "Packet", "sides", "parted", "is_pattern", "check_pattern", "length_of", "is_order"] : List PySem.Str) ++ (["relaid", "mirrored", "turned_over", "MAX_NAME", "SIZES", "is_operation", "is_name", "State", "Bench", "Trial"] : List PySem.Str) ++ (["MOST_ROWS", "MOST_DEPTH", "MOST_STEPS", "DIGITS", "MOST_DIGITS", "SAW", "EXCHANGE", "GLUE", "OVER", "SHOW"] : List PySem.Str) ++ (["REPEAT", "WHEN", "END", "BLOCKS", "is_small", "numbers_in", "Line", "is_row", "read_script", "Machine"] : List PySem.Str) ++ (["run_script", "_law_taken", "_law_packet", "_law_parted", "_law_pattern", "_law_orders", "_law_row", "_law_tree", "_law_lines", "_law_rolled"] : List PySem.Str) ++ (["_law_run"] : List PySem.Str)
theorem runF (w : World) : HandSHeadRun.RunEq rowR seenV hookS obS 8000 namesH (w.withFollow "special-get-raises" false) := by
  intro os
  kernel_rfl
theorem runT' (w : World) : HandSHeadRun.RunEq rowR seenV hookS obS 8000 namesH (w.withFollow "special-get-raises" true) := by
  intro os
  kernel_rfl
theorem runH (w : World) : HandSHeadRun.RunEq rowR seenV hookS obS 8000 namesH w := byRow2 "special-get-raises" runF runT' w
end S57

set_option Elab.async false
set_option linter.all false
set_option maxRecDepth 100000
set_option maxHeartbeats 4000000
namespace S57
open PySem PySem.Spec PyProof.Rows L2
section
variable {P : Program} {w : World} {K : Fr} {mg : Str → Option Value} {base : Heap} {CX : CXT} {k : Nat} {f : Addr} {sp : Sp} {N ps : List Str} {x qual : Str} {st : Stmt}
/-- THE RULE for a def of ours -/
theorem fnrC (F : ∃ fd, FunP K x qual st f fd) (S : FnScope N ps (defScope st))
    (hb : ∀ (kV doc pm : Value) (an : Option Addr) (cdv ct : Value) (us : List Value), us.length = ps.length → bindArgs (PySem.W.fnOf x qual (defArgs st) (defBody st) (defScope st) .none kV doc pm an cdv ct) ⟨us, []⟩ = pure (ps.zip us))
    (len : ∀ vs H Q E, sp vs H Q E → vs.length = ps.length)
    (hbody : ∀ (cdv : Value) (A : Around) (outer : List Env) (s : Shared) (H : Hp) (vs : List V) (Q : VK) (E : XK), Room k (A.deeper (envOfC qual (defScope st) s.heap.objs.size f cdv)) → sp vs H Q E →
      ∃ t, PSs (cxOf CX P w K mg base N qual (defScope st) f cdv A outer s H E) (defBody st) t ∧ t { nx := fun _ H' => Q .non H', rt := Q } (start N vs) H) : FnR P w K mg base CX (k + 1) f sp := by
  obtain ⟨fd, F⟩ := F
  exact ((F.ok S len hbody).raw (F.bindsN hb) .nil).imp fun vs H Q E h => by rw [List.append_nil]; exact h
/-- .. that raises nothing -/
theorem fnr0 (F : ∃ fd, FunP K x qual st f fd) (S : FnScope N ps (defScope st))
    (hb : ∀ (kV doc pm : Value) (an : Option Addr) (cdv ct : Value) (us : List Value), us.length = ps.length → bindArgs (PySem.W.fnOf x qual (defArgs st) (defBody st) (defScope st) .none kV doc pm an cdv ct) ⟨us, []⟩ = pure (ps.zip us))
    (len : ∀ vs H Q E, sp vs H Q E → vs.length = ps.length)
    (hbody : ∀ (cdv : Value) (A : Around) (outer : List Env) (s : Shared) (H : Hp) (vs : List V) (Q : VK) (E : XK), Room k (A.deeper (envOfC qual (defScope st) s.heap.objs.size f cdv)) → sp vs H Q E →
      ∃ t, PSs (cxOf CX0 P w K mg base N qual (defScope st) f cdv A outer s H E).nox (defBody st) t ∧ t { nx := fun _ H' => Q .non H', rt := Q } (start N vs) H) : FnR P w K mg base CX0 (k + 1) f sp :=
  fnrC F S hb len fun cdv A outer s H vs Q E hr h => let ⟨t, h1, h2⟩ := hbody cdv A outer s H vs Q E hr h; ⟨t, h1.nox, h2⟩
end
/-! ### a call of a global def, by its positional promise -/
def tCallR (sp : Sp) (E : XK) (t : TA) : TE := fun σ H Q => t σ H fun vs H1 => sp vs H1 Q E
section
variable {X : Cx} {CX : CXT} {k : Nat} {f C p g : Addr} {sp : Sp} {E : XK} {x m : Str} {ps pos apos : Pos} {e o : Expr} {es : List Expr} {ta : TE} {t : TA}
theorem pe_g (F : FnR X.prog X.w X.K X.mg X.base CX k f sp) (hr : Room k X.A) (hm : X.mg x = some (.ref f)) (hk : PySem.W.keepIn X.K (.ref f) = true) (hx : Passes CX X E) (ha : PA X (e :: es) t) (hg : Gl X x := by rfl)
    (hdb : (x == ("__debug__" : Str)) = false := by decide) (he : starEach (e :: es) X.env = (false, eval e X.env) :: starEach es X.env := by rfl) (hpl : (backTo pos (starEach es X.env)).any (·.1) = false := by rfl) :
    PE X (.Call (.Name x ps) (e :: es) [] pos) (tCallR sp E t) := by
  refine ⟨fun pins s σ H Q I h => ?_⟩
  refine wpAny_Call_Name_kw (ld_glob I hg hm ?_ hdb)
  refine PySem.W.callWith_K (h₀ := X.base) I.ok.mod.kin hk (thn (ha.run pos pins s σ H _ I h) fun us s1 ⟨vs, H1, I1, r, q⟩ => ⟨I1.kIn, ?_⟩) he hpl
  exact wpAny_call (run_fnR F hr hx I1 r q)
/-- o.m() of an instance with a dict -/
theorem pe_methR0 {pl : Sem Bool} (he : PE X o ta) (c : Cls X.K C) (hm : Meth X.K C m f) (F : FnR X.prog X.w X.K X.mg X.base CX k f sp) (hr : Room k X.A) (hx : Passes CX X E)
    (ht : eval (.Call (.Attribute o m apos) [] [] pos) X.env = (do
      let ov ← eval o X.env
      standAt apos.atName
      let (f, first) ← holding [ov] (getMethod ov m pl)
      callWith pos f first (backTo pos (starEach [] X.env)) (backToKw pos (keywordEach [] X.env))) := by rfl) :
    PE X (.Call (.Attribute o m apos) [] [] pos) (tMethR C m sp E ta tNil) := by
  refine ⟨fun pins s σ H Q I h => ?_⟩
  refine PySem.W.methodCall_KW (pl := pl) (thn (he.run pins s σ H _ I h) fun u s1 ⟨x, H1, I1, rx, a, dx, fs, ex, ea, l, q⟩ => ?_) ht
  subst ex
  obtain rfl : u = Value.ref a := rx
  refine getmeth_ok I1 ea c hm l ?_
  exact PySem.W.callWith_K0 (first := [.ref a]) I1.kIn hm.kp (wpAny_call (run_fnR (us := [.ref a]) (vs := [.ref a]) F hr hx I1 (.cons rfl .nil) q))
/-- e.f, a property of an instance with a dict -/
def tPropR (C : Addr) (sp : Sp) (E : XK) (ta : TE) : TE := fun σ H Q => ta σ H fun x H1 => ∃ a dx fs, x = .ref a ∧ H1 a = some (.ins C dx fs) ∧ sp [.ref a] H1 Q E
theorem pe_propR (he : PE X e ta) (c : Cls X.K C) (hp : PropOf X.K C m p g) (F : FnR X.prog X.w X.K X.mg X.base CX k g sp) (hr : Room (k + 1) X.A)
    (hx : ∀ (H : Hp) (s : Shared) (e : Value) (s' : Shared), CX X.stack H s E e s' → False) (hb : attributeBase e m X.env (eval e X.env) = eval e X.env := by rfl) : PE X (.Attribute e m pos) (tPropR C sp E ta) := by
  refine ⟨fun pins s σ H Q I h => ?_⟩
  refine attr_of hb (thn (he.run pins s σ H _ I h) fun w s1 ⟨x, H1, I1, rx, a, dx, fs, ex, ea, q⟩ => ?_)
  subst ex
  obtain rfl : w = Value.ref a := rx
  obtain ⟨mA, O, _, _, _, _⟩ := ins_get I1.hok ea
  obtain ⟨od, J, _⟩ := O.look
  obtain ⟨rest, hrec⟩ := hp.rec_
  have I2 := I1.tok (s1.toks + 1)
  have hc : (PySem.W.clsIn X.K C).isSome = true := by
    obtain ⟨cd, hc, _⟩ := PySem.W.any_some c.hd
    rw [hc]
    rfl
  refine PySem.W.get_bind I1.kIn J (PySem.W.plainGet_of (c.get m)).1 (PySem.W.findObj_data hc hp.at_ hp.get hp.tak) (PySem.W.plainGet_of (c.get m)).2 (wpAny_call (PySem.W.prop_get (s := { s1 with toks := s1.toks + 1 }) I1.kIn hrec ?_))
  refine codeAny_mono (F X.A.in1 X.stack { s1 with toks := s1.toks + 1 } H1 [.ref a] [.ref a] Q E hr.in1 I2.env0.in1 (.cons rfl .nil) q) fun r s' hq => ?_
  cases r with
  | error er => exact (hx _ _ _ _ hq).elim
  | ok fl =>
    cases fl with
    | ret u =>
      obtain ⟨v, H', I3, rv, q3⟩ := I2.after hq
      exact wpAny_of_eq (PySem.W.handedOut_of (handed_of rv)) ⟨v, H', I3, rv, q3⟩
    | next => exact False.elim hq
    | brk => exact False.elim hq
    | cont => exact False.elim hq
end
theorem pass0p {X : Cx} : ∀ (H : Hp) (s : Shared) (e : Value) (s' : Shared), CX0 X.stack H s E0 e s' → False := fun _ _ _ _ h => h
end S57

set_option Elab.async false
set_option linter.all false
set_option maxRecDepth 100000
set_option maxHeartbeats 4000000
namespace L2
open PySem PySem.Spec PyProof.Rows
/-! ### heaps that grow -/
theorem Same.new {H : Hp} {p : Addr} {o : HO} (h : H p = none) : Same H (upd H p o) := fun a u e => by
  rw [upd_ne (ne_of_none e h)]
  exact e
theorem Same.upd {H H' : Hp} {p : Addr} {o : HO} (s : Same H H') (h : H p = none) : Same H (L2.upd H' p o) := fun a u e => by
  rw [upd_ne (ne_of_none e h)]
  exact s a u e
theorem Same.new' {H H' : Hp} {p : Addr} {o : HO} (s : Same H H') (h : H' p = none) : Same H (L2.upd H' p o) := s.trans (Same.new h)
theorem Same.slt {H H' : Hp} {a C dx : Addr} {vs : List (Option V)} (s : Same H H') (h : SlX.Slt H a C dx vs) : SlX.Slt H' a C dx vs := by
  rcases h with ⟨h1, h2⟩ | ⟨h1, h2⟩
  · exact .inl ⟨s _ _ h1, h2⟩
  · exact .inr ⟨s _ _ h1, s _ _ h2⟩
theorem Same.sq {K : PySem.W.Frag} {H H' : Hp} {a : Addr} {xs : List V} (s : Same H H') (h : SqL K H a xs) : SqL K H' a xs := s.seq h
theorem Same.st {K : PySem.W.Frag} {H H' : Hp} {a : Addr} {xs : List V} (s : Same H H') (h : SqT K H a xs) : SqT K H' a xs := by
  rcases h with (h | ⟨o, h⟩) | h
  · exact .inl (.inl (s _ _ h))
  · exact .inl (.inr ⟨o, s _ _ h⟩)
  · exact .inr h
end L2
namespace S57
open PySem PySem.Spec PyProof.Rows L2
/-- a comprehension that only makes new things: f tells the list made so far -/
theorem lc_acc {J : It} {n : Nat} {G : Hp → Prop} {Y : Nat → Hp → V → Hp → Prop} (w : Walk J n G Y) {g : TG} {tt : TT} {te : TE} {vs : List Nat} {σ : L2.St} {H1 : Hp} {D : Addr} {Qd : Hp → Prop} (f : Nat → List V) (f0 : f 0 = [])
    (fz : ∀ i, i ≤ n → (f i).length < sizeLine) (hD : H1 D = none) (hG : ∀ H, Same H1 H → G H)
    (hs : ∀ i x H H' (C : V → Hp → Prop) (Nx : Hp → Prop), i < n → Same H1 H → H D = some (.lst (f i)) → Y i H x H' → (∀ y H4, Same H H4 → f (i + 1) = f i ++ [y] → C y H4) → (∀ H3, Same H H3 → f (i + 1) = f i → Nx H3) →
      g x (wipe σ vs) H' fun σ2 H2 => wipe σ2 vs = wipe σ vs ∧ tt σ2 H2 fun b H3 => if b = true then te σ2 H3 C else Nx H3)
    (hd : ∀ H, Same H1 H → H D = some (.lst (f n)) → Qd H) :
    ∃ W : Nat → Nat → Hp → Prop, (∃ m, W 0 m (upd H1 D (.lst []))) ∧ ∀ i m H, W i m H →
      (J.stop i H ∧ Qd H) ∨ (J.go i H ∧ ∃ Nx : Hp → Prop, (∀ H', Nx H' → ∃ m', m' < m ∧ W (i + 1) m' H') ∧ ∀ x H', J.yld i H x H' → g x (wipe σ vs) H' fun σ2 H2 => wipe σ2 vs = wipe σ vs ∧ tt σ2 H2 fun b H3 =>
        if b = true then te σ2 H3 fun y H4 => ∃ acc, H4 D = some (.lst acc) ∧ acc.length < sizeLine ∧ Nx (upd H4 D (.lst (acc ++ [y]))) else Nx H3) := by
  refine lc_it w (fun i H => Same H1 H ∧ H D = some (.lst (f i))) ⟨Same.new hD, by rw [upd_same, f0]⟩ (fun i H _ q => hG H q.1) (fun i x H H' hi q y => ?_) (fun H q => hd H q.1 q.2)
  refine hs i x H H' _ _ hi q.1 q.2 y (fun y H4 s e => ?_) (fun H3 s e => ⟨q.1.trans s, by rw [e]; exact s _ _ q.2⟩)
  exact ⟨f i, s _ _ q.2, fz i (Nat.le_of_lt hi), (q.1.trans s).upd hD, by rw [upd_same, e]⟩
/-- where every item is kept -/
theorem lc_map {J : It} {n : Nat} {G : Hp → Prop} {Y : Nat → Hp → V → Hp → Prop} (w : Walk J n G Y) {g : TG} {te : TE} {vs : List Nat} {σ : L2.St} {H1 : Hp} {D : Addr} {Qd : Hp → Prop} (l : List V) (hl : l.length = n)
    (fz : n < sizeLine) (hD : H1 D = none) (hG : ∀ H, Same H1 H → G H)
    (hs : ∀ i x H H' (C : V → Hp → Prop), i < n → Same H1 H → Y i H x H' → (∀ y H4, Same H H4 → l[i]? = some y → C y H4) → g x (wipe σ vs) H' fun σ2 H2 => wipe σ2 vs = wipe σ vs ∧ te σ2 H2 C)
    (mono : ∀ v σ H Q Q', (∀ σ' H', Q σ' H' → Q' σ' H') → g v σ H Q → g v σ H Q')
    (hd : ∀ H, Same H1 H → H D = some (.lst l) → Qd H) :
    ∃ W : Nat → Nat → Hp → Prop, (∃ m, W 0 m (upd H1 D (.lst []))) ∧ ∀ i m H, W i m H →
      (J.stop i H ∧ Qd H) ∨ (J.go i H ∧ ∃ Nx : Hp → Prop, (∀ H', Nx H' → ∃ m', m' < m ∧ W (i + 1) m' H') ∧ ∀ x H', J.yld i H x H' → g x (wipe σ vs) H' fun σ2 H2 => wipe σ2 vs = wipe σ vs ∧ tYes σ2 H2 fun b H3 =>
        if b = true then te σ2 H3 fun y H4 => ∃ acc, H4 D = some (.lst acc) ∧ acc.length < sizeLine ∧ Nx (upd H4 D (.lst (acc ++ [y]))) else Nx H3) := by
  refine lc_acc w (fun i => l.take i) rfl (fun i hi => ?_) hD hG (fun i x H H' C Nx hi s hH y k k2 => ?_) (fun H s hH => hd H s ?_)
  · rw [List.length_take]
    omega
  · refine mono _ _ _ _ _ (fun σ2 H2 q => ⟨q.1, ?_⟩) (hs i x H H' C hi s y fun y H4 s4 e => k y H4 s4 ?_)
    · show (if true = true then te σ2 H2 C else Nx H2)
      rw [if_pos rfl]
      exact q.2
    · show l.take (i + 1) = l.take i ++ [y]
      rw [List.take_add_one, e]
      rfl
  · rw [hH]
    show some (HO.lst (l.take n)) = _
    rw [← hl, List.take_length]
theorem mono_gName {i : Nat} : ∀ (v : V) (σ : L2.St) (H : Hp) (Q Q' : L2.St → Hp → Prop), (∀ σ' H', Q σ' H' → Q' σ' H') → gName i v σ H Q → gName i v σ H Q' := fun _ _ _ _ _ h q => h _ _ q
theorem mono_gTup2 {K : Fr} {i j : Nat} : ∀ (v : V) (σ : L2.St) (H : Hp) (Q Q' : L2.St → Hp → Prop), (∀ σ' H', Q σ' H' → Q' σ' H') → gTup K 2 (gCons (gName i) (gCons (gName j) gNil)) v σ H Q → gTup K 2 (gCons (gName i) (gCons (gName j) gNil)) v σ H Q' := by
  intro v σ H Q Q' h q
  obtain ⟨a, xs, e, hq, hl, x, r, e2, y, r2, e3, e4, q⟩ := q
  exact ⟨a, xs, e, hq, hl, x, r, e2, y, r2, e3, e4, h _ _ q⟩
/-! ### packets -/
/-- the letters of a text as numbers -/
def okLet (c : Nat) : Prop := 97 ≤ c ∧ c ≤ 122
structure PkS where
  w : Nat
  h : Nat
  sh : List Str
structure PkS.ok (D : PkS) : Prop where
  w1 : 1 ≤ D.w
  w3 : D.w ≤ 3
  h1 : 1 ≤ D.h
  h2 : D.h ≤ 2
  n1 : 1 ≤ D.sh.length
  n3 : D.sh.length ≤ 3
  len : ∀ s ∈ D.sh, s.length = D.w * D.h
  let_ : ∀ s ∈ D.sh, ∀ c ∈ s.cps.toList, okLet c
theorem PkS.ok.cells {D : PkS} (o : D.ok) : 1 ≤ D.w * D.h ∧ D.w * D.h ≤ 6 := by
  obtain ⟨h1, h2, h3, h4, _, _, _, _⟩ := o
  exact ⟨Nat.mul_pos h1 h3, Nat.le_trans (Nat.mul_le_mul h2 h4) (by decide)⟩
def PkAt (K : Fr) (H : Hp) (p : Addr) (D : PkS) : Prop := ∃ dx t s, SlX.Slt H p (C_Packet K) dx [some (.ref t)] ∧ H t = some (.tup [.int D.w, .int D.h, .ref s]) ∧ H s = some (.tup (D.sh.map V.str))
theorem PkAt.mono {K : Fr} {H H' : Hp} {p : Addr} {D : PkS} (h : PkAt K H p D) (s : Same H H') : PkAt K H' p D := by
  obtain ⟨dx, t, a, h1, h2, h3⟩ := h
  exact ⟨dx, t, a, s.slt h1, s _ _ h2, s _ _ h3⟩
theorem PkAt.parts {K : Fr} {H : Hp} {p : Addr} {D : PkS} (h : PkAt K H p D) : ∃ dx t s, SlX.Slt H p (C_Packet K) dx [some (.ref t)] ∧ H t = some (.tup [.int D.w, .int D.h, .ref s]) ∧ H s = some (.tup (D.sh.map V.str)) := h
/-! ### data -/
theorem dpAll_int {K : Fr} {H : Hp} : ∀ ns : List Int, DpAll K H (ns.map V.int) (ns.map PyData.int)
  | [] => .nil
  | n :: r => .cons (.int n) (dpAll_int r)
theorem dpAll_str {K : Fr} {H : Hp} : ∀ ns : List Str, DpAll K H (ns.map V.str) (ns.map PyData.str)
  | [] => .nil
  | n :: r => .cons (.str n) (dpAll_str r)
theorem eqvAll_int : ∀ a b : List Int, PyData.eqvAll (a.map PyData.int) (b.map PyData.int) = decide (a = b)
  | [], [] => by simp [PyData.eqvAll]
  | [], _ :: _ => by simp [PyData.eqvAll]
  | _ :: _, [] => by simp [PyData.eqvAll]
  | x :: r, y :: t => by
    rw [List.map_cons, List.map_cons, PyData.eqvAll, eqvAll_int r t, PyData.eqv]
    by_cases h1 : x = y <;> by_cases h2 : r = t <;> simp [h1, h2]
theorem eqvAll_str : ∀ a b : List Str, PyData.eqvAll (a.map PyData.str) (b.map PyData.str) = decide (a = b)
  | [], [] => by simp [PyData.eqvAll]
  | [], _ :: _ => by simp [PyData.eqvAll]
  | _ :: _, [] => by simp [PyData.eqvAll]
  | x :: r, y :: t => by
    rw [List.map_cons, List.map_cons, PyData.eqvAll, eqvAll_str r t, PyData.eqv]
    by_cases h1 : x = y <;> by_cases h2 : r = t <;> simp [h1, h2]
def lowS (x : Str) : Prop := PyData.strOk x = true
theorem lay_int : ∀ ns : List Int, PyData.canLayAll0 (ns.map PyData.int) = true
  | [] => rfl
  | _ :: r => by rw [List.map_cons, PyData.canLayAll0, lay_int r]; rfl
theorem lay_str : ∀ ns : List Str, (∀ z ∈ ns, lowS z) → PyData.canLayAll0 (ns.map PyData.str) = true
  | [], _ => rfl
  | z :: r, h => by rw [List.map_cons, PyData.canLayAll0, lay_str r fun y hy => h y (List.mem_cons_of_mem _ hy), Bool.and_true]; exact h z List.mem_cons_self
theorem dep_int : ∀ ns : List Int, PyData.depthAll (ns.map PyData.int) = 0
  | [] => rfl
  | _ :: r => by rw [List.map_cons, PyData.depthAll, dep_int r]; rfl
theorem dep_str : ∀ ns : List Str, PyData.depthAll (ns.map PyData.str) = 0
  | [] => rfl
  | _ :: r => by rw [List.map_cons, PyData.depthAll, dep_str r]; rfl
theorem lowS_let {z : Str} (h : ∀ c ∈ z.cps.toList, okLet c) : lowS z := by
  unfold lowS PyData.strOk
  rw [Array.all_eq_true']
  intro c hc
  have := (h c (by simpa using hc)).2
  simp
  omega
/-- a packet's parts as data -/
def PkS.data (D : PkS) : PyData := .tuple [.int D.w, .int D.h, .tuple (D.sh.map PyData.str)]
theorem PkS.shaped {D : PkS} (o : D.ok) : SeqAt.shaped D.data = true := by
  have h1 : D.data.canLay0 = true := by
    show PyData.canLayAll0 [.int D.w, .int D.h, .tuple (D.sh.map PyData.str)] = true
    have e : PyData.canLayAll0 (D.sh.map PyData.str) = true := lay_str _ fun z hz => lowS_let (o.let_ z hz)
    simp [PyData.canLayAll0, PyData.canLay0, e]
  have h2 : D.data.depth = 2 := by
    show PyData.depthAll [.int D.w, .int D.h, .tuple (D.sh.map PyData.str)] + 1 = 2
    simp [PyData.depthAll, PyData.depth, dep_str]
  unfold SeqAt.shaped
  rw [h1, h2]
  rfl
end S57

set_option Elab.async false
set_option linter.all false
set_option maxRecDepth 100000
set_option maxHeartbeats 4000000
namespace S57
open PySem PySem.Spec PyProof.Rows L2
section
variable {prog : Program} {w : World} {A : Around} {E : Value → Shared → Prop} {s : Shared} {l : Addr} {xs : Array (Int × Tok)}
theorem iter_intTuple {Q : Value → Shared → Prop} (hl : s.heap.IsTuple l (intItems xs))
    (h : ∀ s2 : Shared, s2 = { s with heap := s.heap.push { cls := .type "tuple_iterator", data := .fields #[.ref l, .int 0 0] } } →
      (s2.heap.IsTupleIter s.heap.objs.size l 0 ∧ s2.heap.IsTuple l (intItems xs)) → (∀ b ∈ [s.heap.objs.size, l], b < s2.heap.objs.size) → l ≠ s.heap.objs.size → Q (.ref s.heap.objs.size) s2) :
    wpAny (model prog w) A (pyIter (.ref l)) Q E s := by
  have hlt : l < s.heap.objs.size := by obtain ⟨_, e, _⟩ := hl; exact Heap.lt_size e
  refine wpAny_pyIter_tuple hl (h _ rfl ⟨⟨_, Heap.get?_push_size _ rfl, rfl, rfl⟩, hl.push _⟩ (fun b hb => ?_) (Nat.ne_of_lt hlt))
  show b < (s.heap.push _).objs.size
  rw [Heap.size_push]
  rcases List.mem_cons.mp hb with rfl | hb
  · exact Nat.lt_succ_self _
  · rcases List.mem_cons.mp hb with rfl | hb
    · exact Nat.lt_succ_of_lt hlt
    · cases hb
theorem old_keptT {h' : Heap} (hk : ∀ b o, b ∉ [s.heap.objs.size] → (s.heap.push { cls := .type "tuple_iterator", data := .fields #[.ref l, .int 0 0] }).get? b = some o → h'.get? b = some o) :
    ∀ b o, s.heap.get? b = some o → h'.get? b = some o := fun b o e => by
  refine hk b o (fun hm => ?_) (Heap.get?_push_of_some _ e)
  rcases List.mem_cons.mp hm with e1 | hm
  · exact absurd (e1 ▸ Heap.lt_size e) (Nat.lt_irrefl _)
  · cases hm
theorem max_intTuple {Q : Value → Shared → Prop} (hh : A.handled = none) (hl : s.heap.IsTuple l (intItems xs)) (hne : 0 < xs.size)
    (h : ∀ v h' tk, (intItems xs)[argBest (fun i j => decide (numAt xs i > numAt xs j)) (xs.size - 1)]? = some v → (∀ b o, s.heap.get? b = some o → h'.get? b = some o) → Q v { s with heap := h', toks := tk }) :
    wpAny (model prog w) A (call (.builtin "max") [.ref l]) Q E s := by
  refine call_max_walk (iter_intTuple hl fun s2 e st hfp hlI => ?_)
  subst e
  refine ⟨_, _, _, _, _, _, _, rfl, Walks.tuple (A := A.in1) hh _ l hlI (intItems xs), st, hfp, by simpa [intItems] using hne, CmpOf.ints_gt (numAt xs) (fun _ _ => intItems_at), fun v h' tk hP hk => ?_⟩
  exact h v h' tk (by simpa [intItems] using hP) (old_keptT hk)
theorem max_rawT {its : List Value} {ns : List Int} {Q : Value → Shared → Prop} (hh : A.handled = none) (hl : s.heap.IsTuple l its.toArray) (hi : IntsAre its ns) (hne : 0 < ns.length)
    (h : ∀ h' tk M t', (∀ b o, s.heap.get? b = some o → h'.get? b = some o) → M ∈ ns → (∀ a, a ∈ ns → a ≤ M) → Q (.int M t') { s with heap := h', toks := tk }) : wpAny (model prog w) A (call (.builtin "max") [.ref l]) Q E s := by
  obtain ⟨xs, e⟩ := hi.allInts.items
  have hn : numsOf (intItems xs).toList = ns := by rw [← e]; exact hi.numsOf
  rw [nums_intItems] at hn
  subst hn
  rw [e] at hl
  have hsz : 0 < xs.size := by simpa using hne
  refine max_intTuple hh hl hsz fun v h' tk hv hk => ?_
  obtain ⟨t, rfl⟩ := intItems_at hv
  obtain ⟨h1, h2⟩ := argBest_gt (numAt xs) (xs.size - 1)
  refine h h' tk _ t hk ?_ fun a ha => ?_
  · rw [numAt_eq]; exact PySem.getD_mem (by rw [List.length_map, Array.length_toList]; omega)
  · obtain ⟨j, hj, rfl⟩ := mem_getD ha
    rw [List.length_map, Array.length_toList] at hj
    rw [← numAt_eq]; exact h2 j (by omega)
end
section
variable {X : Cx}
/-- max(t) of a tuple of ints -/
def rMaxT (K : Fr) : List V → Hp → VK → Prop := fun vs H Q => ∃ (a : Addr) (ns : List Int), vs = [V.ref a] ∧ SqT K H a (ns.map V.int) ∧ 0 < ns.length ∧ ∀ m, m ∈ ns → (∀ y, y ∈ ns → y ≤ m) → Q (.int m) H
theorem cr_maxT (hc : X.calm = true) : CallR X (.builtin "max") (rMaxT X.K) := by
  intro pins s σ H vs us Q I r h
  obtain ⟨a, ns, rfl, hs, hne, q⟩ := h
  obtain ⟨its, rv, hl, _⟩ := I.tuple hs
  rw [Vals.ref1 r]
  exact max_rawT (I.ok.hd hc) hl rv.ints hne fun h' tk m t' hk h1 h2 => ⟨.int _, H, I.kept hk, ⟨_, rfl⟩, q m h1 h2⟩
/-- len(o) of a slotted instance by its own def -/
def rLenO (C : Addr) (sp : Sp) (E : XK) : List V → Hp → VK → Prop := fun xs H Q => ∃ a dx vs, xs = [V.ref a] ∧ SlX.Slt H a C dx vs ∧ sp [.ref a] H (fun z H' => ∃ i : Int, z = .int i ∧ (0 ≤ i ∧ i < 2 ^ 63) ∧ Q z H') E
theorem call_lenO {CX : CXT} {C g : Addr} {n : Nat} {sp : Sp} {E : XK} (hs : PySem.W.findIn X.K (.ref C) "__len__" = some (some (.ref g))) (hf : PySem.W.isFn X.K (.ref g) = true) (F : FnR X.prog X.w X.K X.mg X.base CX n g sp) (hr : Room (n + 1) X.A) (hx : Passes CX X E) :
    CallR X (.builtin "len") (rLenO C sp E) := by
  intro pins s σ H xs us Q I r h
  obtain ⟨a, dx, vs, rfl, hsl, q⟩ := h
  obtain ⟨u, rfl, ru⟩ := r.one
  cases (show u = Value.ref a from ru)
  obtain ⟨sl, od, _, J, _⟩ := SlX.slt_inst I hsl
  obtain ⟨m, hF⟩ := I.fr
  refine PySem.W.len_K hF I.ok.mod.kin J hs hf (wpAny_mono (wpAny_call (SlX.run_at (us := [.ref a]) (ws := [.ref a]) F hr.in1 I.env0.in1 hx I (.cons rfl .nil) q)) (fun w s' z => ?_) fun _ _ x => x)
  obtain ⟨z', H', I', rz, i, ei, hb, qz⟩ := z
  subst ei
  obtain ⟨t, e⟩ := (show ∃ t, w = Value.int i t from rz)
  cases e
  exact ⟨hb, .int i, H', I'.tok _, ⟨_, rfl⟩, qz⟩
end
end S57

set_option Elab.async false
set_option linter.all false
set_option maxRecDepth 100000
set_option maxHeartbeats 4000000
namespace S57
open PySem PySem.Spec PyProof.Rows PySem.SeqAt L2
section
variable {M : Model} {prog : Program} {w : World} {A : Around} {E : Value → Shared → Prop} {s : Shared} {K : Fr} {x C f : Addr} {ox : Obj} {od : Option Obj}
theorem entry_ne_own {y : Value} {Q : Fin → Shared → Prop} (hu : A.units < cLine) (X : K.In s.heap) (I : PySem.W.InstAt s.heap x ox C od) (hs : PySem.W.findIn K (.ref C) "__eq__" = some (some (.ref f))) (hf : PySem.W.isFn K (.ref f) = true)
    (h : wpAny (model prog w) A (call (.ref f) [.ref x, y]) (fun v s' => ∃ b, v = .bool b ∧ Q (.done (.ret (.bool (!b)))) s') E s) : wpAny (model prog w) A (Builtin.«object.__ne__» ⟨[.ref x, y], []⟩) Q E s := by
  unfold Builtin.«object.__ne__»
  refine wpAny_bind (m := slotArgs "__ne__" 1 _) (wpAny_pure ?_)
  refine wpAny_bind (wpAny_cRoomFor hu ?_)
  refine wpAny_bind (PySem.W.ifBound_K X I hs hf (wpAny_mono h (fun v s' hv => ?_) fun _ _ e => e))
  obtain ⟨b, rfl, q⟩ := hv
  exact wpAny_bind (wpAny_truthy_bool (wpAny_pure q))
theorem call_objNe {y : Value} {Q : Value → Shared → Prop} (hu : A.in1.units < cLine) (X : K.In s.heap) (I : PySem.W.InstAt s.heap x ox C od) (hm : PySem.W.mroIn K C (.type "object") = some true) (hs : PySem.W.findIn K (.ref C) "__eq__" = some (some (.ref f))) (hf : PySem.W.isFn K (.ref f) = true)
    (h : wpAny (model prog w) A.in1 (call (.ref f) [.ref x, y]) (fun v s' => ∃ b, v = .bool b ∧ Q (.bool (!b)) s') E s) :
    wpAny (model prog w) A (call (.builtin "object.__ne__") [.ref x, y]) Q E s :=
  wpAny_call (codeAny_call_builtin F.cmp_object.ne.plain F.cmpEntry_ne (PySem.W.check_slot F.cmpKind_ne F.cmpSplit_ne (I.type.andThen (PySem.W.looks_mroIn X hm)) (F.cmpArgs_ne _ _) (entry_ne_own hu X I hs hf h)))
theorem ifBound_objNe {args : List Value} {Q : Option Value → Shared → Prop} (X : K.In s.heap) (I : PySem.W.InstAt s.heap x ox C od) (hs : PySem.W.findIn K (.ref C) "__ne__" = some (some (.builtin "object.__ne__")))
    (h : wpAny M A (call (.builtin "object.__ne__") (.ref x :: args)) (fun v => Q (some v)) E s) : wpAny M A (callSpecialIfBound? (.ref x) "__ne__" args) Q E s := by
  simp only [callSpecialIfBound?, bindSpecialIfBound?]
  refine wpAny_holding (wpAny_bind (wpAny_bind (wpAny_bind (I.type.here ((PySem.W.looks_findIn X hs).here ?_)))))
  refine wpAny_bind (wpAny_askSetting (wpAny_ite ?_))
  have fin : wpAny M A (call (.builtin "object.__ne__") ([.ref x] ++ args) >>= fun v => pure (some v)) Q E s := wpAny_bind (wpAny_mono h (fun v s' h' => wpAny_pure h') fun _ _ h' => h')
  split
  · exact wpAny_bind (wpAny_of_eq (F.cmp_object.ne.bind _) (wpAny_pure (by exact fin)))
  · exact wpAny_tryCatch (wpAny_bind (wpAny_of_eq (F.cmp_object.ne.bind _) (wpAny_pure (by exact fin))))
/-- x != y where the class has no __ne__ of its own: its __eq__, and not -/
theorem ne_K {b tb : Value} {Q : Value → Shared → Prop} (hu : A.in1.units < cLine) (hu0 : A.units < cLine) (X : K.In s.heap) (I : PySem.W.InstAt s.heap x ox C od) (hb : PySem.W.Looks (model prog w) s.heap (typeOf b) tb) (hn : PySem.W.notFirst K C tb = true)
    (hm : PySem.W.mroIn K C (.type "object") = some true) (hne : PySem.W.findIn K (.ref C) "__ne__" = some (some (.builtin "object.__ne__"))) (hs : PySem.W.findIn K (.ref C) "__eq__" = some (some (.ref f))) (hf : PySem.W.isFn K (.ref f) = true)
    (h : wpAny (model prog w) A.in1 (call (.ref f) [.ref x, b]) (fun v s' => ∃ c, v = .bool c ∧ Q (.bool (!c)) s') E s) : wpAny (model prog w) A (richCompare .NotEq (.ref x) b) Q E s := by
  have one : wpAny (model prog w) A (tryCompare (.ref x) (cmpInfo .NotEq).2.1 b) (fun r s' => ∃ v, r = some v ∧ Q v s') E s := by
    unfold tryCompare
    refine wpAny_bind (ifBound_objNe X I hne (call_objNe hu X I hm hs hf (wpAny_mono h (fun v s' hv => ?_) fun _ _ e => e)))
    obtain ⟨c, rfl, q⟩ := hv
    exact ⟨c, rfl, wpAny_pure ⟨_, rfl, q⟩⟩
  unfold richCompare
  simp only [oneThing_ref]
  refine wpAny_holding (wpAny_bind (wpAny_cRoomFor hu0 ?_))
  refine wpAny_bind (I.type.here (wpAny_bind (hb.here ?_)))
  split
  · rename_i q
    have e : PySem.W.subIn K tb (.ref C) = some false := by
      rcases Bool.or_eq_true_iff.mp hn with e | e
      · rw [beq_iff_eq.mp e] at q; simp at q
      · exact beq_iff_eq.mp e
    refine wpAny_bind ((PySem.W.looks_subIn X e).here ?_)
    simp only [Bool.false_eq_true, if_false]
    refine wpAny_bind (wpAny_mono one (fun r s' z => ?_) fun _ _ e => e)
    obtain ⟨v, rfl, hq⟩ := z
    exact wpAny_pure hq
  · refine wpAny_bind (wpAny_pure ?_)
    simp only [Bool.false_eq_true, if_false]
    refine wpAny_bind (wpAny_mono one (fun r s' z => ?_) fun _ _ e => e)
    obtain ⟨v, rfl, hq⟩ := z
    exact wpAny_pure hq
end
section
variable {X : Cx}
/-- x != y of two slotted instances of the class at C -/
def rNeOwn (K : Fr) (C : Addr) (sp : Sp) (E : XK) : R2 := fun x y H Q => ∃ a dx vs b dy ws, x = .ref a ∧ y = .ref b ∧ SlX.Slt H a C dx vs ∧ SlX.Slt H b C dy ws ∧ sp [x, y] H (fun z H' => ∃ c, z = .bl c ∧ Q (.bl (!c)) H') E
theorem op_neOwn {CX : CXT} {C g : Addr} {n : Nat} {sp : Sp} {E : XK} (hm : PySem.W.mroIn X.K C (.type "object") = some true) (hne : PySem.W.findIn X.K (.ref C) "__ne__" = some (some (.builtin "object.__ne__"))) (hs : PySem.W.findIn X.K (.ref C) "__eq__" = some (some (.ref g))) (hf : PySem.W.isFn X.K (.ref g) = true)
    (F : FnR X.prog X.w X.K X.mg X.base CX n g sp) (hr : Room (n + 1) X.A) (hx : Passes CX X E) : OpR X (compareOp .NotEq) (rNeOwn X.K C sp E) := by
  intro pins s σ H x y v u Q I rx ry h
  obtain ⟨a, dx, vs, b, dy, ws, rfl, rfl, ha, hb, q⟩ := h
  cases (show v = Value.ref a from rx)
  cases (show u = Value.ref b from ry)
  obtain ⟨sl, od, _, J, _⟩ := SlX.slt_inst I ha
  obtain ⟨sl', od', _, J', _⟩ := SlX.slt_inst I hb
  show wpAny _ _ (richCompare .NotEq _ _) _ _ _
  refine ne_K (by have := hr.un; show X.A.units + 1 < cLine; omega) hr.units0 I.kIn J J'.type (by unfold PySem.W.notFirst; simp) hm hne hs hf ?_
  refine wpAny_mono (wpAny_call (SlX.run_at (us := [.ref a, .ref b]) (ws := [.ref a, .ref b]) F hr.in1 I.env0.in1 hx I (.cons rfl (.cons rfl .nil)) q)) (fun w s' z => ?_) fun _ _ x => x
  obtain ⟨z', H', I', rz, c, ec, qz⟩ := z
  subst ec
  cases (show w = Value.bool c from rz)
  exact ⟨c, rfl, .bl _, H', I', rfl, qz⟩
end
end S57

set_option Elab.async false
set_option linter.all false
set_option maxRecDepth 100000
set_option maxHeartbeats 4000000
namespace S57
open PySem PySem.Spec PyProof.Rows L2
theorem all_rep (n : Nat) : (List.replicate n true).all id = true := by simp
theorem let_in {c : Nat} (h : okLet c) : decide (c ∈ ("abcdefghijklmnopqrstuvwxyz" : Str).cps.toList) = true := by
  obtain ⟨h1, h2⟩ := h
  have : ∀ d : Nat, d < 26 → decide ((97 + d) ∈ ("abcdefghijklmnopqrstuvwxyz" : Str).cps.toList) = true := by decide +kernel
  have e : c = 97 + (c - 97) := by omega
  rw [e]
  exact this _ (by omega)
section
variable {P : Program} {w : World} {K : Fr} {mg : Str → Option Value} {base : Heap}
def sp_is_number : Sp := fun vs H Q _ => ∃ i lo hi : Int, vs = [.int i, .int lo, .int hi] ∧ Q (.bl (decide (lo ≤ i) && decide (i ≤ hi))) H
theorem sc_is_number0 : FnScope ["value", "smallest", "largest"] ["value", "smallest", "largest"] (defScope s_is_number) := ⟨rfl, rfl, rfl, by decide +kernel, rfl, by decide +kernel, by decide +kernel⟩
theorem ok_is_number (T : Txt K mg w) : FnR P w K mg base CX0 1 (a_is_number K) (sp_is_number) := by
  refine fnr0 (d_is_number T) sc_is_number0 (fun _ _ _ _ _ _ us hl => match us, hl with | [_, _, _], _ => rfl) (fun vs H Q E h => ?_) (fun cdv A outer s H vs Q E hr h => ?_)
  · obtain ⟨i, lo, hi, rfl, k⟩ := h
    rfl
  · obtain ⟨i, lo, hi, rfl, k⟩ := h
    refine ⟨_, (pss_one (ps_ret (pe_and (pe_callB call_isi (by rfl) (n_isinstance T) (by decide +kernel) (pa_cons (pv 0) (pa_cons (pe_bltn (v := .ty "int") rfl (n_int T) boot_int rfl) pa_nil))) (pe_and (pe_not (pe_callB call_isi (by rfl) (n_isinstance T) (by decide +kernel) (pa_cons (pv 0) (pa_cons (pe_bltn (v := .ty "bool") rfl (n_bool T) boot_bool rfl) pa_nil)))) (pe_one (pe_chain op_le op_le (pv 1) (pv 0) (pv 2))))))), ?_⟩
    refine ⟨_, rfl, _, _, .type "int", .type "int", true, rfl, .ty _, .base (.int _), kit_ty (by decide +kernel), true, rfl, iteT ?_⟩
    refine ⟨_, rfl, _, _, .type "int", .type "bool", false, rfl, .ty _, .base (.int _), kit_ty (by decide +kernel), false, rfl, true, rfl, iteT ?_⟩
    refine ⟨_, rfl, _, rfl, _, _, rfl, rfl, _, rfl, ite2 (fun e => ?_) (fun e => ?_)⟩
    · refine ⟨_, rfl, _, _, rfl, rfl, ?_⟩
      rw [e] at k
      simpa using k
    · rw [Bool.not_eq_true] at e
      rw [e] at k
      simpa using k
def sp_is_picture : Sp := fun vs H Q _ => ∃ (n : Nat) (z : Str), vs = [.int n, .str z] ∧ z.length = n ∧ n ≤ 100 ∧ (∀ c ∈ z.cps.toList, okLet c) ∧ ∀ H', Same H H' → Q (.bl true) H'
theorem sc_is_picture0 : FnScope ["size", "value", "letter"] ["size", "value"] (defScope s_is_picture) := ⟨rfl, rfl, rfl, by decide +kernel, rfl, by decide +kernel, by decide +kernel⟩
theorem ok_is_picture (T : Txt K mg w) : FnR P w K mg base CX0 1 (a_is_picture K) (sp_is_picture) := by
  refine fnr0 (d_is_picture T) sc_is_picture0 (fun _ _ _ _ _ _ us hl => match us, hl with | [_, _], _ => rfl) (fun vs H Q E h => ?_) (fun cdv A outer s H vs Q E hr h => ?_)
  · obtain ⟨n, z, rfl, _⟩ := h
    rfl
  · obtain ⟨n, z, rfl, hl, hn, hc, k⟩ := h
    refine ⟨_, (pss_one (ps_ret (pe_and (pe_callB call_isi (by rfl) (n_isinstance T) (by decide +kernel) (pa_cons (pv 1) (pa_cons (pe_bltn (v := .ty "str") rfl (n_str T) boot_str rfl) pa_nil))) (pe_and (pe_cmpR op_eq (pe_callB call_len_str (by rfl) (n_len T) boot_len (pa_cons (pv 1) pa_nil)) (pv 0) (nomark _)) (pe_one (pe_callB (cr_all rfl) (by rfl) (n_all T) (by decide +kernel) (pa_cons (pe_lc (own := [("letter", 2)]) (g := gName 2) (tt := tYes) rfl sc_is_picture0.nd (pi_str (pv 1)) (blkOk_by (own := [("letter", 2)]) (N := ["size", "value", "letter"]) (sc := defScope s_is_picture) (by decide +kernel)) (fun _ _ _ _ _ => (pg_name (i := 2) sc_is_picture0.nd rfl (by first | exact Or.inl rfl | exact Or.inr rfl))) (fun _ _ _ _ _ => pts_nil) (fun _ _ _ _ _ => (pe_cmpR op_in_sign (pv 2) (pe_glob rfl (Classical.choose_spec (c_LETTERS T)).1 (Classical.choose_spec (c_LETTERS T)).2) rfl))) pa_nil))))))), ?_⟩
    refine ⟨_, rfl, _, _, .type "str", .type "str", true, rfl, .ty _, .base (.str _), kit_ty (by decide +kernel), true, rfl, iteT ?_⟩
    refine ⟨_, rfl, _, rfl, by rw [sizeLine_eq]; omega, _, rfl, rfl, true, by rw [hl] <;> simp, iteT ?_⟩
    refine ⟨_, rfl, z, rfl, fun D hD => ?_⟩
    refine lc_map walk_str ((List.replicate z.cps.size true).map V.bl) (by simp) (by rw [sizeLine_eq]; show z.length < _; omega) hD (fun _ _ => trivial) (fun i x H1 H' C hi s y kk => ?_) mono_gName (fun H1 s hH => ?_)
    · obtain ⟨rfl, c, hc1, rfl⟩ := y
      refine ⟨rfl, _, rfl, c, _, rfl, rfl, ?_⟩
      have hm : c ∈ z.cps.toList := by
        have := Array.mem_of_getElem? hc1
        simpa using this
      have ho := hc c hm
      have e : decide (c ∈ ("abcdefghijklmnopqrstuvwxyz" : Str).cps.toList) = true := let_in ho
      rw [e]
      exact kk _ _ (Same.refl _) (by rw [List.getElem?_map, List.getElem?_replicate, if_pos hi]; rfl)
    · refine ⟨D, _, rfl, SqL.of hH, ?_⟩
      rw [all_rep]
      exact k _ s
def sp_are_pictures : Sp := fun vs H Q _ => ∃ (n : Nat) (t : Addr) (zs : List Str), vs = [.int n, .ref t] ∧ H t = some (.tup (zs.map V.str)) ∧ zs.length ≤ 100 ∧ n ≤ 100 ∧ (∀ z ∈ zs, z.length = n ∧ ∀ c ∈ z.cps.toList, okLet c) ∧ ∀ H', Same H H' → Q (.bl true) H'
theorem sc_are_pictures0 : FnScope ["size", "value", "text"] ["size", "value"] (defScope s_are_pictures) := ⟨rfl, rfl, rfl, by decide +kernel, rfl, by decide +kernel, by decide +kernel⟩
theorem ok_are_pictures (T : Txt K mg w) : FnR P w K mg base CX0 2 (a_are_pictures K) (sp_are_pictures) := by
  refine fnr0 (d_are_pictures T) sc_are_pictures0 (fun _ _ _ _ _ _ us hl => match us, hl with | [_, _], _ => rfl) (fun vs H Q E h => ?_) (fun cdv A outer s H vs Q E hr h => ?_)
  · obtain ⟨n, t, zs, rfl, _⟩ := h
    rfl
  · obtain ⟨n, t, zs, rfl, ht, hl, hn, hc, k⟩ := h
    refine ⟨_, (pss_one (ps_ret (pe_and (pe_callB call_isi (by rfl) (n_isinstance T) (by decide +kernel) (pa_cons (pv 1) (pa_cons (pe_bltn (v := .ty "tuple") rfl (n_tuple T) boot_tuple rfl) pa_nil))) (pe_one (pe_callB (cr_all rfl) (by rfl) (n_all T) (by decide +kernel) (pa_cons (pe_lc (own := [("text", 2)]) (g := gName 2) (tt := tYes) rfl sc_are_pictures0.nd (pi_tup (pv 1)) (blkOk_by (own := [("text", 2)]) (N := ["size", "value", "text"]) (sc := defScope s_are_pictures) (by decide +kernel)) (fun _ _ _ _ _ => (pg_name (i := 2) sc_are_pictures0.nd rfl (by first | exact Or.inl rfl | exact Or.inr rfl))) (fun _ _ _ _ _ => pts_nil) (fun _ _ _ _ _ => (pe_g (ok_is_picture T) (hr.mono (by decide)) (g_is_picture T) (kp_is_picture T) pass0 (pa_cons (pv 0) (pa_cons (pv 2) pa_nil))))) pa_nil)))))), ?_⟩
    refine ⟨_, rfl, _, _, .type "tuple", .type "tuple", true, rfl, .ty _, .base (.tup ht), kit_ty (by decide +kernel), true, rfl, iteT ?_⟩
    refine ⟨_, rfl, t, rfl, ⟨_, SqT.of ht⟩, fun D hD => ?_⟩
    refine lc_map walk_tup ((List.replicate (zs.map V.str).length true).map V.bl) (by simp) (by rw [sizeLine_eq, List.length_map]; omega) hD (fun _ s => s.st (SqT.of ht)) (fun i x H1 H' C hi s y kk => ?_) mono_gName (fun H1 s hH => ?_)
    · obtain ⟨rfl, hx⟩ := y
      rw [List.getElem?_map] at hx
      obtain ⟨z, hz, rfl⟩ := Option.map_eq_some_iff.mp hx
      have hm := List.mem_of_getElem? hz
      refine ⟨rfl, _, rfl, _, rfl, n, z, rfl, (hc z hm).1, hn, (hc z hm).2, fun H2 s2 => kk _ _ s2 (by rw [List.getElem?_map, List.getElem?_replicate, if_pos hi]; rfl)⟩
    · refine ⟨D, _, rfl, SqL.of hH, ?_⟩
      rw [all_rep]
      exact k _ s
def sp_is_size : Sp := fun vs H Q _ => ∃ (a b : Nat), vs = [.int a, .int b] ∧ 1 ≤ a ∧ a ≤ 3 ∧ 1 ≤ b ∧ b ≤ 2 ∧ Q (.bl true) H
theorem sc_is_size0 : FnScope ["width", "height"] ["width", "height"] (defScope s_is_size) := ⟨rfl, rfl, rfl, by decide +kernel, rfl, by decide +kernel, by decide +kernel⟩
theorem ok_is_size (T : Txt K mg w) : FnR P w K mg base CX0 2 (a_is_size K) (sp_is_size) := by
  refine fnr0 (d_is_size T) sc_is_size0 (fun _ _ _ _ _ _ us hl => match us, hl with | [_, _], _ => rfl) (fun vs H Q E h => ?_) (fun cdv A outer s H vs Q E hr h => ?_)
  · obtain ⟨a, b, rfl, _⟩ := h
    rfl
  · obtain ⟨a, b, rfl, h1, h2, h3, h4, k⟩ := h
    refine ⟨_, (pss_one (ps_ret (pe_and (pe_g (ok_is_number T) (hr.mono (by decide)) (g_is_number T) (kp_is_number T) pass0 (pa_cons (pv 0) (pa_cons pe_int (pa_cons (pe_glob rfl (Classical.choose_spec (c_MAX_SIDE T)).1 (Classical.choose_spec (c_MAX_SIDE T)).2) pa_nil)))) (pe_and (pe_g (ok_is_number T) (hr.mono (by decide)) (g_is_number T) (kp_is_number T) pass0 (pa_cons (pv 1) (pa_cons pe_int (pa_cons (pe_glob rfl (Classical.choose_spec (c_MAX_SIDE T)).1 (Classical.choose_spec (c_MAX_SIDE T)).2) pa_nil)))) (pe_one (pe_cmpR op_le (pe_op op_mul (pv 0) (pv 1)) (pe_glob rfl (Classical.choose_spec (c_MAX_CELLS T)).1 (Classical.choose_spec (c_MAX_CELLS T)).2) (nomark _))))))), ?_⟩
    have hm : a * b ≤ 9 := Nat.le_trans (Nat.mul_le_mul h2 h4) (by decide)
    refine ⟨_, rfl, _, _, _, rfl, ?_⟩
    rw [show (decide ((1 : Int) ≤ a) && decide ((a : Int) ≤ 4)) = true by simp; omega]
    refine ⟨true, rfl, iteT ⟨_, rfl, _, _, _, rfl, ?_⟩⟩
    rw [show (decide ((1 : Int) ≤ b) && decide ((b : Int) ≤ 4)) = true by simp; omega]
    refine ⟨true, rfl, iteT ⟨_, rfl, _, rfl, _, _, rfl, rfl, .inl ⟨by omega, by omega⟩, _, _, rfl, rfl, ?_⟩⟩
    show Q (.bl (decide ((a : Int) * b ≤ 9))) H
    rw [show decide ((a : Int) * b ≤ 9) = true by simp; exact_mod_cast hm]
    exact k
/-- a packet is made at p, its dict at dx; H0: what stood ahead of it -/
def sp_Packet_init (K : Fr) : Sp := fun vs H Q _ => ∃ (H0 : Hp) (p dx s : Addr) (D : PkS), vs = [.ref p, .int D.w, .int D.h, .ref s] ∧ H0 p = none ∧ H0 dx = none ∧ dx ≠ p ∧ Same H0 H ∧ H p = some (.ins (C_Packet K) dx []) ∧ H dx = some (.own p) ∧
  H s = some (.tup (D.sh.map V.str)) ∧ D.ok ∧ ∀ H', Same H0 H' → PkAt K H' p D → Q .non H'
theorem sc_Packet_init0 : FnScope ["self", "width", "height", "sheets"] ["self", "width", "height", "sheets"] (defScope s_Packet_init) := ⟨rfl, rfl, rfl, by decide +kernel, rfl, by decide +kernel, by decide +kernel⟩
theorem ok_Packet_init (T : Txt K mg w) : FnR P w K mg base CX0 4 (a_Packet_init K) (sp_Packet_init K) := by
  refine fnr0 (d_Packet_init T) sc_Packet_init0 (fun _ _ _ _ _ _ us hl => match us, hl with | [_, _, _, _], _ => rfl) (fun vs H Q E h => ?_) (fun cdv A outer s H vs Q E hr h => ?_)
  · obtain ⟨H0, p, dx, s, D, rfl, _⟩ := h
    rfl
  · obtain ⟨H0, p, dx, s, D, rfl, p0, d0, dp, s0, hp, hd, hs, o, k⟩ := h
    refine ⟨_, (pss_cons (ps_if (pt_not (pt_val (pe_g (ok_is_number T) (hr.mono (by decide)) (g_is_number T) (kp_is_number T) pass0 (pa_cons (pv 1) (pa_cons pe_int (pa_cons (pe_glob rfl (Classical.choose_spec (c_MAX_SIDE T)).1 (Classical.choose_spec (c_MAX_SIDE T)).2) pa_nil)))))) pss_never pss_nil)
    (pss_cons (ps_if (pt_not (pt_val (pe_g (ok_is_size T) (hr.mono (by decide)) (g_is_size T) (kp_is_size T) pass0 (pa_cons (pv 1) (pa_cons (pv 2) pa_nil))))) pss_never pss_nil)
    (pss_cons (ps_if (PW.pt (pw_or (pt_not (pt_val (pe_g (ok_are_pictures T) (hr.mono (by decide)) (g_are_pictures T) (kp_are_pictures T) pass0 (pa_cons (pe_op op_mul (pv 1) (pv 2)) (pa_cons (pv 3) pa_nil))))) (pw_or1 (pt_not (pt_chain op_le op_le pe_int (pe_callB call_len_seq (by rfl) (n_len T) boot_len (pa_cons (pv 3) pa_nil)) (pe_glob rfl (Classical.choose_spec (c_MAX_SHEETS T)).1 (Classical.choose_spec (c_MAX_SHEETS T)).2)))))) pss_never pss_nil)
    (pss_one (SlX.ps_sl (pv 0) (pe_tup (pa_cons (pv 1) (pa_cons (pv 2) (pa_cons (pv 3) pa_nil))))))))), ?_⟩
    obtain ⟨c1, c6⟩ := o.cells
    have wp1 := o.w1; have wp3 := o.w3; have hp1 := o.h1; have hp2 := o.h2; have np1 := o.n1; have np3 := o.n3
    refine ⟨_, rfl, _, _, _, rfl, ?_⟩
    rw [show (decide ((1 : Int) ≤ D.w) && decide ((D.w : Int) ≤ 4)) = true by simp; omega]
    refine ⟨true, rfl, iteF ?_⟩
    refine ⟨_, rfl, _, rfl, _, _, rfl, wp1, wp3, hp1, hp2, true, rfl, iteF ?_⟩
    refine ⟨_, rfl, _, rfl, _, _, rfl, rfl, .inl ⟨by omega, by omega⟩, _, rfl, D.w * D.h, s, D.sh, by rw [Int.natCast_mul], hs, by omega, by omega, fun z hz => ⟨o.len z hz, o.let_ z hz⟩, fun H1 s1 => ?_⟩
    refine ⟨true, rfl, iteF ?_⟩
    refine ⟨_, rfl, s, _, rfl, .inr (SqT.of (s1 _ _ hs)), _, _, rfl, rfl, _, rfl, ?_⟩
    rw [show decide ((1 : Int) ≤ ((D.sh.map V.str).length : Nat)) = true by simp; omega]
    refine iteT ⟨_, _, rfl, rfl, _, rfl, ?_⟩
    rw [show decide ((((D.sh.map V.str).length : Nat) : Int) ≤ 4) = true by simp; omega]
    refine iteF ?_
    refine ⟨_, rfl, _, rfl, _, rfl, by show 3 ≤ sizeLine; decide, fun t ht => ?_⟩
    have npt : p ≠ t := ne_of_none (s1 _ _ hp) ht
    have ndt : dx ≠ t := ne_of_none (s1 _ _ hd) ht
    have nst : s ≠ t := ne_of_none (s1 _ _ hs) ht
    have nsp : s ≠ p := ne_of hs hp (by intro z; cases z)
    have nsd : s ≠ dx := ne_of hs hd (by intro z; cases z)
    refine ⟨_, rfl, p, C_Packet K, dx, _, [], 0, rfl, .inl ⟨by rw [upd_ne npt]; exact s1 _ _ hp, rfl⟩, sc_Packet T, sl_Packet_parts T, ?_⟩
    refine k _ (fun b u e => ?_) ⟨dx, t, s, SlX.slH_slt dp, ?_, ?_⟩
    · have nbp : b ≠ p := ne_of_none e p0
      have nbd : b ≠ dx := ne_of_none e d0
      rw [SlX.slH_ne nbp nbd, upd_ne (ne_of_none (s1 _ _ (s0 _ _ e)) ht)]
      exact s1 _ _ (s0 _ _ e)
    · rw [SlX.slH_ne npt.symm ndt.symm, upd_same]
    · rw [SlX.slH_ne nsp nsd, upd_ne nst]
      exact s1 _ _ hs
def sp_Packet_width (K : Fr) : Sp := fun vs H Q _ => ∃ (p : Addr) (D : PkS), vs = [.ref p] ∧ PkAt K H p D ∧ Q (.int D.w) H
theorem sc_Packet_width0 : FnScope ["self"] ["self"] (defScope s_Packet_width) := ⟨rfl, rfl, rfl, by decide +kernel, rfl, by decide +kernel, by decide +kernel⟩
theorem ok_Packet_width (T : Txt K mg w) : FnR P w K mg base CX0 1 (a_Packet_width K) (sp_Packet_width K) := by
  refine fnr0 (d_Packet_width T) sc_Packet_width0 (fun _ _ _ _ _ _ us hl => match us, hl with | [_], _ => rfl) (fun vs H Q E h => ?_) (fun cdv A outer s H vs Q E hr h => ?_)
  · obtain ⟨p, D, rfl, _⟩ := h
    rfl
  · obtain ⟨p, D, rfl, ⟨dx, t, s, h1, h2, h3⟩, k⟩ := h
    refine ⟨_, (pss_one (ps_ret (pe_ix ix_tup (SlX.pe_sl (pv 0)) pe_int (fun _ _ => rfl)))), ?_⟩
    exact ⟨_, rfl, p, _, dx, _, _, 0, _, rfl, h1, sc_Packet T, sl_Packet_parts T, rfl, t, _, _, _, rfl, rfl, SqT.of h2, atI_nat (j := 0) rfl, k⟩
def sp_Packet_height (K : Fr) : Sp := fun vs H Q _ => ∃ (p : Addr) (D : PkS), vs = [.ref p] ∧ PkAt K H p D ∧ Q (.int D.h) H
theorem sc_Packet_height0 : FnScope ["self"] ["self"] (defScope s_Packet_height) := ⟨rfl, rfl, rfl, by decide +kernel, rfl, by decide +kernel, by decide +kernel⟩
theorem ok_Packet_height (T : Txt K mg w) : FnR P w K mg base CX0 1 (a_Packet_height K) (sp_Packet_height K) := by
  refine fnr0 (d_Packet_height T) sc_Packet_height0 (fun _ _ _ _ _ _ us hl => match us, hl with | [_], _ => rfl) (fun vs H Q E h => ?_) (fun cdv A outer s H vs Q E hr h => ?_)
  · obtain ⟨p, D, rfl, _⟩ := h
    rfl
  · obtain ⟨p, D, rfl, ⟨dx, t, s, h1, h2, h3⟩, k⟩ := h
    refine ⟨_, (pss_one (ps_ret (pe_ix ix_tup (SlX.pe_sl (pv 0)) pe_int (fun _ _ => rfl)))), ?_⟩
    exact ⟨_, rfl, p, _, dx, _, _, 0, _, rfl, h1, sc_Packet T, sl_Packet_parts T, rfl, t, _, _, _, rfl, rfl, SqT.of h2, atI_nat (j := 1) rfl, k⟩
def sp_Packet_sheets (K : Fr) : Sp := fun vs H Q _ => ∃ (p : Addr) (D : PkS), vs = [.ref p] ∧ PkAt K H p D ∧ ∀ s, H s = some (.tup (D.sh.map V.str)) → Q (.ref s) H
theorem sc_Packet_sheets0 : FnScope ["self"] ["self"] (defScope s_Packet_sheets) := ⟨rfl, rfl, rfl, by decide +kernel, rfl, by decide +kernel, by decide +kernel⟩
theorem ok_Packet_sheets (T : Txt K mg w) : FnR P w K mg base CX0 1 (a_Packet_sheets K) (sp_Packet_sheets K) := by
  refine fnr0 (d_Packet_sheets T) sc_Packet_sheets0 (fun _ _ _ _ _ _ us hl => match us, hl with | [_], _ => rfl) (fun vs H Q E h => ?_) (fun cdv A outer s H vs Q E hr h => ?_)
  · obtain ⟨p, D, rfl, _⟩ := h
    rfl
  · obtain ⟨p, D, rfl, ⟨dx, t, s, h1, h2, h3⟩, k⟩ := h
    refine ⟨_, (pss_one (ps_ret (pe_ix ix_tup (SlX.pe_sl (pv 0)) pe_int (fun _ _ => rfl)))), ?_⟩
    exact ⟨_, rfl, p, _, dx, _, _, 0, _, rfl, h1, sc_Packet T, sl_Packet_parts T, rfl, t, _, _, _, rfl, rfl, SqT.of h2, atI_nat (j := 2) rfl, k s h3⟩
def sp_Packet_cells (K : Fr) : Sp := fun vs H Q _ => ∃ (p : Addr) (D : PkS), vs = [.ref p] ∧ PkAt K H p D ∧ D.ok ∧ Q (.int (D.w * D.h : Nat)) H
theorem sc_Packet_cells0 : FnScope ["self"] ["self"] (defScope s_Packet_cells) := ⟨rfl, rfl, rfl, by decide +kernel, rfl, by decide +kernel, by decide +kernel⟩
theorem ok_Packet_cells (T : Txt K mg w) : FnR P w K mg base CX0 1 (a_Packet_cells K) (sp_Packet_cells K) := by
  refine fnr0 (d_Packet_cells T) sc_Packet_cells0 (fun _ _ _ _ _ _ us hl => match us, hl with | [_], _ => rfl) (fun vs H Q E h => ?_) (fun cdv A outer s H vs Q E hr h => ?_)
  · obtain ⟨p, D, rfl, _⟩ := h
    rfl
  · obtain ⟨p, D, rfl, ⟨dx, t, s, h1, h2, h3⟩, o, k⟩ := h
    refine ⟨_, (pss_one (ps_ret (pe_op op_mul (pe_ix ix_tup (SlX.pe_sl (pv 0)) pe_int (fun _ _ => rfl)) (pe_ix ix_tup (SlX.pe_sl (pv 0)) pe_int (fun _ _ => rfl))))), ?_⟩
    have wp1 := o.w1; have wp3 := o.w3
    refine ⟨_, rfl, p, _, dx, _, _, 0, _, rfl, h1, sc_Packet T, sl_Packet_parts T, rfl, t, _, _, _, rfl, rfl, SqT.of h2, atI_nat (j := 0) rfl, ?_⟩
    refine ⟨_, rfl, p, _, dx, _, _, 0, _, rfl, h1, sc_Packet T, sl_Packet_parts T, rfl, t, _, _, _, rfl, rfl, SqT.of h2, atI_nat (j := 1) rfl, ?_⟩
    refine ⟨_, _, rfl, rfl, .inl ⟨by omega, by omega⟩, ?_⟩
    rw [Int.natCast_mul] at k
    exact k
def sp_Packet_len (K : Fr) : Sp := fun vs H Q _ => ∃ (p : Addr) (D : PkS), vs = [.ref p] ∧ PkAt K H p D ∧ Q (.int D.sh.length) H
theorem sc_Packet_len0 : FnScope ["self"] ["self"] (defScope s_Packet_len) := ⟨rfl, rfl, rfl, by decide +kernel, rfl, by decide +kernel, by decide +kernel⟩
theorem ok_Packet_len (T : Txt K mg w) : FnR P w K mg base CX0 1 (a_Packet_len K) (sp_Packet_len K) := by
  refine fnr0 (d_Packet_len T) sc_Packet_len0 (fun _ _ _ _ _ _ us hl => match us, hl with | [_], _ => rfl) (fun vs H Q E h => ?_) (fun cdv A outer s H vs Q E hr h => ?_)
  · obtain ⟨p, D, rfl, _⟩ := h
    rfl
  · obtain ⟨p, D, rfl, ⟨dx, t, s, h1, h2, h3⟩, k⟩ := h
    refine ⟨_, (pss_one (ps_ret (pe_callB call_len_seq (by rfl) (n_len T) boot_len (pa_cons (pe_ix ix_tup (SlX.pe_sl (pv 0)) pe_int (fun _ _ => rfl)) pa_nil)))), ?_⟩
    refine ⟨_, rfl, p, _, dx, _, _, 0, _, rfl, h1, sc_Packet T, sl_Packet_parts T, rfl, t, _, _, _, rfl, rfl, SqT.of h2, atI_nat (j := 2) rfl, ?_⟩
    refine ⟨s, _, rfl, .inr (SqT.of h3), ?_⟩
    rw [List.length_map]
    exact k
def sp_Packet_eq (K : Fr) : Sp := fun vs H Q _ => ∃ (p q : Addr) (D D' : PkS), vs = [.ref p, .ref q] ∧ PkAt K H p D ∧ PkAt K H q D' ∧ D.ok ∧ D'.ok ∧ ∀ b H', (D = D' → b = true) → Same H H' → Q (.bl b) H'
theorem sc_Packet_eq0 : FnScope ["self", "other"] ["self", "other"] (defScope s_Packet_eq) := ⟨rfl, rfl, rfl, by decide +kernel, rfl, by decide +kernel, by decide +kernel⟩
theorem ok_Packet_eq (T : Txt K mg w) : FnR P w K mg base CX0 3 (a_Packet_eq K) (sp_Packet_eq K) := by
  refine fnr0 (d_Packet_eq T) sc_Packet_eq0 (fun _ _ _ _ _ _ us hl => match us, hl with | [_, _], _ => rfl) (fun vs H Q E h => ?_) (fun cdv A outer s H vs Q E hr h => ?_)
  · obtain ⟨p, q, D, D', rfl, _⟩ := h
    rfl
  · obtain ⟨p, q, D, D', rfl, h1, h2, o1, o2, k⟩ := h
    refine ⟨_, (pss_one (ps_ret (pe_and (pe_callB (SlX.call_isiSl (.ref (C_Packet K))) (by rfl) (n_isinstance T) (by decide +kernel) (pa_cons (pv 1) (pa_cons (pe_glob (v := .ref _) rfl (g_Packet T) rfl) pa_nil))) (pe_one (pe_cmpR (op_eqD hr.units) (SlX.pe_sl (pv 0)) (pe_tup (pa_cons (SlX.pe_propSl (pv 1) (sc_Packet T) (pr_Packet_width T).at_ (pr_Packet_width T).get (pr_Packet_width T).tak (pr_Packet_width T).rec_ (ok_Packet_width T) (hr.mono (by decide)) pass0p) (pa_cons (SlX.pe_propSl (pv 1) (sc_Packet T) (pr_Packet_height T).at_ (pr_Packet_height T).get (pr_Packet_height T).tak (pr_Packet_height T).rec_ (ok_Packet_height T) (hr.mono (by decide)) pass0p) (pa_cons (SlX.pe_propSl (pv 1) (sc_Packet T) (pr_Packet_sheets T).at_ (pr_Packet_sheets T).get (pr_Packet_sheets T).tak (pr_Packet_sheets T).rec_ (ok_Packet_sheets T) (hr.mono (by decide)) pass0p) pa_nil)))) (nomark _)))))), ?_⟩
    obtain ⟨dx, t, s, a1, a2, a3⟩ := h1.parts
    obtain ⟨dy, u, v, b1, b2, b3⟩ := h2.parts
    refine ⟨_, rfl, q, _, dy, _, _, true, rfl, rfl, fun w' z => z, b1, sc_Packet T, isi_Packet T, ?_, ?_⟩
    · unfold PySem.W.kitOne
      rw [if_pos (beq_self_eq_true _)]
    refine ⟨true, rfl, iteT ?_⟩
    refine ⟨_, rfl, p, _, dx, _, _, 0, _, rfl, a1, sc_Packet T, sl_Packet_parts T, rfl, ?_⟩
    refine ⟨_, rfl, q, dy, _, rfl, b1, q, D', rfl, h2, ?_⟩
    refine ⟨_, rfl, q, dy, _, rfl, b1, q, D', rfl, h2, ?_⟩
    refine ⟨_, rfl, q, dy, _, rfl, b1, q, D', rfl, h2, fun s' hs' => ?_⟩
    refine ⟨by show 3 ≤ sizeLine; decide, fun r hr0 => ?_⟩
    have sm : Same H (upd H r (.tup [.int D'.w, .int D'.h, .ref s'])) := Same.new hr0
    refine ⟨D.data, D'.data, .tup (SqT.of (sm _ _ a2)) (.cons (.int _) (.cons (.int _) (.cons (.tup (SqT.of (sm _ _ a3)) (dpAll_str _)) .nil))), .tup (SqT.of upd_same) (.cons (.int _) (.cons (.int _) (.cons (.tup (SqT.of (sm _ _ hs')) (dpAll_str _)) .nil))), PkS.shaped o1, PkS.shaped o2, ?_⟩
    refine k _ _ (fun e => ?_) sm
    subst e
    exact SeqAt.eqv_refl _ (SeqAt.canLay_of_shaped (PkS.shaped o1))
end
end S57


set_option Elab.async false
set_option linter.all false
set_option maxRecDepth 100000
set_option maxHeartbeats 4000000
namespace S57
open PySem PySem.Spec PyProof.Rows L2
/-! ### the sides of a sheet -/
def sideStep (w h c : Nat) : List (Nat × Nat) := (if c - c / w * w < w - 1 then [(c, c + 1)] else []) ++ (if c + w < w * h then [(c, c + w)] else [])
def sidesM (w h : Nat) : List (Nat × Nat) := (List.range (w * h)).flatMap (sideStep w h)
def PairsAt (H : Hp) : List Addr → List (Nat × Nat) → Prop := Paired fun t p => H t = some (.tup [.int p.1, .int p.2])
theorem Paired.app {α β : Type} {F : α → β → Prop} : ∀ {a b : List α} {c d : List β}, Paired F a c → Paired F b d → Paired F (a ++ b) (c ++ d)
  | _, _, _, _, .nil, s => s
  | _, _, _, _, .cons r t, s => .cons r (Paired.app t s)
theorem PairsAt.mono {H H' : Hp} {ts : List Addr} {ps : List (Nat × Nat)} (h : PairsAt H ts ps) (s : Same H H') : PairsAt H' ts ps := Paired.mapP h fun _ _ e => s _ _ e
theorem Paired.get {α β : Type} {F : α → β → Prop} : ∀ {a : List α} {c : List β} {i : Nat} {x : α}, Paired F a c → a[i]? = some x → ∃ y, c[i]? = some y ∧ F x y
  | _, _, _, _, .nil, h => by simp at h
  | _, _, 0, x, .cons r _, h => by
    simp at h
    exact ⟨_, rfl, h ▸ r⟩
  | _, _, i + 1, x, .cons _ t, h => by
    obtain ⟨y, h1, h2⟩ := Paired.get (i := i) t (by simpa using h)
    exact ⟨y, by simpa using h1, h2⟩
theorem pairs_put {H H1 : Hp} {l t : Addr} {ts : List Addr} {ps : List (Nat × Nat)} (hl : H l = none) (s : Same H H1) (hL : H1 l = some (.lst (ts.map V.ref))) (hP : PairsAt H1 ts ps) (ht : H1 t = none) (x y : Nat) :
    ∃ H2, upd (upd H1 t (.tup [.int x, .int y])) l (.lst (ts.map V.ref ++ [V.ref t])) = H2 ∧ Same H H2 ∧ H2 l = some (.lst ((ts ++ [t]).map V.ref)) ∧ PairsAt H2 (ts ++ [t]) (ps ++ [(x, y)]) := by
  refine ⟨_, rfl, (s.new' ht).upd hl, by rw [upd_same, List.map_append]; rfl, ?_⟩
  have ntl : t ≠ l := fun e => by rw [e, hL] at ht; cases ht
  refine Paired.app (Paired.mapP hP fun a p e => ?_) (.cons (by rw [upd_ne ntl, upd_same]) .nil)
  rw [upd_ne (ne_of e hL (by intro z; cases z)), upd_ne (ne_of_none e ht)]
  exact e
theorem range_succ_flat {β : Type} (f : Nat → List β) (n : Nat) : (List.range (n + 1)).flatMap f = (List.range n).flatMap f ++ f n := by
  rw [List.range_succ, List.flatMap_append]
  simp
theorem sideStep_len (w h c : Nat) : (sideStep w h c).length ≤ 2 := by
  unfold sideStep
  split <;> split <;> simp
theorem sidesUp_len (w h : Nat) : ∀ n, ((List.range n).flatMap (sideStep w h)).length ≤ 2 * n
  | 0 => by simp
  | n + 1 => by
    rw [range_succ_flat, List.length_append]
    have := sidesUp_len w h n
    have := sideStep_len w h n
    omega
section
variable {P : Program} {w : World} {K : Fr} {mg : Str → Option Value} {base : Heap}
def sideI (a b : Nat) (l : Addr) (H : Hp) (i : Nat) : L2.St → Hp → Prop := fun σ H' => ∃ (ts : List Addr) (v : Option V), σ = [some (.int a), some (.int b), some (.ref l), v] ∧ Same H H' ∧ H' l = some (.lst (ts.map V.ref)) ∧ PairsAt H' ts ((List.range i).flatMap (sideStep a b))
theorem turn2 {K : Fr} {a b i : Nat} {l : Addr} {H H2 : Hp} {ts2 : List Addr} {D : Ends} (hl : H l = none) (hab : a * b ≤ 6) (hi : i < a * b) (a3 : a ≤ 3) (s2 : Same H H2) (hL2 : H2 l = some (.lst (ts2.map V.ref)))
    (hP2 : PairsAt H2 ts2 ((List.range i).flatMap (sideStep a b) ++ (if i - i / a * a < a - 1 then [(i, i + 1)] else []))) (hn2 : ts2.length ≤ 2 * i + 1) (hD : D.nx = sideI a b l H (i + 1)) :
    tIfS (tTest (tOp (rI0 fun i j => V.bl (decide (i < j))) (tOp (rI0 fun i j => V.int (i + j)) (tVar 3) (tVar 0)) (tOp (rI CMul fun i j => V.int (i * j)) (tVar 0) (tVar 1))))
      (tDrop (tBM K "list" rAppend (tVar 2) (tCons (tTup (tCons (tVar 3) (tCons (tOp (rI0 fun i j => V.int (i + j)) (tVar 3) (tVar 0)) tNil))) tNil))) tNext D [some (.int a), some (.int b), some (.ref l), some (.int i)] H2 := by
  refine ⟨_, rfl, _, rfl, _, _, rfl, rfl, _, rfl, _, rfl, _, _, rfl, rfl, .inl ⟨by omega, by omega⟩, _, _, rfl, rfl, _, rfl, ?_⟩
  rw [show decide ((i : Int) + a < (a : Int) * b) = decide (i + a < a * b) by rw [← Int.natCast_mul]; apply decide_eq_decide.mpr; omega]
  refine ite2 (fun h => ?_) (fun h => ?_)
  · have hh := of_decide_eq_true h
    refine ⟨_, rfl, .inl ⟨rfl, _, SqL.of hL2⟩, _, rfl, _, rfl, _, rfl, _, _, rfl, rfl, by show 2 ≤ sizeLine; decide, fun t ht => ?_⟩
    refine ⟨l, _, _, rfl, rfl, by rw [upd_ne (ne_of_none hL2 ht)]; exact hL2, by rw [List.length_map]; exact small1000 (by omega), ?_⟩
    obtain ⟨H3, x0, s3, hL3, hP3⟩ := pairs_put hl s2 hL2 hP2 ht i (i + a)
    have x0' : upd (upd H2 t (.tup [.int i, .int ((i : Int) + a)])) l (.lst (ts2.map V.ref ++ [V.ref t])) = H3 := x0
    show D.nx _ _
    rw [x0', hD]
    refine ⟨ts2 ++ [t], _, rfl, s3, hL3, ?_⟩
    rw [range_succ_flat]
    show PairsAt _ _ (_ ++ sideStep a b i)
    unfold sideStep
    rw [if_pos hh, ← List.append_assoc]
    exact hP3
  · have hh := of_decide_eq_false (Bool.not_eq_true _ ▸ h)
    show D.nx _ _
    rw [hD]
    refine ⟨ts2, _, rfl, s2, hL2, ?_⟩
    rw [range_succ_flat]
    show PairsAt _ _ (_ ++ sideStep a b i)
    unfold sideStep
    rw [if_neg hh, List.append_nil]
    exact hP2
def sp_sides : Sp := fun vs H Q _ => ∃ (a b : Nat), vs = [.int a, .int b] ∧ 1 ≤ a ∧ a ≤ 3 ∧ 1 ≤ b ∧ b ≤ 2 ∧ ∀ p ts H', Same H H' → H p = none → H' p = some (.lst (ts.map V.ref)) → PairsAt H' ts (sidesM a b) → Q (.ref p) H'
theorem sc_sides0 : FnScope ["width", "height", "found", "cell"] ["width", "height"] (defScope s_sides) := ⟨rfl, rfl, rfl, by decide +kernel, rfl, by decide +kernel, by decide +kernel⟩
theorem ok_sides (T : Txt K mg w) : FnR P w K mg base CX0 1 (a_sides K) (sp_sides) := by
  refine fnr0 (d_sides T) sc_sides0 (fun _ _ _ _ _ _ us hl => match us, hl with | [_, _], _ => rfl) (fun vs H Q E h => ?_) (fun cdv A outer s H vs Q E hr h => ?_)
  · obtain ⟨a, b, rfl, _⟩ := h
    rfl
  · obtain ⟨a, b, rfl, a1, a3, b1, b2, k⟩ := h
    refine ⟨_, (pss_cons (ps_set (i := 2) sc_sides0.nd rfl (by first | exact Or.inl rfl | exact Or.inr rfl) (pe_lst pa_nil))
    (pss_cons (ps_for PassesOwn.never rfl (pi_range1 (by rfl) (n_range T) (pa_cons (pe_op op_mul (pv 0) (pv 1)) pa_nil)) (pg_name (i := 3) sc_sides0.nd rfl (by first | exact Or.inl rfl | exact Or.inr rfl))
    (pss_cons (ps_if (pt_cmpR op_lt (pe_op op_sub (pv 3) (pe_op op_mul (pe_op op_fdivN (pv 3) (pv 0)) (pv 0))) (pe_op op_sub (pv 0) pe_int) (nomark _)) (pss_one (ps_expr (pe_bm PySem.F.plainAttrs_list PySem.F.slot_list_append PySem.F.type_list_append mt_append (pv 2) (pa_cons (pe_tup (pa_cons (pv 3) (pa_cons (pe_op op_add (pv 3) pe_int) pa_nil))) pa_nil)))) pss_nil)
    (pss_one (ps_if (pt_cmpR op_lt (pe_op op_add (pv 3) (pv 0)) (pe_op op_mul (pv 0) (pv 1)) (nomark _)) (pss_one (ps_expr (pe_bm PySem.F.plainAttrs_list PySem.F.slot_list_append PySem.F.type_list_append mt_append (pv 2) (pa_cons (pe_tup (pa_cons (pv 3) (pa_cons (pe_op op_add (pv 3) (pv 0)) pa_nil))) pa_nil)))) pss_nil))))
    (pss_one (ps_ret (pv 2))))), ?_⟩
    have hab : a * b ≤ 6 := Nat.le_trans (Nat.mul_le_mul a3 b2) (by decide)
    refine ⟨Nat.zero_le _, fun l hl => ?_⟩
    refine ⟨_, rfl, _, rfl, _, _, rfl, rfl, .inl ⟨by omega, by omega⟩, (a : Int) * b, rfl, by omega, by rw [← Int.natCast_mul]; omega, ?_⟩
    have e0 : ((a : Int) * b).toNat = a * b := by rw [← Int.natCast_mul]; exact Int.toNat_natCast _
    rw [e0]
    refine for_range (lo := 0) (n := a * b) (sideI a b l H)
      ⟨[], none, rfl, Same.new hl, upd_same, .nil⟩ ?_ ?_
    · rintro i σ H1 hi ⟨ts, v, rfl, s1, hL, hP⟩
      have hlen : ts.length ≤ 2 * i := by
        have := Paired.length hP
        have := sidesUp_len a b i
        omega
      have ei : ((0 : Int) + (i : Nat)) = (i : Int) := by omega
      show tSeq _ _ _ _ _
      have hcd : ((i : Int).fdiv (a : Int)) = ((i / a : Nat) : Int) := (Int.ofNat_fdiv i a).symm
      have hle : i / a * a ≤ i := Nat.div_mul_le_self i a
      rw [ei]
      refine ⟨_, rfl, _, rfl, _, rfl, _, _, rfl, rfl, ⟨by omega, by omega⟩, _, rfl, _, _, rfl, rfl, .inr ⟨by omega, by omega⟩, _, _, rfl, rfl, _, rfl, _, _, rfl, rfl, _, _, rfl, rfl, _, rfl, ?_⟩
      have e1 : decide ((i : Int) - (i : Int).fdiv a * a < (a : Int) - 1) = decide (i - i / a * a < a - 1) := by
        rw [hcd]
        have : ((i / a * a : Nat) : Int) = ((i / a : Nat) : Int) * a := Int.natCast_mul _ _
        apply decide_eq_decide.mpr
        omega
      show if decide ((i : Int) - (i : Int).fdiv a * a < (a : Int) - 1) = true then _ else _
      rw [e1]
      refine ite2 (fun h => ?_) (fun h => ?_)
      · have hh := of_decide_eq_true h
        refine ⟨_, rfl, .inl ⟨rfl, _, SqL.of hL⟩, _, rfl, _, rfl, _, _, rfl, rfl, by show 2 ≤ sizeLine; decide, fun t ht => ?_⟩
        refine ⟨l, _, _, rfl, rfl, by rw [upd_ne (ne_of_none hL ht)]; exact hL, by rw [List.length_map]; exact small1000 (by omega), ?_⟩
        obtain ⟨H2, x0, s2, hL2, hP2⟩ := pairs_put hl s1 hL hP ht i (i + 1)
        have x0' : upd (upd H1 t (.tup [.int i, .int ((i : Int) + 1)])) l (.lst (ts.map V.ref ++ [V.ref t])) = H2 := x0
        rw [x0']
        have hn2 : (ts ++ [t]).length ≤ 2 * i + 1 := by simp; omega
        have hQ : PairsAt H2 (ts ++ [t]) ((List.range i).flatMap (sideStep a b) ++ (if i - i / a * a < a - 1 then [(i, i + 1)] else [])) := by rw [if_pos hh]; exact hP2
        exact turn2 hl hab hi a3 s2 hL2 hQ hn2 (by exact rfl)
      · have hh := of_decide_eq_false (Bool.not_eq_true _ ▸ h)
        have hQ : PairsAt H1 ts ((List.range i).flatMap (sideStep a b) ++ (if i - i / a * a < a - 1 then [(i, i + 1)] else [])) := by rw [if_neg hh, List.append_nil]; exact hP
        exact turn2 hl hab hi a3 s1 hL hQ (by omega) (by exact rfl)
    · rintro σ H1 ⟨ts, v, rfl, s1, hL, hP⟩
      exact ⟨_, rfl, k l ts _ s1 hl hL hP⟩
end
end S57


set_option Elab.async false
set_option linter.all false
set_option maxRecDepth 100000
set_option maxHeartbeats 4000000
namespace L2
open PySem PySem.Spec PyProof.Rows
section
variable {X : Cx}
theorem ps_setDc {i : Nat} {y : Str} {py : Pos} {kx vx tg iter : Expr} {ifs : List Expr} {scope : Scope} {own : List (Str × Nat)} {pos spos : Pos} {wi : TI} {g : TG} {tt : TT} {tk tv : TE} (hc : X.calm = true) (hN : X.N.Nodup) (hy : X.N[i]? = some y) (hyl : X.env.scope.names.lookup y = some .local)
    (hsw : swapsWith (.DictComp kx vx [⟨tg, iter, ifs, 0⟩] scope pos) (some (.Name y py)) spos.line X.env = pure true) (hi : PI X tg iter wi) (ok : BlkOk X.N X.env.scope scope own)
    (hg : ∀ (s : Shared) (H : Hp) (C : Addr) (cl : List (Str × Addr)) (fp : List Addr), PG (X.blk s H scope (compEnvC scope cl C X.env) fp) tg g) (ht : ∀ (s : Shared) (H : Hp) (C : Addr) (cl : List (Str × Addr)) (fp : List Addr), PTs (X.blk s H scope (compEnvC scope cl C X.env) fp) ifs tt)
    (hk : ∀ (s : Shared) (H : Hp) (C : Addr) (cl : List (Str × Addr)) (fp : List Addr), PE (X.blk s H scope (compEnvC scope cl C X.env) fp) kx tk)
    (he : ∀ (s : Shared) (H : Hp) (C : Addr) (cl : List (Str × Addr)) (fp : List Addr), PE (X.blk s H scope (compEnvC scope cl C X.env) fp) vx tv) (hs : ∀ x, foldedSetIterable iter X.env x = pure x := by intro _; rfl) :
    PS X (.Assign [.Name y py] (.DictComp kx vx [⟨tg, iter, ifs, 0⟩] scope pos) spos) (tAsg (tDc wi g tt tk tv (own.map (·.2))) (gName i)) := by
  refine ⟨fun pins s σ H D I h => ?_⟩
  rw [exec_Assign_Name_used _ _ _ _ hsw]
  refine wpAny_bind (wpAny_standAt (wpAny_bind ?_))
  show wpAny _ X.A (do let _ ← comprehension (.DictComp kx vx [⟨tg, iter, ifs, 0⟩] scope pos) scope X.env (firstIterPos [⟨tg, iter, ifs, 0⟩] pos) newDict false (eval iter X.env) (some (assign (.Name y py) X.env))) _ _ s
  have h : tDc wi g tt tk tv (own.map (·.2)) σ H (fun x H1 => gName i x σ H1 D.nx) := h
  refine wpAny_bind (thn (dc_core (Qf := fun _ s' => SP X pins D .next s') hc hN I hi ok hg ht hk he hs h fun L C s' m H' I' q hn f => ?_) fun _ s' hq => wpAny_pure (wpAny_pure hq))
  show wpAny _ _ (assign (.Name y py) X.env (.ref L)) _ _ _
  refine wpAny_assign_Name (store_ok2 (v := V.ref L) I' hN hy (.inl hyl) rfl (fun s2 I2 ⟨a, sb, ha⟩ => ?_) (.inr hyl))
  obtain ⟨f0, f1, f2, f3, f4, f5⟩ := f
  have haC : C ≠ a := by
    rcases ha with z | z
    · rw [z]; exact f1
    · exact fun e => f4 y a z e.symm
  refine ⟨m, hn.sameBut sb haC, fun h3 sb3 => ?_⟩
  exact ⟨_, H', I2.turned (t' := s2.toks) (fun b o hb e => (sb3.2 b hb).trans e) f0 f1 f3 f4 f5, q⟩
theorem sw_trueD {kx vx : Expr} {gs : List Comprehension} {scope : Scope} {pos py : Pos} {y : Str} {l : Nat} {env : Env} (hk : env.scope.kind = .function) (hy : env.scope.names.lookup y = some .local) (hl : (py.line == pos.line) = true)
    (ha : (scope.names.any fun (n, k) => n == y && (k == .local || k == .cell)) = false) : swapsWith (.DictComp kx vx gs scope pos) (some (.Name y py)) l env = pure true := by
  have ky : env.kindOf y = some .local := hy
  have hb : env.blockKind = .function := by unfold Env.blockKind; rw [hk]; rfl
  unfold swapsWith
  simp only [hb, ky, ha, Expr.pos, hl]
  rfl
end
/-- a dict comprehension over any walk -/
theorem dc_it {J : It} {n : Nat} {G : Hp → Prop} {Y : Nat → Hp → V → Hp → Prop} (w : Walk J n G Y) {g : TG} {tt : TT} {tk tv : TE} {vs : List Nat} {σ : St} {H1 : Hp} {D : Addr} {Qd : Hp → Prop} (Pv : Nat → Hp → Prop) (h0 : Pv 0 (upd H1 D (.dK []))) (hG : ∀ i H, i ≤ n → Pv i H → G H)
    (hs : ∀ i x H H', i < n → Pv i H → Y i H x H' → g x (wipe σ vs) H' fun σ2 H2 => wipe σ2 vs = wipe σ vs ∧ tt σ2 H2 fun b H3 =>
      if b = true then tk σ2 H3 fun y H4 => tv σ2 H4 fun z H5 => ∃ kvs k, y = kV k ∧ H5 D = some (.dK kvs) ∧ kvs.length < sizeLine ∧ Pv (i + 1) (upd H5 D (.dK (putK kvs k z))) else Pv (i + 1) H3) (hd : ∀ H, Pv n H → Qd H) :
    ∃ W : Nat → Nat → Hp → Prop, (∃ m, W 0 m (upd H1 D (.dK []))) ∧ ∀ i m H, W i m H →
      (J.stop i H ∧ Qd H) ∨ (J.go i H ∧ ∃ Nx : Hp → Prop, (∀ H', Nx H' → ∃ m', m' < m ∧ W (i + 1) m' H') ∧ ∀ x H', J.yld i H x H' → g x (wipe σ vs) H' fun σ2 H2 => wipe σ2 vs = wipe σ vs ∧ tt σ2 H2 fun b H3 =>
        if b = true then tk σ2 H3 fun y H4 => tv σ2 H4 fun z H5 => ∃ kvs k, y = kV k ∧ H5 D = some (.dK kvs) ∧ kvs.length < sizeLine ∧ Nx (upd H5 D (.dK (putK kvs k z))) else Nx H3) := by
  refine ⟨fun i m H => m = n - i ∧ i ≤ n ∧ Pv i H, ⟨n, by simp, Nat.zero_le _, h0⟩, ?_⟩
  rintro i m H ⟨rfl, hi, p⟩
  have q := hG i H hi p
  by_cases hlt : i < n
  · refine .inr ⟨w.goes i H hlt q, Pv (i + 1), fun H' p' => ⟨n - (i + 1), by omega, rfl, hlt, p'⟩, fun x H' y => hs i x H H' hlt p (w.yields i H x H' hlt q y)⟩
  · have e : i = n := by omega
    subst e
    exact .inl ⟨w.stops H q, hd H p⟩
end L2

set_option Elab.async false
set_option linter.all false
set_option maxRecDepth 100000
set_option maxHeartbeats 4000000
namespace S57
open PySem PySem.Spec PyProof.Rows L2
/-! ### the mirror of parted -/
abbrev Nr := Nat → List Nat
abbrev Fd := List (Nat × Nat)
def addN (nr : Nr) (i x : Nat) : Nr := fun j => if j = i then nr j ++ [x] else nr j
def nearStep (eq : Nat → Nat → Bool) (nr : Nr) (p : Nat × Nat) : Nr := if eq p.1 p.2 = true then addN (addN nr p.1 p.2) p.2 p.1 else nr
def nearUp (eq : Nat → Nat → Bool) (ps : List (Nat × Nat)) (i : Nat) : Nr := (ps.take i).foldl (nearStep eq) fun _ => []
theorem nearUp_succ {eq : Nat → Nat → Bool} {ps : List (Nat × Nat)} {i : Nat} {p : Nat × Nat} (h : ps[i]? = some p) : nearUp eq ps (i + 1) = nearStep eq (nearUp eq ps i) p := by
  unfold nearUp
  rw [List.take_add_one, h, List.foldl_append]
  rfl
def lookF (F : Fd) (h : Nat) : Option Nat := (F.find? fun p => decide (p.1 = h)).map Prod.snd
def dfsM (nr : Nr) (c : Nat) : Nat → Fd → List Nat → Fd
  | 0, F, _ => F
  | k + 1, F, ws => match ws.getLast? with
    | none => F
    | some h => if (lookF F h).isSome = true then dfsM nr c k F ws.dropLast else dfsM nr c k (F ++ [(h, c)]) (ws.dropLast ++ nr h)
def partStep (nr : Nr) (s : Fd × Nat) (cell : Nat) : Fd × Nat := if (lookF s.1 cell).isSome = true then s else (dfsM nr s.2 200 s.1 [cell], s.2 + 1)
def partUp (nr : Nr) (i : Nat) : Fd × Nat := (List.range i).foldl (partStep nr) ([], 0)
theorem partUp_succ (nr : Nr) (i : Nat) : partUp nr (i + 1) = partStep nr (partUp nr i) i := by
  unfold partUp
  rw [List.range_succ, List.foldl_append]
  rfl
def partedM (w h : Nat) (eq : Nat → Nat → Bool) : List Nat := (List.range (w * h)).map fun i => (lookF (partUp (nearUp eq (sidesM w h) (sidesM w h).length) (w * h)).1 i).getD 0
theorem partedM_len (w h : Nat) (eq : Nat → Nat → Bool) : (partedM w h eq).length = w * h := by simp [partedM]
theorem lookF_snoc {F : Fd} {h c j : Nat} (hn : lookF F h = none) : lookF (F ++ [(h, c)]) j = if j = h then some c else lookF F j := by
  unfold lookF at *
  rw [List.find?_append]
  by_cases e : j = h
  · subst e
    rw [if_pos rfl]
    cases q : F.find? fun p => decide (p.1 = j) with
    | none => simp
    | some p => rw [q] at hn; simp at hn
  · rw [if_neg e]
    have : ¬ h = j := fun z => e z.symm
    cases q : F.find? fun p => decide (p.1 = j) with
    | none => simp [this]
    | some p => simp
def kvsF (F : Fd) : List (Key × V) := F.map fun p => (.inl (p.1 : Int), .int (p.2 : Nat))
theorem valV_F (F : Fd) (h : Nat) : valV (kvsF F) (.inl (h : Int)) = (lookF F h).map fun n => V.int (n : Nat) := by
  induction F with
  | nil => rfl
  | cons p r ih =>
    by_cases e : p.1 = h
    · have : valV (kvsF (p :: r)) (.inl (h : Int)) = some (.int (p.2 : Nat)) := valV_pos (p := ((.inl (p.1 : Int) : Key), V.int (p.2 : Nat))) (by rw [e])
      rw [this]
      simp [lookF, List.find?_cons, e]
    · have : valV (kvsF (p :: r)) (.inl (h : Int)) = valV (kvsF r) (.inl (h : Int)) := valV_neg (p := ((.inl (p.1 : Int) : Key), V.int (p.2 : Nat))) (by
        intro z
        have : (p.1 : Int) = h := Sum.inl.inj z
        omega)
      rw [this, ih]
      simp [lookF, List.find?_cons, e]
def cntF (n : Nat) (F : Fd) : Nat := ((List.range n).filter fun c => (lookF F c).isNone).length
theorem count_lt {p q : Nat → Bool} (hq : ∀ x, q x = true → p x = true) {y : Nat} (hy : p y = true) (hn : q y = false) : ∀ l : List Nat, (l.filter q).length ≤ (l.filter p).length ∧ (y ∈ l → (l.filter q).length < (l.filter p).length)
  | [] => ⟨Nat.le_refl _, fun h => by cases h⟩
  | x :: r => by
    obtain ⟨i1, i2⟩ := count_lt hq hy hn r
    refine ⟨?_, fun h => ?_⟩
    · by_cases h1 : q x = true
      · rw [List.filter_cons_of_pos h1, List.filter_cons_of_pos (hq _ h1)]; simp; exact i1
      · rw [List.filter_cons_of_neg h1]
        by_cases h2 : p x = true
        · rw [List.filter_cons_of_pos h2]; simp; omega
        · rw [List.filter_cons_of_neg h2]; exact i1
    · by_cases e : y = x
      · subst e
        rw [List.filter_cons_of_neg (by rw [hn]; simp), List.filter_cons_of_pos hy]
        simp
        omega
      · have hr : y ∈ r := by
          rcases List.mem_cons.mp h with z | z
          · exact absurd z e
          · exact z
        have := i2 hr
        by_cases h1 : q x = true
        · rw [List.filter_cons_of_pos h1, List.filter_cons_of_pos (hq _ h1)]; simp; exact this
        · rw [List.filter_cons_of_neg h1]
          by_cases h2 : p x = true
          · rw [List.filter_cons_of_pos h2]; simp; omega
          · rw [List.filter_cons_of_neg h2]; exact this
theorem cntF_snoc {n h c : Nat} {F : Fd} (hn : lookF F h = none) (hh : h < n) : cntF n (F ++ [(h, c)]) < cntF n F := by
  refine (count_lt (y := h) (fun x hx => ?_) (by simp [hn]) ?_ (List.range n)).2 (List.mem_range.mpr hh)
  · rw [lookF_snoc hn] at hx
    by_cases e : x = h
    · rw [if_pos e] at hx; simp at hx
    · rw [if_neg e] at hx; exact hx
  · rw [lookF_snoc hn, if_pos rfl]; rfl
theorem cntF_le (n : Nat) (F : Fd) : cntF n F ≤ n := by
  unfold cntF
  exact Nat.le_trans (List.length_filter_le _ _) (by simp)
theorem sides_lt : ∀ w, w ≤ 3 → ∀ h, h ≤ 2 → ∀ p ∈ sidesM w h, p.1 < w * h ∧ p.2 < w * h := by decide +kernel
/-! ### the lists of neighbours on the heap -/
def laK (la : Nat → Addr) (n : Nat) : List (Key × V) := (List.range n).map fun (i : Nat) => ((.inl (i : Int) : Key), V.ref (la i))
theorem laK_succ (la : Nat → Addr) (n : Nat) : laK la (n + 1) = laK la n ++ [((.inl (n : Int) : Key), V.ref (la n))] := by
  unfold laK
  rw [List.range_succ, List.map_append]
  rfl
theorem laK_val (la : Nat → Addr) : ∀ n k : Nat, valV (laK la n) (.inl (k : Int)) = if k < n then some (V.ref (la k)) else none
  | 0, k => by rw [if_neg (Nat.not_lt_zero _)]; rfl
  | n + 1, k => by
    have hn : valV (laK la n) (.inl (n : Int)) = none := by rw [laK_val la n n, if_neg (Nat.lt_irrefl _)]
    rw [laK_succ, valV_snoc _ _ _ _ hn, laK_val la n k]
    by_cases e : k = n
    · subst e; rw [if_pos rfl, if_pos (Nat.lt_succ_self _)]
    · rw [if_neg (by intro z; exact e (by have := Sum.inl.inj z; omega))]
      by_cases h : k < n
      · rw [if_pos h, if_pos (by omega)]
      · rw [if_neg h, if_neg (by omega)]
theorem laK_congr {la lb : Nat → Addr} {n : Nat} (h : ∀ i, i < n → la i = lb i) : laK la n = laK lb n := by
  unfold laK
  refine List.map_congr_left fun i hi => ?_
  rw [h i (List.mem_range.mp hi)]
def natsV (l : List Nat) : List V := l.map fun x => V.int (x : Nat)
theorem natsV_len (l : List Nat) : (natsV l).length = l.length := by simp [natsV]
theorem natsV_app (l : List Nat) (x : Nat) : natsV (l ++ [x]) = natsV l ++ [.int (x : Nat)] := by simp [natsV]
theorem natsV_apps (l r : List Nat) : natsV (l ++ r) = natsV l ++ natsV r := by simp [natsV]
structure NearAt (H0 H : Hp) (nd : Addr) (la : Nat → Addr) (nr : Nr) (n : Nat) : Prop where
  d0 : H0 nd = none
  d : H nd = some (.dK (laK la n))
  l0 : ∀ i, i < n → H0 (la i) = none
  l : ∀ i, i < n → H (la i) = some (.lst (natsV (nr i)))
  inj : ∀ i j, i < n → j < n → la i = la j → i = j
theorem NearAt.same {H0 H H' : Hp} {nd : Addr} {la : Nat → Addr} {nr : Nr} {n : Nat} (N : NearAt H0 H nd la nr n) (s : Same H H') : NearAt H0 H' nd la nr n :=
  ⟨N.d0, s _ _ N.d, N.l0, fun i hi => s _ _ (N.l i hi), N.inj⟩
theorem NearAt.add {H0 H : Hp} {nd : Addr} {la : Nat → Addr} {nr : Nr} {n i : Nat} (N : NearAt H0 H nd la nr n) (hi : i < n) (x : Nat) :
    NearAt H0 (upd H (la i) (.lst (natsV (nr i) ++ [.int (x : Nat)]))) nd la (addN nr i x) n := by
  refine ⟨N.d0, ?_, N.l0, fun j hj => ?_, N.inj⟩
  · rw [upd_ne (ne_of N.d (N.l i hi) (by intro z; cases z))]
    exact N.d
  · unfold addN
    by_cases e : j = i
    · subst e
      rw [upd_same, if_pos rfl, natsV_app]
    · rw [upd_ne (fun z => e (N.inj j i hj hi z)), if_neg e]
      exact N.l j hj
theorem NearAt.upd {H0 H : Hp} {nd x : Addr} {la : Nat → Addr} {nr : Nr} {n : Nat} {o : HO} (N : NearAt H0 H nd la nr n) (h1 : nd ≠ x) (h2 : ∀ j, j < n → la j ≠ x) : NearAt H0 (L2.upd H x o) nd la nr n :=
  ⟨N.d0, by rw [upd_ne h1]; exact N.d, N.l0, fun i hi => by rw [upd_ne (h2 i hi)]; exact N.l i hi, N.inj⟩
theorem NearAt.get {H0 H : Hp} {nd : Addr} {la : Nat → Addr} {nr : Nr} {n k : Nat} (N : NearAt H0 H nd la nr n) (h : k < n) : DGet H nd (.int (k : Int)) (some (.ref (la k))) := by
  have := DGet.k (k := (.inl (k : Int) : Key)) N.d
  rw [laK_val, if_pos h] at this
  exact this
theorem PairsAt.upd {H : Hp} {x : Addr} {ts : List Addr} {ps : List (Nat × Nat)} {xs : List V} {o : HO} (h : PairsAt H ts ps) (hx : H x = some (.lst xs)) : PairsAt (L2.upd H x o) ts ps :=
  Paired.mapP h fun a p e => by rw [upd_ne (ne_of e hx (by intro z; cases z))]; exact e
theorem nearUp_bd (eq : Nat → Nat → Bool) (ps : List (Nat × Nat)) (n : Nat) (hp : ∀ p ∈ ps, p.1 < n ∧ p.2 < n) : ∀ i j, (nearUp eq ps i j).length ≤ 2 * i ∧ ∀ x ∈ nearUp eq ps i j, x < n
  | 0, j => by
    show ([] : List Nat).length ≤ _ ∧ ∀ x ∈ ([] : List Nat), _
    simp
  | i + 1, j => by
    cases h : ps[i]? with
    | none =>
      have e : nearUp eq ps (i + 1) = nearUp eq ps i := by
        unfold nearUp
        rw [List.take_add_one, h]
        simp
      rw [e]
      have := nearUp_bd eq ps n hp i j
      exact ⟨by omega, this.2⟩
    | some p =>
      have hpp := hp p (List.mem_of_getElem? h)
      rw [nearUp_succ h]
      unfold nearStep
      obtain ⟨i1, i2⟩ := nearUp_bd eq ps n hp i j
      split
      · unfold addN
        refine ⟨?_, fun x hx => ?_⟩
        · split <;> split <;> first | (simp; omega) | omega
        · split at hx <;> split at hx
          · simp at hx; rcases hx with z | z | z
            · exact i2 x z
            · omega
            · omega
          · simp at hx; rcases hx with z | z
            · exact i2 x z
            · omega
          · simp at hx; rcases hx with z | z
            · exact i2 x z
            · omega
          · exact i2 x hx
      · exact ⟨by omega, i2⟩
theorem sides_len12 : ∀ w, w ≤ 3 → ∀ h, h ≤ 2 → (sidesM w h).length ≤ 7 := by decide +kernel
theorem dpAll_nat {K : Fr} {H : Hp} : ∀ ns : List Nat, DpAll K H (natsV ns) (ns.map fun x => PyData.int (x : Nat))
  | [] => .nil
  | n :: r => .cons (.int (n : Nat)) (dpAll_nat r)
theorem shaped_nats (ws : List Nat) : SeqAt.shaped (.list (ws.map fun x => PyData.int (x : Nat))) = true ∧ SeqAt.shaped (.tuple (ws.map fun x => PyData.int (x : Nat))) = true := by
  have h1 : PyData.canLayAll0 (ws.map fun x => PyData.int (x : Nat)) = true := by
    have := lay_int (ws.map fun x => ((x : Nat) : Int))
    rw [List.map_map] at this
    exact this
  have h2 : PyData.depthAll (ws.map fun x => PyData.int (x : Nat)) = 0 := by
    have := dep_int (ws.map fun x => ((x : Nat) : Int))
    rw [List.map_map] at this
    exact this
  unfold SeqAt.shaped
  have e1 : (PyData.list (ws.map fun x => PyData.int (x : Nat))).canLay0 = true := h1
  have e2 : (PyData.tuple (ws.map fun x => PyData.int (x : Nat))).canLay0 = true := h1
  have e3 : (PyData.list (ws.map fun x => PyData.int (x : Nat))).depth = 1 := by show PyData.depthAll _ + 1 = 1; rw [h2]
  have e4 : (PyData.tuple (ws.map fun x => PyData.int (x : Nat))).depth = 1 := by show PyData.depthAll _ + 1 = 1; rw [h2]
  rw [e1, e2, e3, e4]
  exact ⟨rfl, rfl⟩
theorem eqvAll_nilR : ∀ ws : List Nat, PyData.eqvAll (ws.map fun x => PyData.int (x : Nat)) [] = ws.isEmpty
  | [] => by simp [PyData.eqvAll]
  | _ :: _ => by simp [PyData.eqvAll]
theorem natsV_last {ws : List Nat} (h : ws ≠ []) : ∃ x, ws.getLast? = some x ∧ (natsV ws)[(natsV ws).length - 1]? = some (.int (x : Nat)) := by
  refine ⟨ws.getLast h, List.getLast?_eq_some_getLast h, ?_⟩
  have := List.getLast?_eq_some_getLast h
  rw [List.getLast?_eq_getElem?] at this
  rw [natsV_len]
  unfold natsV
  rw [List.getElem?_map, this]
  rfl
theorem natsV_drop (ws : List Nat) : (natsV ws).dropLast = natsV ws.dropLast := by
  unfold natsV
  rw [List.map_dropLast]
/-! ### the marks -/
inductive MarkV (H : Hp) : V → PyData → Prop
  | int (i : Int) : MarkV H (.int i) (.int i)
  | pair {t : Addr} {i j : Int} (h : H t = some (.tup [.int i, .int j])) : MarkV H (.ref t) (.tuple [.int i, .int j])
theorem MarkV.mono {H H' : Hp} {x : V} {d : PyData} (h : MarkV H x d) (s : Same H H') : MarkV H' x d := by
  cases h with
  | int i => exact .int i
  | pair h => exact .pair (s _ _ h)
theorem MarkV.dp {K : Fr} {H : Hp} {x : V} {d : PyData} (h : MarkV H x d) : Dp K H x d := by
  cases h with
  | int i => exact .int i
  | pair h => exact .tup (SqT.of h) (.cons (.int _) (.cons (.int _) .nil))
theorem MarkV.shaped {H : Hp} {x : V} {d : PyData} (h : MarkV H x d) : SeqAt.shaped d = true := by
  cases h with
  | int i => rfl
  | pair h => rfl
def eqOf (ds : List PyData) (i j : Nat) : Bool := match ds[i]?, ds[j]? with
  | some a, some b => a.eqv b
  | _, _ => false
/-- one turn of the walk through the cells that hang together -/
structure DfsI (nr : Nr) (c n : Nat) (F0 Ff : Fd) (cell : Nat) (F : Fd) (ws : List Nat) : Prop where
  run : ∃ k, cntF n F * 30 + ws.length ≤ k ∧ dfsM nr c k F ws = Ff
  len : F.length + cntF n F ≤ n
  lt : ∀ x ∈ ws, x < n
  wl : cntF n F * 30 + ws.length ≤ 200
  has : cell ∈ ws ∨ (lookF F cell).isSome = true
  old : ∀ j, (lookF F0 j).isSome = true → (lookF F j).isSome = true
theorem DfsI.fin {nr : Nr} {c n : Nat} {F0 Ff : Fd} {cell : Nat} {F : Fd} (h : DfsI nr c n F0 Ff cell F []) : F = Ff ∧ (lookF F cell).isSome = true := by
  obtain ⟨⟨k, _, e⟩, _, _, _, h, _⟩ := h
  refine ⟨?_, by rcases h with h | h; cases h; exact h⟩
  cases k with
  | zero => exact e
  | succ k => exact e
theorem DfsI.step {nr : Nr} {c n : Nat} {F0 Ff : Fd} {cell : Nat} {F : Fd} {ws : List Nat} {h : Nat} (I : DfsI nr c n F0 Ff cell F ws) (hl : ws.getLast? = some h) (hnr : ∀ j x, x ∈ nr j → x < n) (hln : ∀ j, (nr j).length ≤ 24) :
    h < n ∧ ((lookF F h).isSome = true → DfsI nr c n F0 Ff cell F ws.dropLast ∧ cntF n F * 30 + ws.dropLast.length < cntF n F * 30 + ws.length) ∧
    (lookF F h = none → DfsI nr c n F0 Ff cell (F ++ [(h, c)]) (ws.dropLast ++ nr h) ∧ cntF n (F ++ [(h, c)]) * 30 + (ws.dropLast ++ nr h).length < cntF n F * 30 + ws.length ∧ (ws.dropLast ++ nr h).length ≤ 200) := by
  obtain ⟨⟨k, hk, e⟩, hle, hlt, hwl, hhas, hold⟩ := I
  have hne : ws ≠ [] := by intro z; subst z; cases hl
  have hmem : h ∈ ws := List.mem_of_getLast? hl
  have hlen : ws.dropLast.length + 1 = ws.length := by
    rw [List.length_dropLast]
    have := List.length_pos_iff.mpr hne
    omega
  have hsub : ∀ x ∈ ws.dropLast, x ∈ ws := fun x hx => List.dropLast_subset _ hx
  have hsplit : ws = ws.dropLast ++ [h] := (List.dropLast_concat_getLast hne).symm.trans (by
    have := List.getLast?_eq_some_getLast hne
    rw [hl] at this
    rw [Option.some.inj this])
  refine ⟨hlt _ hmem, fun hs => ?_, fun hs => ?_⟩
  · cases k with
    | zero => omega
    | succ k =>
      rw [dfsM, hl] at e
      dsimp only at e
      rw [if_pos hs] at e
      refine ⟨⟨⟨k, by omega, e⟩, hle, fun x hx => hlt _ (hsub _ hx), by omega, ?_, hold⟩, by omega⟩
      rcases hhas with z | z
      · rw [hsplit] at z
        rcases List.mem_append.mp z with z | z
        · exact .inl z
        · rw [List.mem_singleton.mp z]; exact .inr hs
      · exact .inr z
  · have hc : cntF n (F ++ [(h, c)]) < cntF n F := cntF_snoc hs (hlt _ hmem)
    have hla := hln h
    have hap : (ws.dropLast ++ nr h).length = ws.dropLast.length + (nr h).length := List.length_append
    have hF : (F ++ [(h, c)]).length = F.length + 1 := by simp
    cases k with
    | zero => omega
    | succ k =>
      rw [dfsM, hl] at e
      dsimp only at e
      rw [if_neg (by rw [hs]; simp)] at e
      refine ⟨⟨⟨k, by omega, e⟩, by omega, fun x hx => ?_, by omega, ?_, fun j hj => ?_⟩, by omega, by omega⟩
      · rcases List.mem_append.mp hx with z | z
        · exact hlt _ (hsub _ z)
        · exact hnr _ _ z
      · by_cases ec : cell = h
        · right; rw [lookF_snoc hs, if_pos ec]; rfl
        · rcases hhas with z | z
          · rw [hsplit] at z
            rcases List.mem_append.mp z with z | z
            · exact .inl (List.mem_append_left _ z)
            · exact absurd (List.mem_singleton.mp z) ec
          · right; rw [lookF_snoc hs, if_neg ec]; exact z
      · rw [lookF_snoc hs]
        split
        · rfl
        · exact hold j hj
theorem DfsI.start {nr : Nr} {c n : Nat} {F : Fd} {cell : Nat} (hn : n ≤ 6) (hc : cell < n) (hl : F.length + cntF n F ≤ n) : DfsI nr c n F (dfsM nr c 200 F [cell]) cell F [cell] := by
  have := cntF_le n F
  refine ⟨⟨200, by simp; omega, rfl⟩, hl, fun x hx => by rw [List.mem_singleton.mp hx]; exact hc, by simp; omega, .inl (by simp), fun _ h => h⟩
section
variable {P : Program} {w : World} {K : Fr} {mg : Str → Option Value} {base : Heap}
def sp_parted : Sp := fun vs H Q _ => ∃ (a b : Nat) (m : Addr) (ms : List V) (ds : List PyData), vs = [.int a, .int b, .ref m] ∧ 1 ≤ a ∧ a ≤ 3 ∧ 1 ≤ b ∧ b ≤ 2 ∧ H m = some (.tup ms) ∧ Paired (MarkV H) ms ds ∧ ms.length = a * b ∧
  ∀ p H', Same H H' → H p = none → H' p = some (.tup (natsV (partedM a b (eqOf ds)))) → Q (.ref p) H'
theorem sc_parted0 : FnScope ["width", "height", "marks", "near", "one", "other", "found", "count", "cell", "waiting", "here"] ["width", "height", "marks"] (defScope s_parted) := ⟨rfl, rfl, rfl, by decide +kernel, rfl, by decide +kernel, by decide +kernel⟩
theorem ok_parted (T : Txt K mg w) : FnR P w K mg base CX0 2 (a_parted K) (sp_parted) := by
  refine fnr0 (d_parted T) sc_parted0 (fun _ _ _ _ _ _ us hl => match us, hl with | [_, _, _], _ => rfl) (fun vs H Q E h => ?_) (fun cdv A outer s H vs Q E hr h => ?_)
  · obtain ⟨a, b, m, ms, ds, rfl, _⟩ := h
    rfl
  · obtain ⟨a, b, m, ms, ds, rfl, a1, a3, b1, b2, hm, hmd, hml, k⟩ := h
    refine ⟨_, (pss_cons (ps_setDc (i := 3) (own := [("cell", 8)]) (g := gName 8) (tt := tYes) rfl sc_parted0.nd rfl rfl (sw_trueD rfl rfl rfl (by decide +kernel)) (pi_range1 (by rfl) (n_range T) (pa_cons (pe_op op_mul (pv 0) (pv 1)) pa_nil)) (blkOk_by (own := [("cell", 8)]) (N := ["width", "height", "marks", "near", "one", "other", "found", "count", "cell", "waiting", "here"]) (sc := defScope s_parted) (by decide +kernel)) (fun _ _ _ _ _ => (pg_name (i := 8) sc_parted0.nd rfl (by first | exact Or.inl rfl | exact Or.inr rfl))) (fun _ _ _ _ _ => pts_nil) (fun _ _ _ _ _ => (pv 8)) (fun _ _ _ _ _ => (pe_lst pa_nil)))
    (pss_cons (ps_for PassesOwn.never rfl (pi_list (pe_g (ok_sides T) (hr.mono (by decide)) (g_sides T) (kp_sides T) pass0 (pa_cons (pv 0) (pa_cons (pv 1) pa_nil)))) (pg_tup rfl (pgs_cons (pg_name (i := 4) sc_parted0.nd rfl (by first | exact Or.inl rfl | exact Or.inr rfl)) (pgs_cons (pg_name (i := 5) sc_parted0.nd rfl (by first | exact Or.inl rfl | exact Or.inr rfl)) pgs_nil)))
    (pss_one (ps_if (pt_cmpR (op_eqD hr.units) (pe_ix ix_tup (pv 2) (pv 4) (fun _ _ => rfl)) (pe_ix ix_tup (pv 2) (pv 5) (fun _ _ => rfl)) (nomark _)) (pss_cons (ps_expr (pe_bm PySem.F.plainAttrs_list PySem.F.slot_list_append PySem.F.type_list_append mt_append (pe_dget (hu_of hr) (pv 3) (pv 4) (fun _ _ => rfl)) (pa_cons (pv 5) pa_nil)))
    (pss_one (ps_expr (pe_bm PySem.F.plainAttrs_list PySem.F.slot_list_append PySem.F.type_list_append mt_append (pe_dget (hu_of hr) (pv 3) (pv 5) (fun _ _ => rfl)) (pa_cons (pv 4) pa_nil))))) pss_nil)))
    (pss_cons (ps_asg (pe_tup (pa_cons pe_dnewK (pa_cons pe_int pa_nil))) (pg_tup rfl (pgs_cons (pg_name (i := 6) sc_parted0.nd rfl (by first | exact Or.inl rfl | exact Or.inr rfl)) (pgs_cons (pg_name (i := 7) sc_parted0.nd rfl (by first | exact Or.inl rfl | exact Or.inr rfl)) pgs_nil))))
    (pss_cons (ps_for PassesOwn.never rfl (pi_range1 (by rfl) (n_range T) (pa_cons (pe_op op_mul (pv 0) (pv 1)) pa_nil)) (pg_name (i := 8) sc_parted0.nd rfl (by first | exact Or.inl rfl | exact Or.inr rfl))
    (pss_one (ps_if (pt_cmp (pc_dnotin (hu_of hr) (pv 8) (pv 6))) (pss_cons (ps_set (i := 9) sc_parted0.nd rfl (by first | exact Or.inl rfl | exact Or.inr rfl) (pe_lst (pa_cons (pv 8) pa_nil)))
    (pss_cons (ps_while PassesOwn.never (pt_cmpR (op_neD hr.units) (pv 9) (pe_lst pa_nil) (nomark _))
    (pss_cons (ps_set (i := 10) sc_parted0.nd rfl (by first | exact Or.inl rfl | exact Or.inr rfl) (pe_bm0 PySem.F.plainAttrs_list PySem.F.slot_list_pop PySem.F.type_list_pop mt_pop (pv 9)))
    (pss_one (ps_if (pt_cmp (pc_dnotin (hu_of hr) (pv 10) (pv 6))) (pss_cons (ps_dput (hu_of hr) (pv 6) (pv 10) (pv 7) rfl)
    (pss_one (ps_expr (pe_bm PySem.F.plainAttrs_list PySem.F.slot_list_extend PySem.F.type_list_extend mt_extend (pv 9) (pa_cons (pe_dget (hu_of hr) (pv 3) (pv 10) (fun _ _ => rfl)) pa_nil))))) pss_nil))))
    (pss_one (ps_aug (i := 7) sc_parted0.nd rfl (by first | exact Or.inl rfl | exact Or.inr rfl) pe_int ip_add)))) pss_nil)))
    (pss_one (ps_ret (pe_callTy call_tuple_of (by rfl) (n_tuple T) (by decide +kernel) (pa_cons (pe_lc (own := [("cell", 8)]) (g := gName 8) (tt := tYes) rfl sc_parted0.nd (pi_range1 (by rfl) (n_range T) (pa_cons (pe_op op_mul (pv 0) (pv 1)) pa_nil)) (blkOk_by (own := [("cell", 8)]) (N := ["width", "height", "marks", "near", "one", "other", "found", "count", "cell", "waiting", "here"]) (sc := defScope s_parted) (by decide +kernel)) (fun _ _ _ _ _ => (pg_name (i := 8) sc_parted0.nd rfl (by first | exact Or.inl rfl | exact Or.inr rfl))) (fun _ _ _ _ _ => pts_nil) (fun _ _ _ _ _ => (pe_dget (hu_of hr) (pv 6) (pv 8) (fun _ _ => rfl)))) pa_nil)))))))), ?_⟩
    have hab : a * b ≤ 6 := Nat.le_trans (Nat.mul_le_mul a3 b2) (by decide)
    have e0 : ((a : Int) * b).toNat = a * b := by rw [← Int.natCast_mul]; exact Int.toNat_natCast _
    have eI : ((a : Int) * b) = ((a * b : Nat) : Int) := (Int.natCast_mul _ _).symm
    generalize hn : a * b = n at *
    have hab1 : 1 ≤ n := by rw [← hn]; exact Nat.mul_pos a1 b1
    refine ⟨_, rfl, _, rfl, _, _, rfl, rfl, .inl ⟨by omega, by omega⟩, (a : Int) * b, rfl, by omega, by omega, fun nd hnd => ?_⟩
    rw [e0]
    refine dc_it walk_range (fun i H' => ∃ la, Same H H' ∧ NearAt H H' nd la (fun _ => []) i) ⟨fun _ => nd, Same.new hnd, hnd, upd_same, fun i hi => absurd hi (Nat.not_lt_zero _), fun i hi => absurd hi (Nat.not_lt_zero _), fun i j hi => absurd hi (Nat.not_lt_zero _)⟩ (fun _ _ _ _ => trivial) ?_ ?_
    · rintro i x H0' H1 hi ⟨la, s1, N⟩ ⟨rfl, rfl⟩
      refine ⟨rfl, _, rfl, by show (0 : Nat) ≤ sizeLine; exact Nat.zero_le _, fun l hl => ?_⟩
      have nln : l ≠ nd := fun z => by rw [z, N.d] at hl; cases hl
      have nla : ∀ j, j < i → la j ≠ l := fun j hj z => by have := N.l j hj; rw [z, hl] at this; cases this
      have hv : valV (laK la i) (.inl (i : Int)) = none := by rw [laK_val, if_neg (Nat.lt_irrefl _)]
      have hl0 : H l = none := s1.free hl
      have N1 : upd H1 l (.lst []) nd = some (.dK (laK la i)) := by rw [upd_ne (Ne.symm nln)]; exact N.d
      refine ⟨laK la i, .inl (i : Int), by show V.int (0 + (i : Int)) = V.int i; rw [Int.zero_add], N1, by show ((List.range i).map _).length < _; rw [List.length_map, List.length_range]; exact small1000 (by omega), fun j => if j = i then l else la j, ?_, ?_⟩
      · exact ((s1.new' hl).upd hnd)
      · rw [putK_new _ hv]
        have ec : laK (fun j => if j = i then l else la j) (i + 1) = laK la i ++ [((.inl (i : Int) : Key), V.ref l)] := by
          rw [laK_succ, if_pos rfl, laK_congr fun j hj => if_neg (Nat.ne_of_lt hj)]
        refine ⟨hnd, by rw [upd_same, ec], fun j hj => ?_, fun j hj => ?_, fun j r hj hr e => ?_⟩
        · by_cases e : j = i
          · rw [if_pos e]; exact hl0
          · rw [if_neg e]; exact N.l0 j (by omega)
        · by_cases e : j = i
          · rw [if_pos e, upd_ne nln, upd_same]; rfl
          · rw [if_neg e]
            have hji : j < i := by omega
            rw [upd_ne (fun z => by have := N.l j hji; rw [z, N.d] at this; cases this), upd_ne (nla j hji)]
            exact N.l j hji
        · by_cases e1 : j = i <;> by_cases e2 : r = i
          · omega
          · rw [if_pos e1, if_neg e2] at e; exact absurd e.symm (nla r (by omega))
          · rw [if_neg e1, if_pos e2] at e; exact absurd e (nla j (by omega))
          · rw [if_neg e1, if_neg e2] at e; exact N.inj j r (by omega) (by omega) e
    rintro H1 ⟨la, s1, N1⟩
    refine ⟨_, rfl, _, rfl, a, b, rfl, a1, a3, b1, b2, fun sl ts H2 s2 hsl1 hsl hP => ?_⟩
    have N2 := N1.same s2
    have hS := s1.trans s2
    have hsla : ∀ j, j < n → la j ≠ sl := fun j hj z => by have := N1.l j hj; rw [z, hsl1] at this; cases this
    have hsl0 : H sl = none := s1.free hsl1
    have hps := sides_lt a a3 b b2
    rw [hn] at hps
    have hpl := sides_len12 a a3 b b2
    refine ⟨sl, rfl, ⟨_, SqL.of hsl⟩, ?_⟩
    have hlts : ts.length = (sidesM a b).length := Paired.length hP
    generalize hps' : sidesM a b = ps at *
    refine for_it (walk_list (xs := ts.map V.ref)) (fun i σ H' => ∃ v4 v5, σ = [some (.int a), some (.int b), some (.ref m), some (.ref nd), v4, v5, none, none, none, none, none] ∧ Same H H' ∧ NearAt H H' nd la (nearUp (eqOf ds) ps i) n ∧ H' sl = some (.lst (ts.map V.ref)) ∧ PairsAt H' ts ps)
      ⟨none, none, rfl, hS, N2, hsl, hP⟩ ?_ ?_ ?_
    · rintro i σ H' hi ⟨v4, v5, _, _, _, h, _⟩
      exact SqL.of h
    · rintro i x σ H3' H3 hi ⟨v4, v5, rfl, s3, N3, hL, hP3⟩ ⟨rfl, hx⟩
      rw [List.getElem?_map] at hx
      obtain ⟨t, ht, rfl⟩ := Option.map_eq_some_iff.mp hx
      obtain ⟨⟨p1, p2⟩, hp, hpt⟩ := Paired.get hP3 ht
      obtain ⟨hq1, hq2⟩ := hps _ (List.mem_of_getElem? hp)
      dsimp only at hpt hq1 hq2
      refine ⟨t, _, rfl, SqT.of hpt, rfl, _, _, rfl, _, _, rfl, rfl, ?_⟩
      obtain ⟨d1, hd1⟩ : ∃ d, ms[p1]? = some d := ⟨ms[p1], by simp [hml, hq1]⟩
      obtain ⟨d2, hd2⟩ : ∃ d, ms[p2]? = some d := ⟨ms[p2], by simp [hml, hq2]⟩
      obtain ⟨e1, he1, hm1⟩ := Paired.get hmd hd1
      obtain ⟨e2, he2, hm2⟩ := Paired.get hmd hd2
      have hm1 := hm1.mono s3
      have hm2 := hm2.mono s3
      refine ⟨_, rfl, _, rfl, m, ms, _, d1, rfl, rfl, SqT.of (s3 _ _ hm), atI_nat hd1, _, rfl, _, rfl, m, ms, _, d2, rfl, rfl, SqT.of (s3 _ _ hm), atI_nat hd2, e1, e2, hm1.dp, hm2.dp, hm1.shaped, hm2.shaped, _, rfl, ?_⟩
      have heq : eqOf ds p1 p2 = e1.eqv e2 := by unfold eqOf; rw [he1, he2]
      have hb := nearUp_bd (eqOf ds) ps n hps i
      have hz : ∀ j, (natsV (nearUp (eqOf ds) ps i j)).length < 1000 := fun j => by
        rw [natsV_len]
        have := (hb j).1
        rw [List.length_map] at hi
        omega
      refine ite2 (fun h => ?_) (fun h => ?_)
      · refine ⟨_, rfl, _, rfl, nd, _, rfl, N3.get hq1, .inl ⟨rfl, _, SqL.of (N3.l p1 hq1)⟩, _, rfl, la p1, _, _, rfl, rfl, N3.l p1 hq1, small1000 (Nat.le_of_lt (hz p1)), ?_⟩
        have N4 := N3.add hq1 p2
        have s4 : Same H (upd H3 (la p1) (.lst (natsV (nearUp (eqOf ds) ps i p1) ++ [.int (p2 : Nat)]))) := s3.upd (N3.l0 p1 hq1)
        have hz4 : (natsV (addN (nearUp (eqOf ds) ps i) p1 p2 p2)).length ≤ 1000 := by
          unfold addN
          split
          · rw [natsV_app, List.length_append]; have := hz p2; simp at *; omega
          · exact Nat.le_of_lt (hz p2)
        refine ⟨_, rfl, _, rfl, nd, _, rfl, N4.get hq2, .inl ⟨rfl, _, SqL.of (N4.l p2 hq2)⟩, _, rfl, la p2, _, _, rfl, rfl, N4.l p2 hq2, small1000 hz4, ?_⟩
        refine ⟨_, _, rfl, s4.upd (N3.l0 p2 hq2), ?_, ?_, ?_⟩
        · rw [nearUp_succ hp]
          unfold nearStep
          rw [if_pos (heq.trans h)]
          exact N4.add hq2 p1
        · rw [upd_ne (Ne.symm (hsla p2 hq2)), upd_ne (Ne.symm (hsla p1 hq1))]
          exact hL
        · exact (hP3.upd (N3.l p1 hq1)).upd (N4.l p2 hq2)
      · refine ⟨_, _, rfl, s3, ?_, hL, hP3⟩
        rw [nearUp_succ hp]
        unfold nearStep
        rw [if_neg (fun z => h (heq.symm.trans z))]
        exact N3
    rintro σ H3 ⟨v4, v5, rfl, s3, N3, _, _⟩
    have hlen' : (ts.map V.ref).length = ps.length := by rw [List.length_map, hlts]
    rw [hlen'] at N3
    have hb := nearUp_bd (eqOf ds) ps n hps ps.length
    generalize hnr : nearUp (eqOf ds) ps ps.length = nr at *
    have hres : partedM a b (eqOf ds) = (List.range n).map fun i => (lookF (partUp nr n).1 i).getD 0 := by
      unfold partedM
      rw [hps', hn, hnr]
    refine fun fd hfd => ⟨by show 2 ≤ sizeLine; decide, fun t0 ht0 => ⟨t0, _, rfl, SqT.of upd_same, rfl, _, _, rfl, _, _, rfl, rfl, ?_⟩⟩
    have hfd0 : H fd = none := s3.free hfd
    have nfd : nd ≠ fd := fun z => by rw [← z, N3.d] at hfd; cases hfd
    have hfl : ∀ j, j < n → la j ≠ fd := fun j hj z => by have := N3.l j hj; rw [z, hfd] at this; cases this
    have hft : fd ≠ t0 := fun z => by rw [← z, upd_same] at ht0; cases ht0
    have N4 : NearAt H (upd (upd H3 fd (.dK [])) t0 (.tup [.ref fd, .int 0])) nd la nr n := (N3.upd nfd hfl).same (Same.new ht0)
    have s4 : Same H (upd (upd H3 fd (.dK [])) t0 (.tup [.ref fd, .int 0])) := (s3.new' hfd).new' ht0
    have hF4 : upd (upd H3 fd (.dK [])) t0 (.tup [.ref fd, .int 0]) fd = some (.dK []) := by rw [upd_ne hft, upd_same]
    generalize upd (upd H3 fd (.dK [])) t0 (.tup [.ref fd, .int 0]) = H4 at *
    refine ⟨_, rfl, _, rfl, _, _, rfl, rfl, .inl ⟨by omega, by omega⟩, (a : Int) * b, rfl, by omega, by omega, ?_⟩
    rw [e0]
    refine for_range (lo := 0) (n := n) (fun i σ H' => ∃ v8 v9 v10, σ = [some (.int a), some (.int b), some (.ref m), some (.ref nd), v4, v5, some (.ref fd), some (.int (partUp nr i).2), v8, v9, v10] ∧ Same H H' ∧ NearAt H H' nd la nr n ∧ H' fd = some (.dK (kvsF (partUp nr i).1)) ∧
      (partUp nr i).1.length + cntF n (partUp nr i).1 ≤ n ∧ ∀ j, j < i → (lookF (partUp nr i).1 j).isSome = true)
      ⟨none, none, none, rfl, s4, N4, hF4, by show 0 + _ ≤ n; rw [Nat.zero_add]; exact cntF_le _ _, fun j hj => absurd hj (Nat.not_lt_zero _)⟩ ?_ ?_
    · rintro i σ H5 hi ⟨v8, v9, v10, rfl, s5, N5, hF5, hc5, ho5⟩
      have ei : ((0 : Int) + (i : Nat)) = (i : Int) := by omega
      rw [ei]
      rw [partUp_succ]
      unfold partStep
      generalize hst : partUp nr i = st at *
      obtain ⟨F0, c⟩ := st
      dsimp only at hF5 hc5 ho5 ⊢
      have hg5 := DGet.k (k := (.inl (i : Int) : Key)) hF5
      rw [valV_F] at hg5
      refine ⟨_, rfl, _, rfl, fd, _, rfl, hg5, _, rfl, ite2 (fun h => ?_) (fun h => ?_)⟩
      · have hno : ¬ (lookF F0 i).isSome = true := by
          intro z
          rw [Option.isSome_map, z] at h
          cases h
        rw [if_neg hno]
        refine ⟨_, rfl, by show 1 ≤ sizeLine; decide, fun wt hwt => ?_⟩
        have hwt0 : H wt = none := s5.free hwt
        have nwd : nd ≠ wt := fun z => by rw [← z, N5.d] at hwt; cases hwt
        have nwf : fd ≠ wt := fun z => by rw [← z, hF5] at hwt; cases hwt
        have hwl : ∀ j, j < n → la j ≠ wt := fun j hj z => by have := N5.l j hj; rw [z, hwt] at this; cases this
        generalize hFf : dfsM nr c 200 F0 [i] = Ff
        refine ⟨fun mm σ H' => ∃ F ws v10, σ = [some (.int a), some (.int b), some (.ref m), some (.ref nd), v4, v5, some (.ref fd), some (.int c), some (.int i), some (.ref wt), v10] ∧ Same H H' ∧ NearAt H H' nd la nr n ∧ H' fd = some (.dK (kvsF F)) ∧ H' wt = some (.lst (natsV ws)) ∧ DfsI nr c n F0 Ff i F ws ∧ mm = cntF n F * 30 + ws.length,
          ⟨_, F0, [i], v10, rfl, s5.new' hwt, N5.upd nwd hwl, by rw [upd_ne nwf]; exact hF5, upd_same, hFf ▸ DfsI.start hab hi hc5, rfl⟩, ?_⟩
        rintro mm σ H6 ⟨F, ws, v10', rfl, s6, N6, hF6, hW6, D6, rfl⟩
        refine ⟨_, rfl, Nat.zero_le _, fun e he => ⟨_, .list [], .lst (SqL.of (by rw [upd_ne (ne_of_none hW6 he)]; exact hW6)) (dpAll_nat ws), .lst (SqL.of upd_same) .nil, (shaped_nats ws).1, rfl, _, rfl, ?_⟩⟩
        have sE : Same H6 (upd H6 e (.lst [])) := Same.new he
        have N7 := N6.same sE
        have s7 := s6.trans sE
        have hF7 := sE _ _ hF6
        have hW7 := sE _ _ hW6
        generalize upd H6 e (.lst []) = H7 at *
        have ev : PyData.eqv (.list (ws.map fun x => PyData.int (x : Nat))) (.list []) = ws.isEmpty := by
          rw [← eqvAll_nilR]
          simp [PyData.eqv]
        rw [ev]
        refine ite2 (fun hne => ?_) (fun hne => ?_)
        · have hws : ws ≠ [] := by
            intro z
            subst z
            cases hne
          obtain ⟨x, hx1, hx2⟩ := natsV_last hws
          obtain ⟨hxn, hst1, hst2⟩ := D6.step hx1 (fun j y hy => (hb j).2 y hy) (fun j => by have := (hb j).1; omega)
          refine ⟨fun σ' H' => ∃ m', m' < cntF n F * 30 + ws.length ∧ ∃ F ws v10, σ' = [some (.int a), some (.int b), some (.ref m), some (.ref nd), v4, v5, some (.ref fd), some (.int c), some (.int i), some (.ref wt), v10] ∧ Same H H' ∧ NearAt H H' nd la nr n ∧ H' fd = some (.dK (kvsF F)) ∧ H' wt = some (.lst (natsV ws)) ∧ DfsI nr c n F0 Ff i F ws ∧ m' = cntF n F * 30 + ws.length, fun _ _ z => z, ?_⟩
          refine ⟨_, rfl, .inl ⟨rfl, _, SqL.of hW7⟩, wt, natsV ws, .int (x : Nat), rfl, rfl, hW7, hx2, ?_⟩
          rw [natsV_drop]
          have N8 : NearAt H (upd H7 wt (.lst (natsV ws.dropLast))) nd la nr n := N7.upd nwd hwl
          have s8 : Same H (upd H7 wt (.lst (natsV ws.dropLast))) := s7.upd hwt0
          have hF8 : upd H7 wt (.lst (natsV ws.dropLast)) fd = some (.dK (kvsF F)) := by rw [upd_ne nwf]; exact hF7
          have hW8 : upd H7 wt (.lst (natsV ws.dropLast)) wt = some (.lst (natsV ws.dropLast)) := upd_same
          generalize upd H7 wt (.lst (natsV ws.dropLast)) = H8 at *
          have hg8 := DGet.k (k := (.inl (x : Int) : Key)) hF8
          rw [valV_F] at hg8
          refine ⟨_, rfl, _, rfl, fd, _, rfl, hg8, _, rfl, ite2 (fun h2 => ?_) (fun h2 => ?_)⟩
          · have hn8 : lookF F x = none := by
              cases q : lookF F x with
              | none => rfl
              | some y => rw [q] at h2; cases h2
            obtain ⟨D9, hlt9, hl9⟩ := hst2 hn8
            have hcF := D6.len
            refine ⟨_, rfl, _, rfl, _, rfl, fd, _, rfl, DPut.k (k := (.inl (x : Int) : Key)) hF8 (by show ((F.map _).length : Nat) < _; rw [List.length_map]; exact small1000 (by omega)), ?_⟩
            have hpk : putK (kvsF F) (.inl (x : Int)) (V.int c) = kvsF (F ++ [(x, c)]) := by
              rw [putK_new _ (by rw [valV_F, hn8]; rfl)]
              unfold kvsF
              rw [List.map_append]
              rfl
            rw [hpk]
            have N9 : NearAt H (upd H8 fd (.dK (kvsF (F ++ [(x, c)])))) nd la nr n := N8.upd nfd hfl
            have s9 : Same H (upd H8 fd (.dK (kvsF (F ++ [(x, c)])))) := s8.upd hfd0
            have hF9 : upd H8 fd (.dK (kvsF (F ++ [(x, c)]))) fd = some (.dK (kvsF (F ++ [(x, c)]))) := upd_same
            have hW9 : upd H8 fd (.dK (kvsF (F ++ [(x, c)]))) wt = some (.lst (natsV ws.dropLast)) := by rw [upd_ne (Ne.symm nwf)]; exact hW8
            generalize upd H8 fd (.dK (kvsF (F ++ [(x, c)]))) = H9 at *
            refine ⟨_, rfl, .inl ⟨rfl, _, SqL.of hW9⟩, _, rfl, _, rfl, nd, _, rfl, N9.get hxn, wt, la x, _, _, rfl, rfl, hW9, N9.l x hxn, ?_, ?_⟩
            · rw [natsV_len, natsV_len]
              rw [List.length_append] at hl9
              exact Nat.le_trans hl9 (by decide)
            · rw [← natsV_apps]
              exact ⟨_, hlt9, _, _, _, rfl, s9.upd hwt0, N9.upd nwd hwl, by rw [upd_ne nwf]; exact hF9, upd_same, D9, rfl⟩
          · have hs8 : (lookF F x).isSome = true := by
              cases q : lookF F x with
              | none => rw [q] at h2; exact absurd rfl h2
              | some y => rfl
            obtain ⟨D9, hlt9⟩ := hst1 hs8
            exact ⟨_, hlt9, _, _, _, rfl, s8, N8, hF8, hW8, D9, rfl⟩
        · have hws : ws = [] := by
            cases ws with
            | nil => rfl
            | cons y r => exact absurd rfl hne
          subst hws
          obtain ⟨hfin, hin⟩ := D6.fin
          refine ⟨_, rfl, _, _, rfl, rfl, ?_⟩
          refine ⟨_, _, _, rfl, s7, N7, ?_, ?_, fun j hj => ?_⟩
          · show H7 fd = some (.dK (kvsF Ff))
            rw [← hfin]; exact hF7
          · show Ff.length + cntF n Ff ≤ n
            rw [← hfin]; exact D6.len
          · show (lookF Ff j).isSome = true
            rw [← hfin]
            by_cases e : j = i
            · rw [e]; exact hin
            · exact D6.old j (ho5 j (by omega))
      · have hyes : (lookF F0 i).isSome = true := by
          cases q : lookF F0 i with
          | none => rw [q] at h; exact absurd rfl h
          | some y => rfl
        rw [if_pos hyes]
        refine ⟨_, _, _, rfl, s5, N5, hF5, hc5, fun j hj => ?_⟩
        by_cases e : j = i
        · rw [e]; exact hyes
        · exact ho5 j (by omega)
    rintro σ H5 ⟨v8, v9, v10, rfl, s5, N5, hF5, hc5, ho5⟩
    refine ⟨_, rfl, _, rfl, _, _, rfl, rfl, .inl ⟨by omega, by omega⟩, (a : Int) * b, rfl, by omega, by omega, fun Dl hDl => ?_⟩
    rw [e0]
    refine lc_map walk_range (natsV (partedM a b (eqOf ds))) (by rw [natsV_len, partedM_len, hn]) (by exact small1000 (by omega)) hDl (fun _ _ => trivial) (fun i x H6 H' C hi s6 y kk => ?_) mono_gName (fun H6 s6 hH => ?_)
    · obtain ⟨rfl, rfl⟩ := y
      have hg := DGet.k (k := (.inl (i : Int) : Key)) (s6 _ _ hF5)
      rw [valV_F] at hg
      obtain ⟨y, hy⟩ := Option.isSome_iff_exists.mp (ho5 i hi)
      rw [hy] at hg
      refine ⟨rfl, _, rfl, _, rfl, fd, _, rfl, by show DGet _ _ (V.int (0 + (i : Int))) _; rw [Int.zero_add]; exact hg, kk _ _ (Same.refl _) ?_⟩
      rw [hres]
      unfold natsV
      rw [List.getElem?_map, List.getElem?_map, List.getElem?_range hi]
      show some (V.int (((lookF _ i).getD 0 : Nat) : Int)) = _
      rw [hy]
      rfl
    · refine ⟨Dl, _, rfl, .inl ⟨SqL.of hH, fun r hr0 => ?_⟩⟩
      have s7 := s5.trans s6
      exact k r _ (s7.new' hr0) (s7.free hr0) upd_same
end
end S57


set_option Elab.async false
set_option linter.all false
set_option maxRecDepth 100000
set_option maxHeartbeats 4000000
namespace S57
open PySem PySem.Spec PyProof.Rows L2
/-! ### items that are held: enumerate and zip over any source -/
section
variable {prog : Program} {w : World} {A : Around} {E : Value → Shared → Prop} {s : Shared}
theorem enumHeld {e it T : Addr} {fp : List Addr} {n i : Nat} {P : Nat → Value → Prop} {St : Nat → Heap → Prop} {old : Value} {f : Bool} {oT : Obj} {Q : Option Value → Shared → Prop} (D : Draws prog w A.in1 it fp n P St)
    (he : IsEnumHeld s.heap e it i old T f) (hT : s.heap.get? T = some oT) (hTe : T ≠ e) (hTi : T ≠ it) (hst : St i s.heap) (hlt : i < n) (hne : e ≠ it) (hef : e ∉ fp)
    (hQ : ∀ x h' tk, P i x → IsEnumHeld h' e it ((i : Int) + 1) old T true → St (i + 1) h' → h'.get? s.heap.objs.size = some { cls := .type "tuple", data := .seq #[.int i tk, x] } → h'.objs.size = s.heap.objs.size + 1 →
      (∀ b o, b ≠ e → b ≠ it → s.heap.get? b = some o → h'.get? b = some o) → Q (some (.ref s.heap.objs.size)) { s with heap := h', toks := tk + 1 }) :
    wpAny (model prog w) A (pyNext (.ref e)) Q E s := by
  have hTy : s.TypeIs (.ref e) "enumerate" := ⟨_, he, rfl⟩
  unfold pyNext
  refine wpAny_bind (wpAny_attempt (wpAny_callSpecial?_slot (name := Str.ofString "__next__") hTy F.slot_enumerate_next (wpAny_call_entry F.slot_enumerate_next hTy F.entry_enumerate_next ?_ (F.args_enumerate_next_1 _))))
  show wpAny _ _ (field (.ref e) 2 >>= _) _ _ _
  refine wpAny_bind (wpAny_field he rfl (x := .ref it) rfl ?_)
  refine wpAny_bind (D.item i _ _ _ hlt hst fun x h₁ tk hP st₁ hs₁ => ?_)
  have he₁ : IsEnumHeld h₁ e it i old T f := (hs₁.2 e hne).trans he
  show wpAny _ _ (field (.ref e) 3 >>= _) _ _ _
  refine wpAny_bind (wpAny_field he₁ rfl (x := rawInt i) rfl ?_)
  show wpAny _ _ (field (.ref e) 4 >>= _) _ _ _
  refine wpAny_bind (wpAny_field he₁ rfl (x := .none) rfl ?_)
  show wpAny _ _ (mkInt i >>= _) _ _ _
  refine wpAny_bind (wpAny_mkInt ?_)
  show wpAny _ _ (setField (.ref e) 3 (rawInt ((i : Int) + 1)) >>= _) _ _ _
  refine wpAny_bind (wpAny_setField_rec he₁ (by simp) fun h₂ he₂ hs₂ => ?_)
  replace hs₂ : Heap.SameBut e h₁ h₂ := hs₂
  replace he₂ : IsEnumHeld h₂ e it ((i : Int) + 1) old T f := he₂
  show wpAny _ _ (setField (.ref e) 4 .none >>= _) _ _ _
  refine wpAny_bind (wpAny_setField_rec he₂ (by simp) fun h₃ he₃ hs₃ => ?_)
  replace hs₃ : Heap.SameBut e h₂ h₃ := hs₃
  replace he₃ : IsEnumHeld h₃ e it ((i : Int) + 1) old T f := he₃
  show wpAny _ _ (newTuple [.int i tk, x] >>= _) _ _ _
  refine wpAny_bind (wpAny_newTuple ?_)
  have he₄ : IsEnumHeld (h₃.push { cls := .type "tuple", data := .seq #[.int i tk, x] }) e it ((i : Int) + 1) old T f := Heap.get?_push_of_some _ he₃
  generalize hh₄ : h₃.push { cls := .type "tuple", data := .seq #[.int i tk, x] } = h₄ at he₄
  have hsz : h₃.objs.size = s.heap.objs.size := by rw [hs₃.1, hs₂.1, hs₁.1]
  have hel : e < s.heap.objs.size := Heap.lt_size he
  have ht₄ : h₄.get? s.heap.objs.size = some { cls := .type "tuple", data := .seq #[.int i tk, x] } := by rw [← hh₄, ← hsz]; exact Heap.get?_push_size _ rfl
  have hz₄ : h₄.objs.size = s.heap.objs.size + 1 := by rw [← hh₄, Heap.size_push, hsz]
  have hk₄ : ∀ b o, b ≠ e → b ≠ it → s.heap.get? b = some o → h₄.get? b = some o := fun b o hbe hbi hb => by
    rw [← hh₄]; exact Heap.get?_push_of_some _ (hs₃.extBut b o hbe (hs₂.extBut b o hbe (hs₁.extBut b o hbi hb)))
  have st₄ : St (i + 1) h₄ := D.frame _ _ _ st₁ fun b hb o y => by
    have hbe : b ≠ e := fun q => hef (q ▸ hb)
    rw [← hh₄]; exact Heap.get?_push_of_some _ (hs₃.extBut b o hbe (hs₂.extBut b o hbe y))
  show wpAny _ _ (Builtin.SmallTypes.ownedTupleIsFree (.ref e) >>= _) _ _ _
  rw [show (({ s with heap := h₃, toks := tk + 1 } : Shared).heap.objs.size) = s.heap.objs.size from hsz]
  refine wpAny_bind (wpAny_tupleHeld_enum (s := { s with heap := h₄, toks := tk + 1 }) he₄ (hk₄ T oT hTe hTi hT) fun h₅ he₅ hs₅ => ?_)
  replace hs₅ : Heap.SameBut e h₄ h₅ := hs₅
  simp only [Bool.false_eq_true, if_false]
  refine wpAny_pure ⟨_, rfl, wpAny_pure (hQ x h₅ tk hP he₅ (D.frame _ _ _ st₄ fun b hb o y => hs₅.extBut b o (fun q => hef (q ▸ hb)) y) (hs₅.extBut _ _ (Nat.ne_of_gt hel) ht₄) ?_ fun b o hbe hbi hb => hs₅.extBut b o hbe (hk₄ b o hbe hbi hb))⟩
  rw [hs₅.1, hz₄]
theorem enumHeldEnd {e it T : Addr} {fp : List Addr} {n : Nat} {i : Int} {P : Nat → Value → Prop} {St : Nat → Heap → Prop} {old : Value} {f : Bool} {Q : Option Value → Shared → Prop} (D : Draws prog w A.in1 it fp n P St)
    (he : IsEnumHeld s.heap e it i old T f) (hst : St n s.heap) (hQ : ∀ h', Heap.ExtBut it s.heap h' → Q none { s with heap := h' }) : wpAny (model prog w) A (pyNext (.ref e)) Q E s := by
  have hTy : s.TypeIs (.ref e) "enumerate" := ⟨_, he, rfl⟩
  unfold pyNext
  refine wpAny_bind (wpAny_attempt (wpAny_callSpecial?_slot (name := Str.ofString "__next__") hTy F.slot_enumerate_next (wpAny_call_entry F.slot_enumerate_next hTy F.entry_enumerate_next ?_ (F.args_enumerate_next_1 _))))
  show wpAny _ _ (field (.ref e) 2 >>= _) _ _ _
  refine wpAny_bind (wpAny_field he rfl (x := .ref it) rfl ?_)
  refine wpAny_bind (D.done _ _ _ hst fun h' x he' hx' => ?_)
  obtain ⟨o, ho, hc⟩ := hx'
  refine wpAny_bind (wpAny_isInstance (T := "StopIteration") (b := true) ⟨o, ho, hc⟩ isSubtype_stop ?_)
  exact wpAny_pure (hQ _ he')
theorem zipHeld {z TI TO T i1 i2 : Addr} {fp1 fp2 : List Addr} {n1 n2 i : Nat} {P1 P2 : Nat → Value → Prop} {St1 St2 : Nat → Heap → Prop} {f : Bool} {oT : Obj} {Q : Option Value → Shared → Prop} (S : ZipSep2 z TI TO i1 i2 fp1 fp2)
    (D1 : Draws prog w A.in1 i1 fp1 n1 P1 St1) (D2 : Draws prog w A.in1 i2 fp2 n2 P2 St2) (hz : IsZipHeld s.heap z TI TO T f) (hT : s.heap.get? T = some oT) (hTI : IsPair s.heap TI (.ref i1) (.ref i2)) (st1 : St1 i s.heap) (st2 : St2 i s.heap) (hlt1 : i < n1) (hlt2 : i < n2)
    (hQ : ∀ x y h' tk, P1 i x → P2 i y → IsZipHeld h' z TI TO T true → St1 (i + 1) h' → St2 (i + 1) h' → IsPair h' s.heap.objs.size x y → h'.objs.size = s.heap.objs.size + 1 →
      (∀ c o, c ≠ z → c ≠ i1 → c ≠ i2 → s.heap.get? c = some o → h'.get? c = some o) → Q (some (.ref s.heap.objs.size)) { s with heap := h', toks := tk }) :
    wpAny (model prog w) A (pyNext (.ref z)) Q E s := by
  have hTy : s.TypeIs (.ref z) "zip" := ⟨_, hz, rfl⟩
  unfold pyNext
  refine wpAny_bind (wpAny_attempt (wpAny_callSpecial?_slot (name := Str.ofString "__next__") hTy F.slot_zip_next (wpAny_call_entry F.slot_zip_next hTy F.entry_zip_next ?_ (F.args_zip_next_1 _))))
  show wpAny _ _ (field (.ref z) 2 >>= _) _ _ _
  refine wpAny_bind (wpAny_field hz rfl (x := .bool false) rfl ?_)
  show wpAny _ _ (field (.ref z) 3 >>= _) _ _ _
  refine wpAny_bind (wpAny_field hz rfl (x := .ref TI) rfl ?_)
  refine wpAny_bind (wpAny_seqItems hTI rfl ?_)
  show wpAny _ _ (Builtin.SmallTypes.ownedTupleIsFree (.ref z) >>= _) _ _ _
  refine wpAny_bind (wpAny_tupleHeld_zip hz hT fun h₁ hz₁ hs₁ => ?_)
  simp only [Bool.false_eq_true, if_false]
  refine wpAny_bind ?_
  rw [← Array.forIn_toList]
  simp only [List.forIn_cons, List.forIn_nil]
  refine wpAny_bind (wpAny_bind (wpAny_holding ?_))
  show wpAny _ _ (Builtin.SmallTypes.nextOf (.ref i1) >>= _) _ _ _
  refine wpAny_bind (D1.item i { s with heap := h₁ } _ _ hlt1 (D1.over st1 hs₁ S.zf1) fun x h₂ tk hx st1' hs₂ => wpAny_pure ?_)
  replace hs₂ : Heap.SameBut i1 h₁ h₂ := hs₂
  refine wpAny_pure ?_
  refine wpAny_bind (wpAny_bind (wpAny_holding ?_))
  show wpAny _ _ (Builtin.SmallTypes.nextOf (.ref i2) >>= _) _ _ _
  refine wpAny_bind (D2.item i { s with heap := h₂, toks := tk } _ _ hlt2 (D2.over (D2.over st2 hs₁ S.zf2) hs₂ S.sep1_2) fun y h₃ tk3 hy st2' hs₃ => wpAny_pure ?_)
  replace hs₃ : Heap.SameBut i2 h₂ h₃ := hs₃
  refine wpAny_pure (wpAny_pure ?_)
  show wpAny _ _ (newTuple [x, y] >>= _) _ _ _
  refine wpAny_bind (wpAny_newTuple ?_)
  have hsz : h₃.objs.size = s.heap.objs.size := by rw [hs₃.1, hs₂.1, hs₁.1]
  have hz₃ : IsZipHeld h₃ z TI TO T true := hs₃.extBut _ _ S.zi2 (hs₂.extBut _ _ S.zi1 hz₁)
  have hk : ∀ c o, c ≠ z → c ≠ i1 → c ≠ i2 → s.heap.get? c = some o → h₃.get? c = some o := fun c o c1 c2 c3 e => hs₃.extBut _ _ c3 (hs₂.extBut _ _ c2 (hs₁.extBut _ _ c1 e))
  have st1₃ : St1 (i + 1) h₃ := D1.over st1' hs₃ S.sep2_1
  refine wpAny_pure ⟨_, rfl, wpAny_pure ?_⟩
  show Q (some (.ref h₃.objs.size)) _
  have hp : IsPair (h₃.push { cls := .type "tuple", data := .seq #[x, y] }) h₃.objs.size x y := Heap.get?_push_size _ rfl
  have hz4 : (h₃.push { cls := .type "tuple", data := .seq #[x, y] }).objs.size = h₃.objs.size + 1 := Heap.size_push ..
  rw [hsz] at hp hz4 ⊢
  exact hQ x y _ tk3 hx hy (Heap.get?_push_of_some _ hz₃) (D1.frame _ _ _ st1₃ fun b _ o e => Heap.get?_push_of_some _ e) (D2.frame _ _ _ st2' fun b _ o e => Heap.get?_push_of_some _ e) hp hz4 fun c o c1 c2 c3 e => Heap.get?_push_of_some _ (hk c o c1 c2 c3 e)
theorem zipHeldEnd {z TI TO T i1 i2 : Addr} {fp1 fp2 : List Addr} {n : Nat} {P1 : Nat → Value → Prop} {St1 : Nat → Heap → Prop} {f : Bool} {oT : Obj} {Q : Option Value → Shared → Prop} (S : ZipSep2 z TI TO i1 i2 fp1 fp2)
    (D1 : Draws prog w A.in1 i1 fp1 n P1 St1) (hz : IsZipHeld s.heap z TI TO T f) (hT : s.heap.get? T = some oT) (hTI : IsPair s.heap TI (.ref i1) (.ref i2)) (st1 : St1 n s.heap)
    (hQ : ∀ h' tk, (∀ c o, c ≠ z → c ≠ i1 → c ≠ i2 → s.heap.get? c = some o → h'.get? c = some o) → Q none { s with heap := h', toks := tk }) :
    wpAny (model prog w) A (pyNext (.ref z)) Q E s := by
  have hTy : s.TypeIs (.ref z) "zip" := ⟨_, hz, rfl⟩
  unfold pyNext
  refine wpAny_bind (wpAny_attempt (wpAny_callSpecial?_slot (name := Str.ofString "__next__") hTy F.slot_zip_next (wpAny_call_entry F.slot_zip_next hTy F.entry_zip_next ?_ (F.args_zip_next_1 _))))
  show wpAny _ _ (field (.ref z) 2 >>= _) _ _ _
  refine wpAny_bind (wpAny_field hz rfl (x := .bool false) rfl ?_)
  show wpAny _ _ (field (.ref z) 3 >>= _) _ _ _
  refine wpAny_bind (wpAny_field hz rfl (x := .ref TI) rfl ?_)
  refine wpAny_bind (wpAny_seqItems hTI rfl ?_)
  show wpAny _ _ (Builtin.SmallTypes.ownedTupleIsFree (.ref z) >>= _) _ _ _
  refine wpAny_bind (wpAny_tupleHeld_zip hz hT fun h₁ hz₁ hs₁ => ?_)
  simp only [Bool.false_eq_true, if_false]
  refine wpAny_bind ?_
  rw [← Array.forIn_toList]
  simp only [List.forIn_cons, List.forIn_nil]
  refine wpAny_bind (wpAny_bind (wpAny_holding ?_))
  show wpAny _ _ (Builtin.SmallTypes.nextOf (.ref i1) >>= _) _ _ _
  refine wpAny_bind (D1.done { s with heap := h₁ } _ _ (D1.over st1 hs₁ S.zf1) fun h₂ e hs₂ hx' => ?_)
  obtain ⟨o, ho, hc⟩ := hx'
  refine wpAny_bind (wpAny_isInstance (T := "StopIteration") (b := true) ⟨o, ho, hc⟩ isSubtype_stop ?_)
  exact wpAny_pure (hQ h₂ _ fun c o c1 c2 _ x => hs₂ _ _ c2 (hs₁.extBut _ _ c1 x))
end
/-! ### an iterator of pairs, gone through into the list at S -/
structure PIt (P : Program) (w : World) (A : Around) (S I : Addr) (own : List Addr) (tn : String) (n : Nat) (Y : Nat → Value → Value → Prop) (St : Nat → Heap → Prop) : Prop where
  typ : ∀ i (s : Shared), St i s.heap → s.TypeIs (.ref I) tn
  live : ∀ i h, St i h → ∀ b ∈ own, b < h.objs.size
  frame : ∀ i h h', St i h → (∀ b o, b ≠ S → h.get? b = some o → h'.get? b = some o) → St i h'
  item : ∀ i (s : Shared) (Q : Option Value → Shared → Prop) (E : Value → Shared → Prop), i < n → St i s.heap → S < s.heap.objs.size →
    (∀ x y h' tk, Y i x y → St (i + 1) h' → IsTupOf2 h' s.heap.objs.size x y → (∀ b o, b ∉ own → s.heap.get? b = some o → h'.get? b = some o) → Q (some (.ref s.heap.objs.size)) { s with heap := h', toks := tk }) →
    wpAny (model P w) A (pyNext (.ref I)) Q E s
  done : ∀ (s : Shared) (Q : Option Value → Shared → Prop) (E : Value → Shared → Prop), St n s.heap →
    (∀ h' tk, (∀ b o, b ∉ own → s.heap.get? b = some o → h'.get? b = some o) → Q none { s with heap := h', toks := tk }) → wpAny (model P w) A (pyNext (.ref I)) Q E s
  self : ∀ i (s : Shared) (Q : Value → Shared → Prop) (E : Value → Shared → Prop), St i s.heap → Q (.ref I) s → wpAny (model P w) A (pyIter (.ref I)) Q E s
/-- the tuples at ts hold the pairs -/
def PairsV (H : Hp) (ts : List Addr) (xv yv : Nat → V) : Prop := ∀ j T, ts[j]? = some T → H T = some (.tup [xv j, yv j])
section
variable {X : Cx} {pins : List (Addr × Obj)} {σ : L2.St}
theorem fp_none {H H' : Hp} {own : List Addr} (h : ∀ b ∈ own, FpOk X pins H b) (hn : ∀ b ∈ own, H' b = none) : ∀ b ∈ own, FpOk X pins H' b := fun b hb => ⟨hn b hb, (h b hb).2⟩
theorem coll_loop {A : Around} {S I : Addr} {own : List Addr} {tn : String} {n : Nat} {Y : Nat → Value → Value → Prop} {St : Nat → Heap → Prop} {xv yv : Nat → V} {H0 : Hp} {R : Result → Shared → Prop} {res : Value}
    (W : PIt X.prog X.w A.in1 S I own tn n Y St) (hY : ∀ i a b, i < n → Y i a b → RelV (xv i) a ∧ RelV (yv i) b) (hn : n ≤ 1000) (h0 : H0 S = none)
    (hR : ∀ s' H' ts, Inv X pins σ H' s' → Same H0 H' → H' S = some (.lst (ts.map V.ref)) → ts.length = n → PairsV H' ts xv yv → R (.ok (.ret res)) s') :
    ∀ (k i : Nat) (s : Shared) (H : Hp) (ts : List Addr), n - i = k → i ≤ n → Inv X pins σ H s → (∀ b ∈ own, FpOk X pins H b) → St i s.heap → Same H0 H → H S = some (.lst (ts.map V.ref)) → ts.length = i → PairsV H ts xv yv →
      codeAny (model X.prog X.w) A (.builtin "list.extend.loop" ⟨[.ref S, .ref I, res], []⟩) R s := by
  intro k
  induction k with
  | zero =>
    intro i s H ts hk hi J hf hst hs hS hl hp
    have hin : i = n := by omega
    subst hin
    refine codeAny_builtin F.entry_extend_loop ?_
    rw [Around.under_plainId F.plain_extend_loop _]
    show wpAny _ A.in1 (pyNext (.ref I) >>= _) _ _ s
    refine wpAny_bind (W.done s _ _ hst fun h' tk hk => ?_)
    refine wpAny_pure (hR _ H ts ?_ hs hS hl hp)
    -- nothing tracked changed
    have nit : ∀ b u, H b = some u → b ∉ own := fun b u e z => by
      have q := (hf b z).1
      rw [q] at e; cases e
    exact J.turnedL hk hf
  | succ k ih =>
    intro i s H ts hk hi J hf hst hs hS hl hp
    have hlt : i < n := by omega
    refine codeAny_builtin F.entry_extend_loop ?_
    rw [Around.under_plainId F.plain_extend_loop _]
    show wpAny _ A.in1 (pyNext (.ref I) >>= _) _ _ s
    obtain ⟨z, its, c, r, hrl, e⟩ := J.lstM hS
    refine wpAny_bind (W.item i s _ _ hlt hst (Heap.lt_size e) fun x y h' tk hxy hst' hT hk' => ?_)
    obtain ⟨rx, ry⟩ := hY i x y hlt hxy
    have hfr : H s.heap.objs.size = none := J.hok.fresh (Nat.le_refl _)
    have new : ObjOk X.prog X.w (upd H s.heap.objs.size (.tup [xv i, yv i])) h' s.heap.objs.size (.tup [xv i, yv i]) :=
      ⟨by show 2 ≤ sizeLine; decide, [x, y], .cons rx (.cons ry .nil), ⟨_, hT, rfl, _, rfl⟩⟩
    have J1 : Inv X pins σ (upd H s.heap.objs.size (.tup [xv i, yv i])) { s with heap := h', toks := tk } := J.turnedNew hk' hf (Nat.le_refl _) new
    have nS : S ≠ s.heap.objs.size := fun q => by rw [q, hfr] at hS; cases hS
    have hS1 : upd H s.heap.objs.size (.tup [xv i, yv i]) S = some (.lst (ts.map V.ref)) := by rw [upd_ne nS]; exact hS
    obtain ⟨z1, its1, c1, r1, hrl1, e1⟩ := J1.lstM hS1
    show wpAny _ A.in1 (updateSeq S (·.push (.ref s.heap.objs.size)) >>= _) _ _ _
    have hsz : its1.length = i := by rw [← hrl1, List.length_map, hl]
    refine wpAny_bind ?_
    refine wpAny_updateSeq e1 rfl (wpAny_pure ⟨plainId_quiet F.plain_extend_loop _, ?_⟩) (by rw [List.size_toArray, hsz]; exact Nat.le_of_lt (small1000 (by omega))) (by show (its1.toArray.push _).size ≤ sizeLine + 1; rw [Array.size_push, List.size_toArray, hsz]; have := small1000 (n := i) (by omega); omega)
    have J2 := J1.lset (its' := its1 ++ [.ref s.heap.objs.size]) (ys := ts.map V.ref ++ [.ref s.heap.objs.size]) (f := fun a => a.push (.ref s.heap.objs.size)) (t' := tk) hS1 e1 (by simp) (r1.append (.cons (show RelV (V.ref s.heap.objs.size) (Value.ref s.heap.objs.size) from rfl) .nil)) (by rw [List.length_append, List.length_map, hl]; exact Nat.le_of_lt (small1000 (by simp; omega)))
    refine ih (i + 1) _ _ (ts ++ [s.heap.objs.size]) (by omega) hlt J2 (fp_none hf fun b hb => ?_) (W.frame _ _ _ hst' fun b o hb q => (Heap.get?_update_other _ _ (Ne.symm hb)).trans q) ?_ ?_ (by rw [List.length_append, hl]; rfl) ?_
    · have hbn := (hf b hb).1
      have b1 : b ≠ S := fun q => by rw [q, hS] at hbn; cases hbn
      have b2 : b ≠ s.heap.objs.size := Nat.ne_of_lt (W.live i _ hst b hb)
      rw [upd_ne b1, upd_ne b2]
      exact hbn
    · exact ((hs.new' hfr).upd h0)
    · rw [upd_same, List.map_append]; rfl
    · intro j T hj
      by_cases q : j < ts.length
      · rw [List.getElem?_append_left q] at hj
        have := hp j T hj
        rw [upd_ne (ne_of this hS (by intro z; cases z)), upd_ne (ne_of_none this hfr)]
        exact this
      · rw [List.getElem?_append_right (by omega)] at hj
        have ej : j = i := by
          have : j - ts.length < 1 := by
            rcases Nat.lt_or_ge (j - ts.length) 1 with q | q
            · exact q
            · rw [List.getElem?_eq_none (by simpa using q)] at hj; cases hj
          omega
        subst ej
        rw [show j - ts.length = 0 by omega] at hj
        cases hj
        rw [upd_ne (Ne.symm nS), upd_same]
end
end S57

set_option Elab.async false
set_option linter.all false
set_option maxRecDepth 100000
set_option maxHeartbeats 4000000
namespace S57
open PySem PySem.Spec PyProof.Rows L2
theorem zip_no_len : typeLookup (.type "zip") "__len__" = pure none := am_miss_of_fast (by decide +kernel)
theorem zip_no_hint : typeLookup (.type "zip") "__length_hint__" = pure none := am_miss_of_fast (by decide +kernel)
theorem enum_no_len : typeLookup (.type "enumerate") "__len__" = pure none := am_miss_of_fast (by decide +kernel)
theorem enum_no_hint : typeLookup (.type "enumerate") "__length_hint__" = pure none := am_miss_of_fast (by decide +kernel)
section
variable {X : Cx} {pins : List (Addr × Obj)} {σ : L2.St} {A : Around} {S I : Addr} {own : List Addr} {tn : String} {n : Nat} {Y : Nat → Value → Value → Prop} {St : Nat → Heap → Prop} {xv yv : Nat → V} {H0 H : Hp} {R : Result → Shared → Prop} {res : Value} {s : Shared}
theorem ext_pit (W : PIt X.prog X.w A.in1 S I own tn n Y St) (hY : ∀ i a b, i < n → Y i a b → RelV (xv i) a ∧ RelV (yv i) b) (hn : n ≤ 1000) (hSI : S ≠ I) (hlen : typeLookup (.type tn) "__len__" = pure none) (hhint : typeLookup (.type tn) "__length_hint__" = pure none)
    (n1 : (Value.type tn == Value.type "list") = false) (n2 : (Value.type tn == Value.type "tuple") = false) (J : Inv X pins σ H s) (hf : ∀ b ∈ own, FpOk X pins H b) (hst : St 0 s.heap) (hS : H S = some (.lst [])) (h0 : H0 S = none) (hs : Same H0 H)
    (hR : ∀ s' H' ts, Inv X pins σ H' s' → Same H0 H' → H' S = some (.lst (ts.map V.ref)) → ts.length = n → PairsV H' ts xv yv → R (.ok (.ret res)) s') :
    wpAny (model X.prog X.w) A.in1 (Builtin.List.listExtendWith (.ref S) (.ref I) res) (fun fin s' => match fin with | .done f => R (.ok f) s' | .again c' => c'.quiet = true ∧ codeAny (model X.prog X.w) A c' R s') (fun e s' => R (.error e) s') s := by
  unfold Builtin.List.listExtendWith
  refine wpAny_bind (wpAny_typeOf (W.typ 0 _ hst) ?_)
  have h1 : Builtin.List.listSameRef (.ref S) (.ref I) = false := by simp [Builtin.List.listSameRef, hSI]
  simp only [h1, n1, n2, Bool.or_false, Bool.false_eq_true, if_false]
  refine wpAny_bind (W.self 0 _ _ _ hst ?_)
  refine wpAny_bind (wpAny_holding ?_)
  unfold Builtin.List.listLengthHint
  refine wpAny_bind (wpAny_specialOf (W.typ 0 _ hst) hlen ?_)
  show wpAny _ A.in1 (specialOf (Value.ref I) (Str.ofString "__length_hint__") >>= _) _ _ _
  refine wpAny_bind (wpAny_specialOf (W.typ 0 _ hst) hhint ?_)
  refine wpAny_pure ?_
  show wpAny _ A.in1 (rule "list.extend.makes-room" >>= fun _ => Builtin.List.listTouch (.ref S) >>= fun _ => again (.builtin "list.extend.loop" ⟨[.ref S, .ref I, res], []⟩)) _ _ _
  refine wpAny_bind (wpAny_rule ?_)
  obtain ⟨z, its, c, r, hrl, e⟩ := J.lstM hS
  have hits : its = [] := by cases its with
    | nil => rfl
    | cons a b => simp at hrl
  subst hits
  refine wpAny_bind ?_
  show wpAny _ A.in1 (updateSeq S (·.push .none) >>= fun _ => updateSeq S (·.pop)) _ _ _
  refine wpAny_bind (wpAny_updateSeq e rfl ?_)
  have J1 := J.lset (its' := [Value.none]) (ys := [V.non]) (f := fun a => a.push Value.none) (t' := s.toks) hS e rfl (.cons (show RelV V.non Value.none from rfl) .nil) (by decide)
  obtain ⟨z1, its1, c1, r1, hrl1, e1⟩ := J1.lstM (upd_same)
  refine wpAny_updateSeq (hz := by seq_fits) e1 rfl ?_
  obtain ⟨u, rfl, ru⟩ := r1.one
  have J2 := J1.lset (its' := []) (ys := []) (f := fun a => a.pop) (t' := s.toks) upd_same e1 rfl .nil (by decide)
  rw [upd_upd] at J2
  have eS : upd H S (.lst []) = H := by
    funext b
    by_cases q : b = S
    · rw [q, upd_same, hS]
    · rw [upd_ne q]
  rw [eS] at J2
  refine wpAny_pure ⟨plainId_quiet F.plain_extend_loop _, coll_loop W hY hn h0 hR n 0 _ H [] rfl (Nat.zero_le _) J2 hf ?_ hs hS rfl (fun j T h => by simp at h)⟩
  exact W.frame _ _ _ hst fun b o hb q => (Heap.get?_update_other _ _ (Ne.symm hb)).trans ((Heap.get?_update_other _ _ (Ne.symm hb)).trans q)
/-- list(it) -/
theorem list_pit {A : Around} {St : Addr → Nat → Heap → Prop} {Q : Value → Shared → Prop} {E : Value → Shared → Prop} (W : ∀ S, s.heap.objs.size ≤ S → PIt X.prog X.w A.in1.in1 S I own tn n Y (St S)) (hY : ∀ i a b, i < n → Y i a b → RelV (xv i) a ∧ RelV (yv i) b) (hn : n ≤ 1000) (hI : I < s.heap.objs.size) (hlen : typeLookup (.type tn) "__len__" = pure none) (hhint : typeLookup (.type tn) "__length_hint__" = pure none)
    (n1 : (Value.type tn == Value.type "list") = false) (n2 : (Value.type tn == Value.type "tuple") = false) (J : Inv X pins σ H s) (hf : ∀ b ∈ own, FpOk X pins H b ∧ b < s.heap.objs.size) (hst : ∀ S h', (∀ b o, s.heap.get? b = some o → h'.get? b = some o) → St S 0 h')
    (hQ : ∀ S s' H' ts, H S = none → Inv X pins σ H' s' → Same H H' → H' S = some (.lst (ts.map V.ref)) → ts.length = n → PairsV H' ts xv yv → Q (.ref S) s') :
    wpAny (model X.prog X.w) A (call (.type "list") [.ref I]) Q E s := by
  refine callType_codes (Q₁ := fun obj s₁ => obj = .ref s.heap.objs.size ∧ s₁ = { s with heap := s.heap.push { cls := .type "list", data := .seq #[] } }) F.called_list (F.typeCall_list_1 _) F.entry_list_init
    (code_list_new _ ⟨rfl, rfl⟩) fun obj s₁ h₁ => ?_
  obtain ⟨rfl, rfl⟩ := h₁
  have hS : (s.heap.push { cls := .type "list", data := .seq #[] }).get? s.heap.objs.size = some { cls := .type "list", data := .seq #[] } := Heap.get?_push_size _ rfl
  refine ⟨⟨_, hS, rfl⟩, F.args_list_init_2 _ _, ?_⟩
  have hfr : H s.heap.objs.size = none := J.hok.fresh (Nat.le_refl _)
  have J1 : Inv X pins σ (upd H s.heap.objs.size (.lst [])) { s with heap := s.heap.push { cls := .type "list", data := .seq #[] } } :=
    J.lnew (its := []) (t' := s.toks) .nil (by decide)
  show wpAny _ _ (do let old ← Builtin.List.listItems (.ref s.heap.objs.size); Builtin.List.listUpdate (.ref s.heap.objs.size) (fun _ => #[]); letGo old.toList.reverse; Builtin.List.listExtendWith (.ref s.heap.objs.size) (.ref I) .none) _ _ _
  refine wpAny_bind ?_
  unfold Builtin.List.listItems
  refine wpAny_bind (wpAny_seqItems hS rfl (wpAny_pure ?_))
  show wpAny _ _ (updateSeq s.heap.objs.size (fun _ => #[]) >>= fun _ => letGo (#[] : Array Value).toList.reverse >>= fun _ => Builtin.List.listExtendWith (.ref s.heap.objs.size) (.ref I) .none) _ _ _
  refine wpAny_bind (wpAny_updateSeq hS rfl ?_)
  have J2 := J1.lset (its := []) (its' := []) (ys := []) (f := fun _ => (#[] : Array Value)) (t' := s.toks) upd_same hS rfl .nil (by decide)
  rw [upd_upd] at J2
  refine wpAny_bind (wpAny_letGo ?_)
  refine ext_pit (H0 := H) (A := A.in1) (R := _) (W _ (Nat.le_refl _)) hY hn (Nat.ne_of_gt hI) hlen hhint n1 n2 J2 (fp_none (fun b hb => (hf b hb).1) fun b hb => ?_) (hst _ _ fun b o q => ?_) upd_same hfr (Same.new hfr) fun s' H' ts a1 a2 a3 a4 a5 => ⟨rfl, hQ _ s' H' ts hfr a1 a2 a3 a4 a5⟩
  · rw [upd_ne (Nat.ne_of_lt (hf b hb).2)]
    exact (hf b hb).1.1
  · exact (Heap.get?_update_other _ _ (Nat.ne_of_gt (Heap.lt_size q))).trans (Heap.get?_push_of_some _ q)
theorem collect_pit {A : Around} {St : Addr → Nat → Heap → Prop} {Q : List Value → Shared → Prop} {E : Value → Shared → Prop} (W : ∀ S, s.heap.objs.size ≤ S → PIt X.prog X.w A.in1 S I own tn n Y (St S)) (hY : ∀ i a b, i < n → Y i a b → RelV (xv i) a ∧ RelV (yv i) b) (hn : n ≤ 1000) (hI : I < s.heap.objs.size)
    (hlen : typeLookup (.type tn) "__len__" = pure none) (hhint : typeLookup (.type tn) "__length_hint__" = pure none)
    (n1 : (Value.type tn == Value.type "list") = false) (n2 : (Value.type tn == Value.type "tuple") = false) (J : Inv X pins σ H s) (hf : ∀ b ∈ own, FpOk X pins H b ∧ b < s.heap.objs.size) (hst : ∀ S h', (∀ b o, s.heap.get? b = some o → h'.get? b = some o) → St S 0 h')
    (hQ : ∀ us s' H' ts, Inv X pins σ H' s' → Same H H' → Vals (ts.map V.ref) us → ts.length = n → PairsV H' ts xv yv → Q us s') :
    wpAny (model X.prog X.w) A (collect (.ref I)) Q E s := by
  unfold collect
  refine wpAny_bind (wpAny_runValue (codeAny_builtin F.entry_proto_collect ?_))
  rw [Around.under_plainId F.plain_proto_collect _]
  show wpAny _ A.in1 (newList [] >>= fun l => again (.builtin "list.__iadd__" ⟨[l, .ref I], []⟩)) _ _ s
  refine wpAny_bind (wpAny_newObj_type ?_)
  refine wpAny_pure ⟨plainId_quiet F.plain_list_iadd _, codeAny_builtin F.entry_list_iadd ?_⟩
  rw [Around.under_plainId F.plain_list_iadd _]
  show wpAny _ A.in1 (Builtin.List.listExtendWith (.ref s.heap.objs.size) (.ref I) (.ref s.heap.objs.size)) _ _ _
  have hfr : H s.heap.objs.size = none := J.hok.fresh (Nat.le_refl _)
  have J1 : Inv X pins σ (upd H s.heap.objs.size (.lst [])) { s with heap := s.heap.push { cls := .type "list", data := .seq ([] : List Value).toArray } } := J.lnew (its := []) (t' := s.toks) .nil (by decide)
  refine wpAny_mono (ext_pit (A := A) (H0 := H) (R := fun rr s' => rr = .ok (.ret (.ref s.heap.objs.size)) ∧ ∃ H' ts, Inv X pins σ H' s' ∧ Same H H' ∧ H' s.heap.objs.size = some (.lst (ts.map V.ref)) ∧ ts.length = n ∧ PairsV H' ts xv yv)
    (W _ (Nat.le_refl _)) hY hn (Nat.ne_of_gt hI) hlen hhint n1 n2 J1 (fp_none (fun b hb => (hf b hb).1) fun b hb => ?_) (hst _ _ fun b o q => Heap.get?_push_of_some _ q) upd_same hfr (Same.new hfr) fun s' H' ts a1 a2 a3 a4 a5 => ⟨rfl, H', ts, a1, a2, a3, a4, a5⟩) (fun fin s' h => ?_) (fun e s' h => ?_)
  · rw [upd_ne (Nat.ne_of_lt (hf b hb).2)]
    exact (hf b hb).1.1
  · cases fin with
    | done f =>
      obtain ⟨e, H', ts, a1, a2, a3, a4, a5⟩ := h
      cases e
      obtain ⟨z, its, c, r, hrl, e⟩ := a1.lstM a3
      show wpAny _ A (load s.heap.objs.size >>= _) _ _ _
      exact wpAny_bind (wpAny_load e (wpAny_pure (hQ _ _ H' ts a1 a2 (by simpa using r) a4 a5)))
    | again c' =>
      refine ⟨h.1, codeAny_mono h.2 fun rr s'' hr' => ?_⟩
      obtain ⟨rfl, H', ts, a1, a2, a3, a4, a5⟩ := hr'
      obtain ⟨z, its, c, r, hrl, e⟩ := a1.lstM a3
      show wpAny _ A (load s.heap.objs.size >>= _) _ _ _
      exact wpAny_bind (wpAny_load e (wpAny_pure (hQ _ _ H' ts a1 a2 (by simpa using r) a4 a5)))
  · exact absurd h.1 (by simp)
/-- tuple(it) -/
theorem tuple_pit {A : Around} {St : Addr → Nat → Heap → Prop} {Q : Value → Shared → Prop} {E : Value → Shared → Prop} (W : ∀ S, s.heap.objs.size ≤ S → PIt X.prog X.w A.in1.in1.in1 S I own tn n Y (St S)) (hY : ∀ i a b, i < n → Y i a b → RelV (xv i) a ∧ RelV (yv i) b) (hn : n ≤ 1000) (hI : I < s.heap.objs.size)
    (hlen : typeLookup (.type tn) "__len__" = pure none) (hhint : typeLookup (.type tn) "__length_hint__" = pure none)
    (n1 : (Value.type tn == Value.type "list") = false) (n2 : (Value.type tn == Value.type "tuple") = false) (J : Inv X pins σ H s) (hf : ∀ b ∈ own, FpOk X pins H b ∧ b < s.heap.objs.size) (hst : ∀ S h', (∀ b o, s.heap.get? b = some o → h'.get? b = some o) → St S 0 h') (hTI : s.TypeIs (.ref I) tn) (hmt : (Value.type tn == Value.type "tuple") = false)
    (hQ : ∀ q s' H' ts, Inv X pins σ H' s' → Same H H' → H' q = some (.tup (ts.map V.ref)) → ts.length = n → PairsV H' ts xv yv → Q (.ref q) s') :
    wpAny (model X.prog X.w) A (call (.type "tuple") [.ref I]) Q E s := by
  refine callType_codes (Q₁ := fun obj s₁ => s₁.TypeIs obj "tuple" ∧ Q obj s₁) F.called_tuple (F.typeCall_tuple_1 _) F.entry_object_init ?_ fun obj s₁ h₁ => ?_
  · refine codeAny_of_tree ?_
    show wpAny _ A.in1.in1 (do checkBuiltinCall "tuple.__new__" ⟨[.type "tuple", .ref I], []⟩; again (.builtin "tuple.__new__" ⟨[.type "tuple", .ref I], []⟩)) _ _ s
    refine wpAny_bind (wpAny_of_eq (F.newCall_tuple_1 _) (wpAny_pure ⟨plainId_quiet F.plain_tuple_new _, codeAny_builtin F.entry_tuple_new ?_⟩))
    rw [Around.under_plainId F.plain_tuple_new _]
    have hsub := sub_tuple_self
    have hinit := init_tuple_lookup
    have hmh := madeHere_tuple
    wp_walk using wpAny_typeOf hTI, collect_pit (A := A.in1.in1) W hY hn hI hlen hhint n1 n2 J hf hst
    intro us s' H' ts a1 a2 a3 a4 a5
    show wpAny _ _ (Builtin.Tuple.tupleExact us.toArray >>= fun v => ret v) _ _ _
    unfold Builtin.Tuple.tupleExact
    have hul : us.length = n := by rw [← Paired.length a3, List.length_map, a4]
    refine wpAny_bind (wpAny_newObj_type ?_ (by show us.toArray.size ≤ sizeLine; rw [List.size_toArray, hul]; exact Nat.le_of_lt (small1000 hn)))
    refine wpAny_pure ?_
    have hfr : H' s'.heap.objs.size = none := a1.hok.fresh (Nat.le_refl _)
    have J2 : Inv X pins σ (upd H' s'.heap.objs.size (.tup (ts.map V.ref))) { s' with heap := s'.heap.push { cls := .type "tuple", data := .seq us.toArray } } :=
      a1.laid (t' := s'.toks) (fun b o e => Heap.get?_push_of_some _ e) (Nat.le_refl _) (show ObjOk X.prog X.w _ _ _ (.tup (ts.map V.ref)) from ⟨by rw [List.length_map, a4]; exact Nat.le_of_lt (small1000 hn), us, a3, IsTup.new _ _⟩)
    exact ⟨⟨_, Heap.get?_push_size _ rfl, rfl⟩, hQ _ _ _ ts J2 (a2.new' hfr) upd_same a4 fun j T hj => by rw [upd_ne (ne_of_none (a5 j T hj) hfr)]; exact a5 j T hj⟩
  · exact ⟨h₁.1, F.args_object_init_2 obj _, object_init_meets F.called_tuple.init.lookup F.called_tuple.made (by decide) X.prog X.w A.in1 _ s₁ ⟨h₁.1, rfl, h₁.2⟩⟩
end
end S57

set_option Elab.async false
set_option linter.all false
set_option maxRecDepth 100000
set_option maxHeartbeats 4000000
namespace S57
open PySem PySem.Spec PyProof.Rows L2
theorem meets_enum1 {v : Value} {o : Obj} {H : Heap → Prop} (B : Begins v o H) :
    Meets (Builtin.«enumerate.__new__» ⟨[.type "enumerate", v], []⟩) (fun _ R s => H s.heap ∧
      R (.ok (.ret (.ref (s.heap.push o).objs.size))) { s with heap := (s.heap.push o).push { cls := .type "enumerate", data := .fields #[.none, .bool false, .ref s.heap.objs.size, rawInt 0, .none, .none] } }) :=
  .of_wp fun prog w A R s h => by
    obtain ⟨hp, g, d, tk, os⟩ := s
    obtain ⟨h1, h⟩ := h
    have hsub := sub_enumerate
    have q1 : ∀ {A' : Around} {E : Value → Shared → Prop} {Q : Value → Shared → Prop}, Q (.ref hp.objs.size) ⟨(hp.push o), g, d, tk, os⟩ → wpAny (model prog w) A' (pyIter v) Q E ⟨hp, g, d, tk, os⟩ :=
      fun q => B.iter prog w _ _ ⟨hp, g, d, tk, os⟩ _ (B.keeps _ _ h1 fun b o' e => e) q
    wp_walk
    refine wpAny_stack_any fun st => wpAny_pure ?_
    split
    · rename_i c _ _ _ _ _
      cases (c == Value.type "enumerate")
      · wp_walk using q1
        exact ⟨_, rfl, h⟩
      · wp_walk using q1
        exact ⟨_, rfl, h⟩
    · wp_walk using q1
      exact ⟨_, rfl, h⟩
section
variable {prog : Program} {w : World} {A : Around} {E : Value → Shared → Prop} {s : Shared}
theorem call_enum1 {v : Value} {o : Obj} {H : Heap → Prop} (B : Begins v o H) (h1 : H s.heap) {Q : Value → Shared → Prop}
    (h : ∀ h', IsEnum h' (s.heap.objs.size + 1) s.heap.objs.size 0 .none → h'.get? s.heap.objs.size = some o → h'.objs.size = s.heap.objs.size + 2 → (∀ b o, s.heap.get? b = some o → h'.get? b = some o) → Q (.ref (s.heap.objs.size + 1)) { s with heap := h' }) :
    wpAny (model prog w) A (call (.type "enumerate") [v]) Q E s := by
  refine callType_new F.called_enumerate (by decide) (F.typeCall_enumerate_1 _) (F.newCall_enumerate_1 _) (fun obj => F.args_object_init_2 obj _) F.entry_enumerate_new (meets_enum1 B) ⟨h1, ?_⟩
  have hz : (s.heap.push o).objs.size = s.heap.objs.size + 1 := Heap.size_push ..
  show _ ∧ _
  rw [hz]
  have he : IsEnum ((s.heap.push o).push { cls := .type "enumerate", data := .fields #[.none, .bool false, .ref s.heap.objs.size, rawInt 0, .none, .none] }) (s.heap.objs.size + 1) s.heap.objs.size 0 .none := by
    have := Heap.get?_push_size (s.heap.push o) (o := { cls := .type "enumerate", data := .fields #[.none, .bool false, .ref s.heap.objs.size, rawInt 0, .none, .none] }) rfl
    rw [hz] at this; exact this
  exact ⟨⟨_, he, rfl⟩, h _ he (Heap.get?_push_of_some _ (Heap.get?_push_size _ B.free)) (by rw [Heap.size_push, hz]) fun b o x => Heap.get?_push_of_some _ (Heap.get?_push_of_some _ x)⟩
end
/-- what an enumerate over a tuple stands at -/
def EnSt (e it t : Addr) (items : Array Value) (S : Addr) (i : Nat) (h : Heap) : Prop := (h.IsTupleIter it t i ∧ h.IsTuple t items) ∧ ((∃ old, IsEnum h e it i old) ∨ ∃ old T f oT, IsEnumHeld h e it i old T f ∧ h.get? T = some oT ∧ T ≠ e ∧ T ≠ it ∧ T ≠ S)
theorem pit_enum {P : Program} {w : World} {A : Around} {S e it t : Addr} {items : Array Value} (hh : A.handled = none) (hei : e ≠ it) (ht : t ≠ it) (hte : t ≠ e) (se : S ≠ e) (si : S ≠ it) (st : S ≠ t) :
    PIt P w A S e [e, it] "enumerate" items.size (fun i x y => (∃ k, x = .int i k) ∧ items[i]? = some y) (EnSt e it t items S) where
  typ := fun i s h => by
    rcases h.2 with ⟨_, h⟩ | ⟨_, _, _, _, h, _⟩
    · exact ⟨_, h, rfl⟩
    · exact ⟨_, h, rfl⟩
  live := fun i h st b hb => by
    have h1 : it < h.objs.size := by obtain ⟨_, e, _⟩ := st.1.1; exact Heap.lt_size e
    have h2 : e < h.objs.size := by
      rcases st.2 with ⟨_, q⟩ | ⟨_, _, _, _, q, _⟩
      · exact Heap.lt_size q
      · exact Heap.lt_size q
    simp at hb
    rcases hb with rfl | rfl
    · exact h2
    · exact h1
  frame := fun i h h' q k => by
    refine ⟨⟨q.1.1.at fun o x => k it o (Ne.symm si) x, q.1.2.at fun o x => k t o (Ne.symm st) x⟩, ?_⟩
    rcases q.2 with ⟨old, q⟩ | ⟨old, T, f, oT, q, q1, q2, q3, q4⟩
    · exact .inl ⟨old, k _ _ (Ne.symm se) q⟩
    · exact .inr ⟨old, T, f, oT, k _ _ (Ne.symm se) q, k _ _ q4 q1, q2, q3, q4⟩
  item := fun i s Q E hi q hS hQ => by
    have D := Draws.tuple (prog := P) (w := w) (A := A.in1) hh it t ht items
    have ec : ((i + 1 : Nat) : Int) = (i : Int) + 1 := by omega
    have hef : e ∉ [it, t] := by simp; exact ⟨hei, Ne.symm hte⟩
    have hn : ∀ b : Addr, b ∉ [e, it] → b ≠ e ∧ b ≠ it := fun b hb => by simpa using hb
    have nit : s.heap.objs.size ≠ it := by obtain ⟨_, e, _⟩ := q.1.1; exact Nat.ne_of_gt (Heap.lt_size e)
    rcases q.2 with ⟨old, q2⟩ | ⟨old, T, f, oT, q2, q3, q4, q5, q6⟩
    · refine wpAny_pyNext_enum_itemD D q2 q.1 hi hei hef fun x h' tk hP ho hs' hT hsz hk => ?_
      exact hQ _ x h' (tk + 1) ⟨⟨_, rfl⟩, hP⟩ ⟨hs', .inr ⟨_, s.heap.objs.size, false, _, (by rw [ec]; exact ho), hT, Nat.ne_of_gt (Heap.lt_size q2), nit, Nat.ne_of_gt hS⟩⟩ hT fun b o hb x => hk b o (hn b hb).1 (hn b hb).2 x
    · refine enumHeld D q2 q3 q4 q5 q.1 hi hei hef fun x h' tk hP ho hs' hT hsz hk => ?_
      exact hQ _ x h' (tk + 1) ⟨⟨_, rfl⟩, hP⟩ ⟨hs', .inr ⟨old, T, true, oT, (by rw [ec]; exact ho), hk _ _ q4 q5 q3, q4, q5, q6⟩⟩ hT fun b o hb x => hk b o (hn b hb).1 (hn b hb).2 x
  done := fun s Q E q hQ => by
    have D := Draws.tuple (prog := P) (w := w) (A := A.in1) hh it t ht items
    have hn : ∀ b : Addr, b ∉ [e, it] → b ≠ it := fun b hb => by simp at hb; exact hb.2
    rcases q.2 with ⟨old, q2⟩ | ⟨old, T, f, oT, q2, q3, q4, q5, q6⟩
    · exact wpAny_pyNext_enum_endD D q2 q.1 fun h' hx => hQ h' s.toks fun b o hb y => hx b o (hn b hb) y
    · exact enumHeldEnd D q2 q.1 fun h' hx => hQ h' s.toks fun b o hb y => hx b o (hn b hb) y
  self := fun i s Q E q h => by
    rcases q.2 with ⟨old, q2⟩ | ⟨old, T, f, oT, q2, q3, q4, q5, q6⟩
    · exact wpAny_pyIter_enum q2 h
    · have hT : s.TypeIs (.ref e) "enumerate" := ⟨_, q2, rfl⟩
      refine wpAny_pyIter_slot hT F.slot_enumerate_iter (wpAny_call_entry F.slot_enumerate_iter hT F.entry_enumerate_iter ?_ (F.args_enumerate_iter_1 _))
      show wpAny _ _ (ret (.ref e)) _ _ s
      exact wpAny_pure ⟨_, rfl, "enumerate", _, hT, F.slot_enumerate_next.lookup, h⟩
def ZpSt (z TI TO i1 i2 t1 t2 : Addr) (xs ys : Array Value) (S : Addr) (i : Nat) (h : Heap) : Prop := IsPair h TI (.ref i1) (.ref i2) ∧ (h.IsTupleIter i1 t1 i ∧ h.IsTuple t1 xs) ∧ (h.IsTupleIter i2 t2 i ∧ h.IsTuple t2 ys) ∧
  (∃ a b, IsPair h TO a b) ∧ (IsZip h z TI TO .none ∨ ∃ T f oT, IsZipHeld h z TI TO T f ∧ h.get? T = some oT ∧ T ≠ z ∧ T ≠ i1 ∧ T ≠ i2 ∧ T ≠ S)
theorem pit_zip {P : Program} {w : World} {A : Around} {S z TI TO i1 i2 t1 t2 : Addr} {xs ys : Array Value} (hh : A.handled = none) (D : ZipSep2 z TI TO i1 i2 [i1, t1] [i2, t2]) (ht1 : t1 ≠ i1) (ht2 : t2 ≠ i2) (sz : S ≠ z) (sT : S ≠ TI) (sO : S ≠ TO) (s1 : S ≠ i1) (s2 : S ≠ i2) (s3 : S ≠ t1) (s4 : S ≠ t2) (hxy : xs.size = ys.size) :
    PIt P w A S z [z, TO, i1, i2] "zip" xs.size (fun i x y => xs[i]? = some x ∧ ys[i]? = some y) (ZpSt z TI TO i1 i2 t1 t2 xs ys S) where
  typ := fun i s h => by
    rcases h.2.2.2.2 with h | ⟨_, _, _, h, _⟩
    · exact ⟨_, h, rfl⟩
    · exact ⟨_, h, rfl⟩
  live := fun i h st b hb => by
    have h1 : i1 < h.objs.size := by obtain ⟨_, e, _⟩ := st.2.1.1; exact Heap.lt_size e
    have h2 : i2 < h.objs.size := by obtain ⟨_, e, _⟩ := st.2.2.1.1; exact Heap.lt_size e
    have h3 : TO < h.objs.size := by obtain ⟨_, _, e⟩ := st.2.2.2.1; exact Heap.lt_size e
    have h4 : z < h.objs.size := by
      rcases st.2.2.2.2 with q | ⟨_, _, _, q, _⟩
      · exact Heap.lt_size q
      · exact Heap.lt_size q
    simp at hb
    rcases hb with rfl | rfl | rfl | rfl
    · exact h4
    · exact h3
    · exact h1
    · exact h2
  frame := fun i h h' q k => by
    refine ⟨k _ _ (Ne.symm sT) q.1, ⟨q.2.1.1.at fun o x => k _ o (Ne.symm s1) x, q.2.1.2.at fun o x => k _ o (Ne.symm s3) x⟩, ⟨q.2.2.1.1.at fun o x => k _ o (Ne.symm s2) x, q.2.2.1.2.at fun o x => k _ o (Ne.symm s4) x⟩, (let ⟨a, b, q2⟩ := q.2.2.2.1; ⟨a, b, k _ _ (Ne.symm sO) q2⟩), ?_⟩
    rcases q.2.2.2.2 with q | ⟨T, f, oT, q, q1, q2, q3, q4, q5⟩
    · exact .inl (k _ _ (Ne.symm sz) q)
    · exact .inr ⟨T, f, oT, k _ _ (Ne.symm sz) q, k _ _ q5 q1, q2, q3, q4, q5⟩
  item := fun i s Q E hi q hS hQ => by
    have D1 := Draws.tuple (prog := P) (w := w) (A := A.in1) hh i1 t1 ht1 xs
    have D2 := Draws.tuple (prog := P) (w := w) (A := A.in1) hh i2 t2 ht2 ys
    have hn : ∀ b : Addr, b ∉ [z, TO, i1, i2] → b ≠ z ∧ b ≠ TO ∧ b ≠ i1 ∧ b ≠ i2 := fun b hb => by simpa using hb
    have n1 : s.heap.objs.size ≠ i1 := by obtain ⟨_, e, _⟩ := q.2.1.1; exact Nat.ne_of_gt (Heap.lt_size e)
    have n2 : s.heap.objs.size ≠ i2 := by obtain ⟨_, e, _⟩ := q.2.2.1.1; exact Nat.ne_of_gt (Heap.lt_size e)
    obtain ⟨a, b, q3'⟩ := q.2.2.2.1
    rcases q.2.2.2.2 with q2 | ⟨T, f, oT, q2, q3, q4, q5, q6, q7⟩
    · refine wpAny_pyNext_zipD2_item D D1 D2 q2 q.1 q3' q.2.1 q.2.2.1 hi (hxy ▸ hi) fun x1 x2 h' tk hp1 hp2 hz hTO st1 st2 hT hsz hk => ?_
      exact hQ x1 x2 h' tk ⟨hp1, hp2⟩ ⟨hk _ _ D.TIz D.TITO D.TIi1 D.TIi2 q.1, st1, st2, ⟨x1, x2, hTO⟩, .inr ⟨s.heap.objs.size, false, _, hz, hT, Nat.ne_of_gt (Heap.lt_size q2), n1, n2, Nat.ne_of_gt hS⟩⟩ hT fun b o hb x => hk b o (hn b hb).1 (hn b hb).2.1 (hn b hb).2.2.1 (hn b hb).2.2.2 x
    · refine zipHeld D D1 D2 q2 q3 q.1 q.2.1 q.2.2.1 hi (hxy ▸ hi) fun x1 x2 h' tk hp1 hp2 hz st1 st2 hT hsz hk => ?_
      exact hQ x1 x2 h' tk ⟨hp1, hp2⟩ ⟨hk _ _ D.TIz D.TIi1 D.TIi2 q.1, st1, st2, ⟨a, b, hk _ _ D.TOz D.Ti1 D.Ti2 q3'⟩, .inr ⟨T, true, oT, hz, hk _ _ q4 q5 q6 q3, q4, q5, q6, q7⟩⟩ hT fun b o hb x => hk b o (hn b hb).1 (hn b hb).2.2.1 (hn b hb).2.2.2 x
  done := fun s Q E q hQ => by
    have D1 := Draws.tuple (prog := P) (w := w) (A := A.in1) hh i1 t1 ht1 xs
    have D2 := Draws.tuple (prog := P) (w := w) (A := A.in1) hh i2 t2 ht2 ys
    have hn : ∀ b : Addr, b ∉ [z, TO, i1, i2] → b ≠ z ∧ b ≠ TO ∧ b ≠ i1 ∧ b ≠ i2 := fun b hb => by simpa using hb
    obtain ⟨a, b, q3'⟩ := q.2.2.2.1
    rcases q.2.2.2.2 with q2 | ⟨T, f, oT, q2, q3, q4, q5, q6, q7⟩
    · exact wpAny_pyNext_zipD2_end D D1 D2 q2 q.1 q3' q.2.1 q.2.2.1 (Nat.le_refl _) (Nat.le_of_eq hxy) (.inl rfl) fun h' tk hk => hQ h' tk fun b o hb x => hk b o (hn b hb).1 (hn b hb).2.1 (hn b hb).2.2.1 (hn b hb).2.2.2 x
    · exact zipHeldEnd D D1 q2 q3 q.1 q.2.1 fun h' tk hk => hQ h' tk fun b o hb x => hk b o (hn b hb).1 (hn b hb).2.2.1 (hn b hb).2.2.2 x
  self := fun i s Q E q h => by
    obtain ⟨a, b, q3'⟩ := q.2.2.2.1
    rcases q.2.2.2.2 with q2 | ⟨T, f, oT, q2, q3, q4, q5, q6, q7⟩
    · exact wpAny_pyIter_zip q2 h
    · have hT : s.TypeIs (.ref z) "zip" := ⟨_, q2, rfl⟩
      refine wpAny_pyIter_slot hT F.slot_zip_iter (wpAny_call_entry F.slot_zip_iter hT F.entry_zip_iter ?_ (F.args_zip_iter_1 _))
      show wpAny _ _ (ret (.ref z)) _ _ s
      exact wpAny_pure ⟨_, rfl, "zip", _, hT, F.slot_zip_next.lookup, h⟩
theorem notin2 {x a b : Addr} (h1 : x ≠ a) (h2 : x ≠ b) : x ∉ [a, b] := by simp [h1, h2]
section
variable {X : Cx}
/-- list(enumerate(e)) of a tuple -/
def tLstEn (K : Fr) (te : TE) : TE := fun σ H Q => te σ H fun x H1 => ∃ (a : Addr) (xs : List V), x = .ref a ∧ SqT K H1 a xs ∧ xs.length ≤ 1000 ∧
  ∀ S H2 ts, H1 S = none → Same H1 H2 → H2 S = some (.lst (ts.map V.ref)) → ts.length = xs.length → PairsV H2 ts (fun i => .int (i : Nat)) (fun i => xs.getD i .non) → Q (.ref S) H2
theorem getD_rel {xs : List V} {its : List Value} (r : Vals xs its) {i : Nat} {y : Value} (h : its[i]? = some y) : RelV (xs.getD i .non) y := by
  obtain ⟨x, hx⟩ : ∃ x, xs[i]? = some x := by
    have hl := r.length
    have : i < its.length := by
      rcases Nat.lt_or_ge i its.length with q | q
      · exact q
      · rw [List.getElem?_eq_none q] at h; cases h
    exact ⟨xs[i], by simp [hl, this]⟩
  obtain ⟨u, hu, ru⟩ := r.get hx
  rw [h] at hu
  cases hu
  rw [List.getD_eq_getElem?_getD, hx]
  exact ru
theorem pe_listEnum {e : Expr} {te : TE} {p p2 pos pos2 : Pos} (hc : X.calm = true) (hgl : Gl X "list") (hml : X.mg "list" = none) (hge : Gl X "enumerate") (hme : X.mg "enumerate" = none) (he : PE X e te)
    (na : starEach [.Call (.Name "enumerate" p2) [e] [] pos2] X.env = (false, eval (.Call (.Name "enumerate" p2) [e] [] pos2) X.env) :: starEach [] X.env := by rfl) (nb : starEach [e] X.env = (false, eval e X.env) :: starEach [] X.env := by rfl) :
    PE X (.Call (.Name "list" p) [.Call (.Name "enumerate" p2) [e] [] pos2] [] pos) (tLstEn X.K te) := by
  refine ⟨fun pins s σ H Q I h => ?_⟩
  refine Call_ (ld_blt I hgl hml boot_list (PyProof.Rows.callWith_type1 (args_cons (Call_ (ld_blt I hge hme boot_enumerate (PyProof.Rows.callWith_type1 (one_arg he I h (fun v s1 x H1 I1 r q => ?_) nb) nb))) na) na))
  obtain ⟨a, xs, rfl, hq, hz, kk⟩ := q
  cases (show v = Value.ref a from r)
  obtain ⟨its, rv, p', hz'⟩ := I1.tuple hq
  refine call_enum1 (begins_tuple a its.toArray) p' fun h' hE hI hsz hk => args_nil ?_
  have I2 : Inv X pins σ H1 { s1 with heap := h' } := I1.kept (t' := s1.toks) hk
  have alt : @LT.lt Nat _ a s1.heap.objs.size := by obtain ⟨_, q, _⟩ := p'; exact Heap.lt_size q
  have hlen := rv.length
  refine list_pit (A := X.A) (own := [s1.heap.objs.size + 1, s1.heap.objs.size]) (tn := "enumerate") (n := its.toArray.size) (xv := fun i => .int (i : Nat)) (yv := fun i => xs.getD i .non)
    (fun S hS => pit_enum (I1.ok.hd hc) (Nat.succ_ne_self _) (Nat.ne_of_lt alt) (Nat.ne_of_lt (Nat.lt_succ_of_lt alt)) ?_ ?_ ?_) (fun i x y hi hxy => ⟨?_, ?_⟩) (by rw [List.size_toArray, ← hlen]; exact hz) (by show _ < h'.objs.size; omega) enum_no_len enum_no_hint (by decide) (by decide) I2 (fun b hb => ?_) (fun S h'' hk2 => ?_) fun S s' H' ts a1 a2 a3 a4 a5 a6 => ⟨.ref S, H', a2, rfl, kk S H' ts a1 a3 a4 (by rw [a5, List.size_toArray, hlen]) a6⟩
  · exact Nat.ne_of_gt (by have : h'.objs.size ≤ S := hS; omega)
  · exact Nat.ne_of_gt (by have : h'.objs.size ≤ S := hS; omega)
  · exact Nat.ne_of_gt (by have : h'.objs.size ≤ S := hS; omega)
  · obtain ⟨⟨k, rfl⟩, _⟩ := hxy
    exact ⟨k, rfl⟩
  · exact getD_rel rv (by simpa using hxy.2)
  · have e' : @Eq Nat b (s1.heap.objs.size + 1) ∨ @Eq Nat b s1.heap.objs.size := by simpa using hb
    have hle : s1.heap.objs.size ≤ b := by
      rcases e' with z | z
      · rw [z]; exact Nat.le_add_right _ _
      · rw [z]; exact Nat.le_refl _
    exact ⟨I1.fpOk hle (I1.hok.fresh hle), by show @LT.lt Nat _ b h'.objs.size; rcases e' with z | z <;> omega⟩
  · refine ⟨⟨⟨_, hk2 _ _ hI, rfl, rfl⟩, ?_⟩, .inl ⟨.none, hk2 _ _ hE⟩⟩
    exact Heap.IsTuple.at p' fun o x => hk2 _ _ (hk _ _ x)
/-- tuple(zip(x, y)) of two tuples of one length -/
def tTupZp (K : Fr) (ta tb : TE) : TE := fun σ H Q => ta σ H fun x H1 => tb σ H1 fun y H2 => ∃ (a b : Addr) (xs ys : List V), x = .ref a ∧ y = .ref b ∧ SqT K H2 a xs ∧ SqT K H2 b ys ∧ xs.length = ys.length ∧ xs.length ≤ 1000 ∧
  ∀ S H3 ts, Same H2 H3 → H3 S = some (.tup (ts.map V.ref)) → ts.length = xs.length → PairsV H3 ts (fun i => xs.getD i .non) (fun i => ys.getD i .non) → Q (.ref S) H3
theorem pe_tupZip {e f : Expr} {te tf : TE} {p p2 pos pos2 : Pos} (hc : X.calm = true) (hgl : Gl X "tuple") (hml : X.mg "tuple" = none) (hge : Gl X "zip") (hme : X.mg "zip" = none) (he : PE X e te) (hf : PE X f tf)
    (na : starEach [.Call (.Name "zip" p2) [e, f] [] pos2] X.env = (false, eval (.Call (.Name "zip" p2) [e, f] [] pos2) X.env) :: starEach [] X.env := by rfl) (nb : starEach [e, f] X.env = (false, eval e X.env) :: starEach [f] X.env := by rfl) (nc : starEach [f] X.env = (false, eval f X.env) :: starEach [] X.env := by rfl)
    (hp : (backTo pos2 (starEach [f] X.env)).any (·.1) = false := by rfl) :
    PE X (.Call (.Name "tuple" p) [.Call (.Name "zip" p2) [e, f] [] pos2] [] pos) (tTupZp X.K te tf) := by
  refine ⟨fun pins s σ H Q I h => ?_⟩
  refine Call_ (ld_blt I hgl hml boot_tuple (PyProof.Rows.callWith_type1 (args_cons (Call_ (ld_blt I hge hme boot_zip (PyProof.Rows.callWith_type1 (args_cons (thn (he.run pins s σ H _ I h) fun v s1 ⟨x, H1, I1, r1, q1⟩ => one_arg hf I1 q1 (fun u s2 y H2 I2 r2 q => ?_) nc) nb) nb hp))) na) na))
  obtain ⟨a, b, xs, ys, rfl, rfl, hqa, hqb, hxy, hz, kk⟩ := q
  cases (show v = Value.ref a from r1)
  cases (show u = Value.ref b from r2)
  obtain ⟨its, rv, p1, _⟩ := I2.tuple hqa
  obtain ⟨jts, rw', p2', _⟩ := I2.tuple hqb
  refine zip_begins2 (begins_tuple a its.toArray) (begins_tuple b jts.toArray) p1 p2' fun h' hZ hTI hTO h1 h2 hsz hk => args_nil ?_
  have I3 : Inv X pins σ H2 { s2 with heap := h' } := I2.kept (t' := s2.toks) hk
  have alt : @LT.lt Nat _ a s2.heap.objs.size := by obtain ⟨_, q, _⟩ := p1; exact Heap.lt_size q
  have blt : @LT.lt Nat _ b s2.heap.objs.size := by obtain ⟨_, q, _⟩ := p2'; exact Heap.lt_size q
  have hl1 := rv.length
  have hl2 := rw'.length
  generalize hN : s2.heap.objs.size = N at *
  have sep : ZipSep2 (N + 4) (N + 2) (N + 3) N (N + 1) [N, a] [N + 1, b] := by
    exact ⟨Nat.ne_of_lt (by omega), Nat.ne_of_lt (by omega), Nat.ne_of_lt (by omega), Nat.ne_of_gt (by omega), by simp, notin2 (Nat.ne_of_gt (by omega)) (Nat.ne_of_gt (by omega)), notin2 (Nat.ne_of_gt (by omega)) (Nat.ne_of_gt (by omega)), Nat.ne_of_gt (by omega), by simp,
      notin2 (Nat.ne_of_gt (by omega)) (Nat.ne_of_gt (by omega)), notin2 (Nat.ne_of_gt (by omega)) (Nat.ne_of_gt (by omega)), notin2 (Nat.ne_of_lt (by omega)) (Nat.ne_of_gt (by omega)), notin2 (Nat.ne_of_gt (by omega)) (Nat.ne_of_gt (by omega))⟩
  refine tuple_pit (A := X.A) (own := [N + 4, N + 3, N, N + 1]) (tn := "zip") (n := its.toArray.size) (xv := fun i => xs.getD i .non) (yv := fun i => ys.getD i .non)
    (fun S hS => pit_zip (TI := N + 2) (t1 := a) (t2 := b) (xs := its.toArray) (ys := jts.toArray) (I1.ok.hd hc) sep (Nat.ne_of_lt alt) (Nat.ne_of_lt (Nat.lt_succ_of_lt blt)) ?_ ?_ ?_ ?_ ?_ ?_ ?_ (by rw [List.size_toArray, List.size_toArray]; omega)) (fun i x y hi hxy => ⟨getD_rel rv (by simpa using hxy.1), getD_rel rw' (by simpa using hxy.2)⟩) (by rw [List.size_toArray, ← hl1]; exact hz) (by show _ < h'.objs.size; omega) zip_no_len zip_no_hint (by decide) (by decide) I3 (fun c hb => ?_) (fun S h'' hk2 => ?_) ⟨_, hZ, rfl⟩ (by decide) fun S s' H' ts a2 a3 a4 a5 a6 => ⟨.ref S, H', a2, rfl, kk S H' ts a3 a4 (by rw [a5, List.size_toArray, hl1]) a6⟩
  all_goals try exact Nat.ne_of_gt (by have : h'.objs.size ≤ S := hS; omega)
  · have e' : @Eq Nat c (N + 4) ∨ @Eq Nat c (N + 3) ∨ @Eq Nat c N ∨ @Eq Nat c (N + 1) := by simpa using hb
    have hle : s2.heap.objs.size ≤ c := by rcases e' with z | z | z | z <;> omega
    exact ⟨I2.fpOk hle (I2.hok.fresh hle), by show @LT.lt Nat _ c h'.objs.size; rcases e' with z | z | z | z <;> omega⟩
  · refine ⟨hk2 _ _ hTI, ⟨⟨_, hk2 _ _ h1, rfl, rfl⟩, Heap.IsTuple.at p1 fun o x => hk2 _ _ (hk _ _ x)⟩, ⟨⟨_, hk2 _ _ h2, rfl, rfl⟩, Heap.IsTuple.at p2' fun o x => hk2 _ _ (hk _ _ x)⟩, ⟨_, _, hk2 _ _ hTO⟩, .inl (hk2 _ _ hZ)⟩
end
end S57

set_option Elab.async false
set_option linter.all false
set_option maxRecDepth 100000
set_option maxHeartbeats 4000000
namespace S57
open PySem PySem.Spec PyProof.Rows L2
/-! ### for i, x in enumerate(tuple) -/
def IteT (K : Fr) (a : Addr) : It :=
  ⟨fun i H => ∃ (xs : List V) (x : V), SqT K H a xs ∧ xs[i]? = some x, fun i H v H' => ∃ T x, v = .ref T ∧ H T = none ∧ H' = upd H T (.tup [.int (i : Nat), x]) ∧ ∀ xs, SqT K H a xs → xs[i]? = some x, fun i H => ∃ xs : List V, SqT K H a xs ∧ xs.length ≤ i⟩
theorem turn_enumT {P : Program} {w : World} {K : Fr} {elts : List Expr} {kk : Nat} {tpos : Pos} (a e it : Addr) (hai : a ≠ it) :
    Turn P w K (.Tuple elts kk tpos) (IteT K a) [e, it] e (fun i h => (∃ old, IsEnum h e it ((i : Nat) : Int) old) ∧ h.IsTupleIter it a i ∧ e ≠ it) where
  mem := by simp
  obj := fun i h st b hb => by
    obtain ⟨⟨old, he⟩, ⟨o, ho, hc, hd⟩, _⟩ := st
    have e' : b = e ∨ b = it := by simpa using hb
    rcases e' with z | z
    · rw [z]; exact ⟨_, he, fun v q => nomatch q⟩
    · rw [z]; exact ⟨o, ho, fun v q => by rw [hd] at q; cases q⟩
  keep := fun i h h' st k => let ⟨⟨old, he⟩, hi, hne⟩ := st; ⟨⟨old, k e (by simp) _ he⟩, hi.at fun o q => k it (by simp) o q, hne⟩
  item := by
    intro X hP hw hK hc i pins s σ H E I hf st hg
    subst hP hw hK
    obtain ⟨⟨old, he⟩, hit, hne⟩ := st
    obtain ⟨xs, x, hq, hx⟩ := hg
    obtain ⟨its, rv, p, hz⟩ := I.tuple hq
    have p : s.heap.IsTuple a its.toArray := p
    obtain ⟨u, hu, ru⟩ := rv.get hx
    have hel : e < s.heap.objs.size := Heap.lt_size he
    have hil : it < s.heap.objs.size := by obtain ⟨_, q, _⟩ := hit; exact Heap.lt_size q
    have hae : a ≠ e := fun z => by
      obtain ⟨o, q, c, _⟩ := p
      rw [z, he] at q
      cases q
      injection c with c
      exact absurd c (by decide)
    have D := Draws.tuple (prog := X.prog) (w := X.w) (A := X.A.in1) (I.ok.hd hc) it a hai its.toArray
    have hlt : i < its.toArray.size := by
      rw [List.size_toArray]
      rcases Nat.lt_or_ge i its.length with q | q
      · exact q
      · rw [List.getElem?_eq_none q] at hu; cases hu
    refine wpAny_pyNext_enum_itemD D he ⟨hit, p⟩ hlt hne (notin2 hne (Ne.symm hae)) fun x' h' tk hP ho hs' hT hsz hk => ?_
    have ex : x' = u := by
      have : its[i]? = some x' := by simpa using hP
      rw [hu] at this
      exact (Option.some.inj this).symm
    subst ex
    refine ⟨_, rfl, wpAny_letOwnedTupleGo_enum (s := { s with heap := h', toks := tk + 1 }) ho fun h'' he' sb => ?_⟩
    have hT2 : h''.get? s.heap.objs.size = some { cls := .type "tuple", data := .seq #[.int i tk, x'] } := (sb.2 _ (Nat.ne_of_gt hel)).trans hT
    have new : ObjOk X.prog X.w (upd H s.heap.objs.size (.tup [.int (i : Nat), x])) h'' s.heap.objs.size (.tup [.int (i : Nat), x]) :=
      ⟨by show 2 ≤ sizeLine; decide, [.int i tk, x'], .cons ⟨_, rfl⟩ (.cons ru .nil), ⟨_, hT2, rfl, _, rfl⟩⟩
    have I1 : Inv X pins σ (upd H s.heap.objs.size (.tup [.int (i : Nat), x])) { s with heap := h'', toks := tk + 1 } :=
      I.turnedNew (ch := [e, it]) (fun b ob hb q => (sb.2 b (fun z => hb (by simp [z]))).trans (hk b ob (fun z => hb (by simp [z])) (fun z => hb (by simp [z])) q)) hf (Nat.le_refl _) new
    refine ⟨.ref s.heap.objs.size, _, I1, rfl, ⟨_, x, rfl, I.hok.fresh (Nat.le_refl _), rfl, fun ys hy => by rw [I.tuple_inj hy hq]; exact hx⟩, ⟨⟨x', ?_⟩, hs'.1.at fun o q => (sb.2 it (Ne.symm hne)).trans q, hne⟩, fun b hb => ?_⟩
    · have e1 : ((i + 1 : Nat) : Int) = (i : Int) + 1 := by omega
      rw [e1]; exact he'
    · have hb' : b < s.heap.objs.size := by
        have e' : b = e ∨ b = it := by simpa using hb
        rcases e' with z | z
        · rw [z]; exact hel
        · rw [z]; exact hil
      rw [upd_ne (Nat.ne_of_lt hb')]
      exact (hf b hb).1
  done := by
    intro X hP hw hK hc i pins s σ H E I hf st hg
    subst hP hw hK
    obtain ⟨⟨old, he⟩, hit, hne⟩ := st
    obtain ⟨xs, hq, hx⟩ := hg
    obtain ⟨its, rv, p, hz⟩ := I.tuple hq
    have p : s.heap.IsTuple a its.toArray := p
    obtain ⟨f0, f1, f2, f3, f4, f5⟩ := hf it (by simp)
    have hl := rv.length
    have D := Draws.tuple (prog := X.prog) (w := X.w) (A := X.A.in1) (I.ok.hd hc) it a hai its.toArray
    have hT : s.TypeIs (.ref e) "enumerate" := ⟨_, he, rfl⟩
    unfold pyNext
    refine wpAny_bind (wpAny_attempt (wpAny_callSpecial?_slot (name := Str.ofString "__next__") hT F.slot_enumerate_next (wpAny_call_entry F.slot_enumerate_next hT F.entry_enumerate_next ?_ (F.args_enumerate_next_1 _))))
    show wpAny _ _ (field (.ref e) 2 >>= _) _ _ _
    refine wpAny_bind (wpAny_field he rfl (x := .ref it) rfl ?_)
    refine wpAny_bind (wpAny_nextOf_tuple_end (I.ok.hd hc) hit p (by simp; omega) fun h' x he' hx' => ?_)
    obtain ⟨o, ho, hcc⟩ := hx'
    refine wpAny_bind (wpAny_isInstance (T := "StopIteration") (b := true) ⟨o, ho, hcc⟩ isSubtype_stop ?_)
    exact wpAny_pure ⟨rfl, I.turned (t' := s.toks) (fun b o hb q => he' b o hb q) f0 f1 f3 f4 f5⟩
  self := fun A i s Q E st h => let ⟨⟨_, he⟩, _⟩ := st; wpAny_pyIter_enum he h
def iEnumT (K : Fr) (ta : TA) : TI := fun σ H R => ta σ H fun vs H1 => ∃ a xs, vs = [.ref a] ∧ SqT K H1 a xs ∧ R (IteT K a) H1
theorem pi_enumT {X : Cx} {e : Expr} {ta : TA} {p pos tpos : Pos} {elts : List Expr} {kk : Nat} (hg : Gl X "enumerate") (hm : X.mg "enumerate" = none) (ha : PA X [e] ta) (hs : starEach [e] X.env = [(false, eval e X.env)] := by rfl) :
    PI X (.Tuple elts kk tpos) (.Call (.Name "enumerate" p) [e] [] pos) (iEnumT X.K ta) := by
  refine ⟨fun pins s σ H R I h => ?_⟩
  refine Call_ (ld_blt I hg hm boot_enumerate (PyProof.Rows.callWith_type1 (thn (ha.run pos pins s σ H _ I h) fun us s1 ⟨vs, H1, I1, r1, q1⟩ => ?_) hs rfl))
  obtain ⟨a, xs, ex, hq, q⟩ := q1
  subst ex
  cases r1 with
  | cons r rr =>
    cases rr
    cases r
    obtain ⟨its, rv, p', hz⟩ := I1.tuple hq
    have p' : s1.heap.IsTuple a its.toArray := p'
    have alt : @LT.lt Nat _ a s1.heap.objs.size := by obtain ⟨_, q, _⟩ := p'; exact Heap.lt_size q
    refine call_enum1 (begins_tuple a its.toArray) p' fun h' he hit hsz hk => wpAny_pyIter_enum he ?_
    have I2 : Inv X pins σ H1 { s1 with heap := h' } := I1.kept (t' := s1.toks) hk
    refine ⟨s1.heap.objs.size + 1, [s1.heap.objs.size + 1, s1.heap.objs.size], _, _, H1, rfl, I2, turn_enumT a (s1.heap.objs.size + 1) s1.heap.objs.size (Nat.ne_of_lt alt), ⟨⟨.none, he⟩, ⟨_, hit, rfl, rfl⟩, Nat.succ_ne_self _⟩, fun b hb => ?_, q⟩
    have e' : b = s1.heap.objs.size + 1 ∨ b = s1.heap.objs.size := by simpa using hb
    have hle : s1.heap.objs.size ≤ b := by
      rcases e' with z | z
      · rw [z]; exact Nat.le_add_right _ _
      · rw [z]; exact Nat.le_refl _
    exact I1.fpOk hle (I1.hok.fresh hle)
theorem walk_enumT {K : Fr} {a : Addr} {xs : List V} : Walk (IteT K a) xs.length (fun H => SqT K H a xs) (YPair (fun i => some (.int (i : Nat))) (fun i => xs[i]?)) := by
  refine ⟨fun i _ hi q => ⟨xs, xs[i], q, by simp [hi]⟩, fun _ q => ⟨xs, q, Nat.le_refl _⟩, fun i H v H' _ q y => ?_⟩
  obtain ⟨T, x, h1, h2, h3, h4⟩ := y
  exact ⟨T, .int (i : Nat), x, h1, h2, h3, rfl, h4 xs q⟩
end S57

set_option Elab.async false
set_option linter.all false
set_option maxRecDepth 100000
set_option maxHeartbeats 4000000
namespace S57
open PySem PySem.Spec PyProof.Rows L2
/-- a text from its end -/
def revT (z : Str) : Str := ⟨z.cps.toList.reverse.toArray⟩
theorem rev_pick (z : Str) : (⟨((Builtin.Str.strSliceIndices none none (-1) z.length).filterMap (z.cps[·]?)).toArray⟩ : Str) = revT z := by
  unfold revT Builtin.Str.strSliceIndices
  congr 1
  have e : (if (-1 : Int) > 0 then (0 : Int) else (z.length : Int) - 1) = (z.length : Int) - 1 := if_neg (by decide)
  have e2 : (if (-1 : Int) > 0 then (z.length : Int) else -1) = -1 := if_neg (by decide)
  have q := PySem.W.krv_pick (#[] : Array Value)
  show ((sliceRange (if (-1 : Int) > 0 then (0 : Int) else (z.length : Int) - 1) (if (-1 : Int) > 0 then (z.length : Int) else -1) (-1)).filterMap (z.cps[·]?)).toArray = _
  rw [e, e2, PySem.W.krv_sliceRange, PySem.W.krv_range, List.filterMap_reverse]
  show ((List.range z.cps.size).filterMap (z.cps[·]?)).reverse.toArray = _
  rw [PySem.W.krv_all]
section
variable {X : Cx}
def tRevS (te : TE) : TE := fun σ H Q => te σ H fun x H1 => ∃ z : Str, x = .str z ∧ z.length ≤ sizeLine ∧ Q (.str (revT z)) H1
theorem pe_revS {e : Expr} {te : TE} {k : Nat} {p1 p2 p3 pos : Pos} (he : PE X e te) (htt : ∀ o r, letTemporaryGo e o r = pure () := by intro _ _; rfl) : PE X (.Subscript e (.Slice none none (some (.UnaryOp .USub (.Constant (.int 1) k p1) p2)) p3) pos) (tRevS te) := by
  refine ⟨fun pins s σ H Q I h => ?_⟩
  refine Subscript_ (thn (he.run pins s σ H _ I h) fun v s1 ⟨x, H1, I1, r1, q1⟩ => ?_)
  obtain ⟨z, rfl, hz, q⟩ := q1
  obtain ⟨t, rfl⟩ := r1
  have hst : PO X (some (.UnaryOp .USub (.Constant (.int 1) k p1) p2)) (tPart (tUn (rU fun i => .int (-i)) (tC (.int 1)))) := po_some (pe_un un_neg pe_int)
  refine wpAny_Slice (thn (po_none.run pins s1 σ H1 (fun o H2 => o = none ∧ H2 = H1) I1 ⟨rfl, rfl⟩) fun vl s2 ⟨l, H2, I2, pl, el, e2⟩ => ?_)
  subst el e2
  refine thn (po_none.run pins s2 σ H2 (fun o H3 => o = none ∧ H3 = H2) I2 ⟨rfl, rfl⟩) fun vu s3 ⟨u, H3, I3, pu, eu, e3⟩ => ?_
  subst eu e3
  refine thn (hst.run pins s3 σ H3 (fun o H4 => o = some (-1) ∧ H4 = H3) I3 ⟨1, rfl, -1, rfl, rfl, rfl⟩) fun vs s4 ⟨o, H4, I4, ps, eo, e4⟩ => ?_
  subst eo e4
  have I5 : Inv X pins σ H4 { s4 with heap := s4.heap.push { cls := .type "slice", data := .fields #[vl, vu, vs] } } := I4.kept (t' := s4.toks) fun b ob q => Heap.get?_push_of_some _ q
  obtain ⟨l', rfl, el⟩ := IsPart.raw pl
  obtain ⟨u', rfl, eu⟩ := IsPart.raw pu
  obtain ⟨o', rfl, eo⟩ := IsPart.raw ps
  cases l' with
  | some l' => cases el
  | none =>
  cases u' with
  | some l' => cases eu
  | none =>
  cases o' with
  | none => cases eo
  | some o' =>
  obtain ⟨oi, ot⟩ := o'
  obtain rfl : oi = (-1 : Int) := Option.some.inj eo
  refine tail_any (ops := [.str z t, .ref s4.heap.objs.size]) (typeIs_str _ z t) (F.slot_str_getitem.lookup) ?_ (by with_unfolding_all rfl)
  refine wpAny_getItem_str_slice (l := none) (u := none) (st := some (-1, ot)) ⟨_, Heap.get?_push_size _ rfl, rfl, rfl⟩ rfl ?_
  unfold sliceMade slicePicked
  rw [if_neg (by simp)]
  show Made.post (Made.str ⟨((Builtin.Str.strSliceIndices none none (-1) z.length).filterMap (z.cps[·]?)).toArray⟩) _ _
  rw [rev_pick]
  refine ⟨?_, .str _, H4, I5.tok _, ⟨_, rfl⟩, q⟩
  have : (revT z).length = z.length := by
    show (z.cps.toList.reverse.toArray).size = z.cps.size
    simp
  rw [this]
  exact hz
/-- len(set(t)) of a tuple of different ints -/
def tLenSetT (K : Fr) (ta : TE) : TE := fun σ H Q => ta σ H fun x H1 => ∃ (l : Addr) (ns : List Int), x = .ref l ∧ SqT K H1 l (ns.map V.int) ∧ ns.Nodup ∧ ns.length ≤ 1000 ∧ Q (.int (ns.length : Nat)) H1
theorem pe_lenSetT {a : Expr} {ta : TE} {p p2 q pos : Pos} (hg : Gl X "len") (hm : X.mg "len" = none) (hg2 : Gl X "set") (hm2 : X.mg "set" = none) (ha : PE X a ta) (hc : X.calm = true := by rfl)
    (na : starEach [a] X.env = (false, eval a X.env) :: starEach [] X.env := by rfl) : PE X (.Call (.Name "len" p) [.Call (.Name "set" p2) [a] [] q] [] pos) (tLenSetT X.K ta) := by
  refine ⟨fun pins s σ H Q I h => ?_⟩
  refine Call_ (ld_blt I hg hm boot_len ?_)
  refine PyProof.Rows.callWith_builtin1 (PyProof.Rows.args_cons ?_ rfl) rfl rfl
  refine Call_ (ld_blt I hg2 hm2 boot_set ?_)
  refine PyProof.Rows.callWith_type1 (PyProof.Rows.args_cons (thn (ha.run pins s σ H _ I h) fun v s1 ⟨x, H1, I1, r1, q1⟩ => PyProof.Rows.args_nil ?_) na) na rfl
  obtain ⟨l, ns, rfl, hq, hnd, hl, q1⟩ := q1
  cases r1
  obtain ⟨its, r, pl, hz⟩ := I1.tuple hq
  refine call_set_tupI ns (I1.ok.hd hc) pl (by simpa using r.ints) (by unfold scanBound; omega) fun h' tk c hS hc' hk => ?_
  refine PyProof.Rows.args_nil ?_
  obtain ⟨o, es, ep, t, ho, hex, hd, g, nd, hm', hb, hf, hn, hr, hl'⟩ := hS
  have I2 : Inv X pins σ H1 { s1 with heap := h', toks := tk } := I1.kept hk
  have hlen : es.size = ns.length := by
    have p : (es.toList.map L2.keyOf).Perm ns := (List.perm_ext_iff_of_nodup nd hnd).mpr fun k => by
      rw [← hm' k]
      simp
    have := p.length_eq
    rw [List.length_map, Array.length_toList] at this
    exact this
  exact call_len_set ho hex hd hf (by rw [hlen] <;> omega) ⟨.int ns.length, H1, I2.tok _, ⟨_, by rw [hlen]⟩, q1⟩
end
end S57

set_option Elab.async false
set_option linter.all false
set_option maxRecDepth 100000
set_option maxHeartbeats 4000000
namespace S57
open PySem PySem.Spec PyProof.Rows L2
def natsD (ws : List Nat) : List PyData := ws.map fun x => PyData.int (x : Nat)
theorem eqvAll_nat : ∀ a b : List Nat, PyData.eqvAll (natsD a) (natsD b) = decide (a = b)
  | [], [] => by simp [natsD, PyData.eqvAll]
  | [], _ :: _ => by simp [natsD, PyData.eqvAll]
  | _ :: _, [] => by simp [natsD, PyData.eqvAll]
  | x :: r, y :: t => by
    have ih := eqvAll_nat r t
    unfold natsD at ih ⊢
    rw [List.map_cons, List.map_cons, PyData.eqvAll, ih, PyData.eqv]
    by_cases h1 : x = y
    · by_cases h2 : r = t <;> simp [h1, h2]
    · have : ¬ ((x : Int) = y) := by omega
      simp [h1, this]
theorem marks_nat {H : Hp} : ∀ ws : List Nat, Paired (MarkV H) (natsV ws) (natsD ws)
  | [] => .nil
  | x :: r => .cons (.int (x : Nat)) (marks_nat r)
def lengthM (a b : Nat) (ws : List Nat) : Nat := ((sidesM a b).filter fun p => decide (ws[p.1]? ≠ ws[p.2]?)).length
def isPatM (a b : Nat) (ws : List Nat) : Bool := decide (partedM a b (eqOf (natsD ws)) = ws)
section
variable {P : Program} {w : World} {K : Fr} {mg : Str → Option Value} {base : Heap}
def sp_is_pattern : Sp := fun vs H Q _ => ∃ (a b : Nat) (v : Addr) (ws : List Nat), vs = [.int a, .int b, .ref v] ∧ 1 ≤ a ∧ a ≤ 3 ∧ 1 ≤ b ∧ b ≤ 2 ∧ H v = some (.tup (natsV ws)) ∧ ws.length = a * b ∧ (∀ x ∈ ws, x ≤ 9) ∧ ∀ H', Same H H' → Q (.bl (isPatM a b ws)) H'
theorem sc_is_pattern0 : FnScope ["width", "height", "value", "piece"] ["width", "height", "value"] (defScope s_is_pattern) := ⟨rfl, rfl, rfl, by decide +kernel, rfl, by decide +kernel, by decide +kernel⟩
theorem ok_is_pattern (T : Txt K mg w) : FnR P w K mg base CX0 3 (a_is_pattern K) (sp_is_pattern) := by
  refine fnr0 (d_is_pattern T) sc_is_pattern0 (fun _ _ _ _ _ _ us hl => match us, hl with | [_, _, _], _ => rfl) (fun vs H Q E h => ?_) (fun cdv A outer s H vs Q E hr h => ?_)
  · obtain ⟨a, b, v, ws, rfl, _⟩ := h
    rfl
  · obtain ⟨a, b, v, ws, rfl, a1, a3, b1, b2, hv, hl, h9, k⟩ := h
    refine ⟨_, (pss_cons (ps_if (PW.pt (pw_or (pt_not (pt_val (pe_g (ok_is_size T) (hr.mono (by decide)) (g_is_size T) (kp_is_size T) pass0 (pa_cons (pv 0) (pa_cons (pv 1) pa_nil))))) (pw_or (pt_not (pt_val (pe_callB call_isi (by rfl) (n_isinstance T) (by decide +kernel) (pa_cons (pv 2) (pa_cons (pe_bltn (v := .ty "tuple") rfl (n_tuple T) boot_tuple rfl) pa_nil))))) (pw_or1 (pt_cmpR op_ne (pe_callB call_len_seq (by rfl) (n_len T) boot_len (pa_cons (pv 2) pa_nil)) (pe_op op_mul (pv 0) (pv 1)) (nomark _)))))) (pss_one (ps_ret pe_bl)) pss_nil)
    (pss_cons (ps_if (pt_not (pt_val (pe_callB (cr_all rfl) (by rfl) (n_all T) (by decide +kernel) (pa_cons (pe_lc (own := [("piece", 3)]) (g := gName 3) (tt := tYes) rfl sc_is_pattern0.nd (pi_tup (pv 2)) (blkOk_by (own := [("piece", 3)]) (N := ["width", "height", "value", "piece"]) (sc := defScope s_is_pattern) (by decide +kernel)) (fun _ _ _ _ _ => (pg_name (i := 3) sc_is_pattern0.nd rfl (by first | exact Or.inl rfl | exact Or.inr rfl))) (fun _ _ _ _ _ => pts_nil) (fun _ _ _ _ _ => (pe_g (ok_is_number T) (hr.mono (by decide)) (g_is_number T) (kp_is_number T) pass0 (pa_cons (pv 3) (pa_cons pe_int (pa_cons (pe_glob rfl (Classical.choose_spec (c_MAX_CELLS T)).1 (Classical.choose_spec (c_MAX_CELLS T)).2) pa_nil)))))) pa_nil)))) (pss_one (ps_ret pe_bl)) pss_nil)
    (pss_one (ps_ret (pe_cmpR (op_eqD hr.units) (pe_g (ok_parted T) (hr.mono (by decide)) (g_parted T) (kp_parted T) pass0 (pa_cons (pv 0) (pa_cons (pv 1) (pa_cons (pv 2) pa_nil)))) (pv 2) (nomark _)))))), ?_⟩
    refine ⟨_, rfl, _, rfl, a, b, rfl, a1, a3, b1, b2, true, rfl, iteF ?_⟩
    refine ⟨_, rfl, _, _, .type "tuple", .type "tuple", true, rfl, .ty _, .base (.tup hv), kit_ty (by decide +kernel), true, rfl, iteF ?_⟩
    have hab : a * b ≤ 6 := Nat.le_trans (Nat.mul_le_mul a3 b2) (by decide)
    refine ⟨_, rfl, v, _, rfl, .inr (SqT.of hv), _, rfl, _, rfl, _, _, rfl, rfl, .inl ⟨by omega, by omega⟩, rfl, _, rfl, ?_⟩
    rw [natsV_len, hl]
    refine iteNS (by rw [Int.natCast_mul]) ?_
    refine ⟨_, rfl, v, rfl, ⟨_, SqT.of hv⟩, fun D hD => ?_⟩
    refine lc_map walk_tup ((List.replicate (natsV ws).length true).map V.bl) (by simp) (by rw [natsV_len]; exact small1000 (by omega)) hD (fun _ s => s.st (SqT.of hv)) (fun i x H1 H' C hi s y kk => ?_) mono_gName (fun H1 s1 hH => ?_)
    · obtain ⟨rfl, hx⟩ := y
      unfold natsV at hx
      rw [List.getElem?_map] at hx
      obtain ⟨z, hz, rfl⟩ := Option.map_eq_some_iff.mp hx
      have h99 := h9 z (List.mem_of_getElem? hz)
      refine ⟨rfl, _, rfl, _, _, _, rfl, ?_⟩
      rw [show (decide ((0 : Int) ≤ z) && decide ((z : Int) ≤ 9)) = true by simp; omega]
      exact kk _ _ (Same.refl _) (by rw [List.getElem?_map, List.getElem?_replicate, if_pos hi]; rfl)
    · refine ⟨D, _, rfl, SqL.of hH, ?_⟩
      rw [all_rep]
      refine ⟨true, rfl, iteF ?_⟩
      refine ⟨_, rfl, _, rfl, _, rfl, a, b, v, natsV ws, natsD ws, rfl, a1, a3, b1, b2, s1 _ _ hv, marks_nat ws, by rw [natsV_len, hl], fun p H2 s2 hp0 hp => ?_⟩
      refine ⟨_, rfl, .tuple (natsD (partedM a b (eqOf (natsD ws)))), .tuple (natsD ws), .tup (SqT.of hp) (dpAll_nat _), .tup (SqT.of (s2 _ _ (s1 _ _ hv))) (dpAll_nat _), (shaped_nats _).2, (shaped_nats _).2, ?_⟩
      have e : PyData.eqv (.tuple (natsD (partedM a b (eqOf (natsD ws))))) (.tuple (natsD ws)) = isPatM a b ws := by
        rw [isPatM, ← eqvAll_nat]
        simp [PyData.eqv]
      rw [e]
      exact k _ (s1.trans s2)
def sp_check_pattern (K : Fr) : Sp := fun vs H Q E => ∃ (p v : Addr) (D : PkS) (ws : List Nat), vs = [.ref p, .ref v] ∧ PkAt K H p D ∧ D.ok ∧ H v = some (.tup (natsV ws)) ∧ ws.length = D.w * D.h ∧ (∀ x ∈ ws, x ≤ 9) ∧
  (isPatM D.w D.h ws = true → ∀ H', Same H H' → Q .non H') ∧ (isPatM D.w D.h ws = false → ∀ H', Same H H' → E (.ref (C_InvalidPattern K)) none H')
theorem sc_check_pattern0 : FnScope ["packet", "pattern"] ["packet", "pattern"] (defScope s_check_pattern) := ⟨rfl, rfl, rfl, by decide +kernel, rfl, by decide +kernel, by decide +kernel⟩
theorem ok_check_pattern (T : Txt K mg w) : FnR P w K mg base (L2N.CX P w) 4 (a_check_pattern K) (sp_check_pattern K) := by
  refine fnrC (d_check_pattern T) sc_check_pattern0 (fun _ _ _ _ _ _ us hl => match us, hl with | [_, _], _ => rfl) (fun vs H Q E h => ?_) (fun cdv A outer s H vs Q E hr h => ?_)
  · obtain ⟨p, v, D, ws, rfl, _⟩ := h
    rfl
  · obtain ⟨p, v, D, ws, rfl, hp, o, hv, hl, h9, k, kE⟩ := h
    have tk : L2N.Takes (cxOf (L2N.CX P w) P w K mg base ["packet", "pattern"] (Str.ofString "check_pattern") (defScope s_check_pattern) (a_check_pattern K) cdv A outer s H E) (fun cls d _ H => E cls d H) := L2N.takes_of rfl rfl rfl rfl
    refine ⟨_, (pss_one (ps_if (pt_not (pt_val (pe_g (ok_is_pattern T) (hr.mono (by decide)) (g_is_pattern T) (kp_is_pattern T) pass0 (pa_cons (SlX.pe_propSl (pv 0) (sc_Packet T) (pr_Packet_width T).at_ (pr_Packet_width T).get (pr_Packet_width T).tak (pr_Packet_width T).rec_ (ok_Packet_width T) (hr.mono (by decide)) pass0p) (pa_cons (SlX.pe_propSl (pv 0) (sc_Packet T) (pr_Packet_height T).at_ (pr_Packet_height T).get (pr_Packet_height T).tak (pr_Packet_height T).rec_ (ok_Packet_height T) (hr.mono (by decide)) pass0p) (pa_cons (pv 1) pa_nil)))))) (pss_one (L2N.ps_raise rfl tk (L2N.pmk_own PySem.F.excBase_ValueError (ex_InvalidPattern T).1 (g_InvalidPattern T) (ex_InvalidPattern T).2.1 (raises_own (ex_InvalidPattern T).2.2.1 (ex_InvalidPattern T).2.2.2) rfl))) pss_nil)), ?_⟩
    obtain ⟨dx, t, s', e1, e2, e3⟩ := hp.parts
    refine ⟨_, rfl, p, dx, _, rfl, e1, p, D, rfl, hp, ?_⟩
    refine ⟨_, rfl, p, dx, _, rfl, e1, p, D, rfl, hp, ?_⟩
    refine ⟨_, rfl, D.w, D.h, v, ws, rfl, o.w1, o.w3, o.h1, o.h2, hv, hl, h9, fun H1 s1 => ⟨_, rfl, ?_⟩⟩
    cases e : isPatM D.w D.h ws with
    | true => exact iteF (k e H1 s1)
    | false => exact iteT (kE e H1 s1)
def sp_length_of (K : Fr) : Sp := fun vs H Q _ => ∃ (p v : Addr) (D : PkS) (ws : List Nat), vs = [.ref p, .ref v] ∧ PkAt K H p D ∧ D.ok ∧ H v = some (.tup (natsV ws)) ∧ ws.length = D.w * D.h ∧
  ∀ H', Same H H' → Q (.int (lengthM D.w D.h ws : Nat)) H'
theorem sc_length_of0 : FnScope ["packet", "pattern", "one", "other"] ["packet", "pattern"] (defScope s_length_of) := ⟨rfl, rfl, rfl, by decide +kernel, rfl, by decide +kernel, by decide +kernel⟩
theorem ok_length_of (T : Txt K mg w) : FnR P w K mg base CX0 3 (a_length_of K) (sp_length_of K) := by
  refine fnr0 (d_length_of T) sc_length_of0 (fun _ _ _ _ _ _ us hl => match us, hl with | [_, _], _ => rfl) (fun vs H Q E h => ?_) (fun cdv A outer s H vs Q E hr h => ?_)
  · obtain ⟨p, v, D, ws, rfl, _⟩ := h
    rfl
  · obtain ⟨p, v, D, ws, rfl, hp, o, hv, hl, k⟩ := h
    refine ⟨_, (pss_one (ps_ret (pe_callB call_len_seq (by rfl) (n_len T) boot_len (pa_cons (pe_lc (own := [("one", 2), ("other", 3)]) (g := gTup K 2 (gCons (gName 2) (gCons (gName 3) gNil))) rfl sc_length_of0.nd (pi_list (pe_g (ok_sides T) (hr.mono (by decide)) (g_sides T) (kp_sides T) pass0 (pa_cons (SlX.pe_propSl (pv 0) (sc_Packet T) (pr_Packet_width T).at_ (pr_Packet_width T).get (pr_Packet_width T).tak (pr_Packet_width T).rec_ (ok_Packet_width T) (hr.mono (by decide)) pass0p) (pa_cons (SlX.pe_propSl (pv 0) (sc_Packet T) (pr_Packet_height T).at_ (pr_Packet_height T).get (pr_Packet_height T).tak (pr_Packet_height T).rec_ (ok_Packet_height T) (hr.mono (by decide)) pass0p) pa_nil)))) (blkOk_by (own := [("one", 2), ("other", 3)]) (N := ["packet", "pattern", "one", "other"]) (sc := defScope s_length_of) (by decide +kernel)) (fun _ _ _ _ _ => (pg_tup rfl (pgs_cons (pg_name (i := 2) sc_length_of0.nd rfl (by first | exact Or.inl rfl | exact Or.inr rfl)) (pgs_cons (pg_name (i := 3) sc_length_of0.nd rfl (by first | exact Or.inl rfl | exact Or.inr rfl)) pgs_nil)))) (fun _ _ _ _ _ => (pts_one (pt_cmpR op_ne (pe_ix (show IxR _ (rIxT K) from ix_tup) (pv 1) (pv 2) (fun _ _ => rfl)) (pe_ix (show IxR _ (rIxT K) from ix_tup) (pv 1) (pv 3) (fun _ _ => rfl)) (nomark _)))) (fun _ _ _ _ _ => pe_int)) pa_nil)))), ?_⟩
    obtain ⟨dx, t, s', e1, e2, e3⟩ := hp.parts
    refine ⟨_, rfl, p, dx, _, rfl, e1, p, D, rfl, hp, ?_⟩
    refine ⟨_, rfl, p, dx, _, rfl, e1, p, D, rfl, hp, ?_⟩
    refine ⟨D.w, D.h, rfl, o.w1, o.w3, o.h1, o.h2, fun sl ts H1 s1 hsl0 hsl hP => ?_⟩
    have hlts : ts.length = (sidesM D.w D.h).length := Paired.length hP
    have hps := sides_lt D.w o.w3 D.h o.h2
    have hpl := sides_len12 D.w o.w3 D.h o.h2
    refine ⟨sl, rfl, ⟨_, SqL.of hsl⟩, fun Dl hDl => ?_⟩
    refine lc_acc (walk_list (xs := ts.map V.ref)) (fun i => (((sidesM D.w D.h).take i).filter fun p => decide (ws[p.1]? ≠ ws[p.2]?)).map fun _ => V.int 1) rfl (fun i hi => ?_) hDl (fun H2 s2 => s2.sq (SqL.of hsl)) (fun i x H2' H2 C Nx hi s2 hDD y kC kN => ?_) (fun H2 s2 hH => ?_)
    · rw [List.length_map]
      refine Nat.lt_of_le_of_lt (List.length_filter_le _ _) ?_
      rw [List.length_take]
      exact small1000 (by omega)
    · obtain ⟨rfl, hx⟩ := y
      rw [List.getElem?_map] at hx
      obtain ⟨q, hq, rfl⟩ := Option.map_eq_some_iff.mp hx
      obtain ⟨⟨p1, p2⟩, hpp, hpt⟩ := Paired.get (hP.mono s2) hq
      obtain ⟨hq1, hq2⟩ := hps _ (List.mem_of_getElem? hpp)
      dsimp only at hpt hq1 hq2
      refine ⟨q, _, rfl, SqT.of hpt, rfl, _, _, rfl, _, _, rfl, rfl, rfl, ?_⟩
      have g1 : (natsV ws)[p1]? = some (.int (ws[p1]'(by omega) : Nat)) := by unfold natsV; rw [List.getElem?_map]; simp [show p1 < ws.length by omega]
      have g2 : (natsV ws)[p2]? = some (.int (ws[p2]'(by omega) : Nat)) := by unfold natsV; rw [List.getElem?_map]; simp [show p2 < ws.length by omega]
      refine ⟨_, rfl, _, rfl, v, _, _, _, rfl, rfl, SqT.of (s2 _ _ (s1 _ _ hv)), atI_nat g1, _, rfl, _, rfl, v, _, _, _, rfl, rfl, SqT.of (s2 _ _ (s1 _ _ hv)), atI_nat g2, rfl, _, rfl, ?_⟩
      have eb : (!decide (V.int ((ws[p1]'(by omega) : Nat) : Int) = V.int ((ws[p2]'(by omega) : Nat) : Int))) = decide (ws[p1]? ≠ ws[p2]?) := by
        have z1 : ws[p1]? = some (ws[p1]'(by omega)) := by simp [show p1 < ws.length by omega]
        have z2 : ws[p2]? = some (ws[p2]'(by omega)) := by simp [show p2 < ws.length by omega]
        rw [z1, z2, ← decide_not]
        apply decide_eq_decide.mpr
        simp
        constructor
        · intro h e
          exact h (by rw [e])
        · intro h e
          exact h (by exact_mod_cast e)
      have ft : ((sidesM D.w D.h).take (i + 1)).filter (fun p => decide (ws[p.1]? ≠ ws[p.2]?)) = ((sidesM D.w D.h).take i).filter (fun p => decide (ws[p.1]? ≠ ws[p.2]?)) ++ (if decide (ws[p1]? ≠ ws[p2]?) = true then [(p1, p2)] else []) := by
        rw [List.take_add_one, hpp, List.filter_append]
        show _ ++ List.filter _ [(p1, p2)] = _
        rw [List.filter_cons, List.filter_nil]
      rw [eb]
      refine ite2 (fun h => kC _ _ (Same.refl _) ?_) (fun h => kN _ (Same.refl _) ?_)
      · show List.map _ (List.filter _ _) = _
        rw [ft, if_pos h, List.map_append]
        rfl
      · show List.map _ (List.filter _ _) = _
        rw [ft, if_neg h, List.append_nil]
    · refine ⟨Dl, _, rfl, .inl (SqL.of hH), ?_⟩
      rw [List.length_map]
      have : (sidesM D.w D.h).take (ts.map V.ref).length = sidesM D.w D.h := List.take_of_length_le (by rw [List.length_map, hlts]; exact Nat.le_refl _)
      rw [this]
      exact k H2 (s1.trans s2)
end
end S57


set_option Elab.async false
set_option linter.all false
set_option maxRecDepth 100000
set_option maxHeartbeats 4000000
namespace S57
open PySem PySem.Spec PyProof.Rows L2 TL
def chr1 (c : Nat) : Str := ⟨#[c]⟩
theorem tl_chr1 (c : Nat) : tl (chr1 c) = [c] := rfl
theorem joinL_nil : ∀ cs : List Nat, joinL [] (cs.map fun c => [c]) = cs
  | [] => rfl
  | [c] => rfl
  | c :: d :: r => by
    show [c] ++ ([] ++ joinL [] ((d :: r).map fun c => [c])) = _
    rw [joinL_nil (d :: r)]
    rfl
theorem join_chars (cs : List Nat) : (Txt.join "" (cs.map chr1)).cps.toList = cs := by
  have := tl_join "" (cs.map chr1)
  rw [← join_eq] at this
  rw [List.map_map] at this
  exact this.trans (joinL_nil cs)
theorem sum_chars (cs : List Nat) : ((cs.map chr1).map (·.length)).sum = cs.length := by
  induction cs with
  | nil => rfl
  | cons c r ih => 
    rw [List.map_cons, List.map_cons, List.sum_cons, ih]
    show 1 + r.length = r.length + 1
    omega
/-- the sign of the sheet that piece ws[c] takes at place c -/
def relC (sh : List Str) (ws : List Nat) (os : List (List Nat)) (number c : Nat) : Nat := (sh.getD ((os.getD (ws.getD c 0) []).getD number 0) ⟨#[]⟩).cps.toList.getD c 0
def relT (sh : List Str) (ws : List Nat) (os : List (List Nat)) (number : Nat) : Str := Txt.join "" (((List.range ws.length).map (relC sh ws os number)).map chr1)
def relaidM (sh : List Str) (ws : List Nat) (os : List (List Nat)) : List Str := (List.range sh.length).map (relT sh ws os)
/-- the sheet's rows, each from its end -/
def mirrorM (a b : Nat) (z : Str) : Str := Txt.join "" ((List.range b).map fun r => revT (cutS z (some ((r * a : Nat) : Int)) (some ((r * a + a : Nat) : Int))))
def overM (D : PkS) (i : Nat) : List Str := (List.range D.sh.length).map fun j => if j = i then mirrorM D.w D.h (D.sh.getD j ⟨#[]⟩) else D.sh.getD j ⟨#[]⟩
theorem rg_ok : ∀ a, a < 4 → ∀ b, b < 3 → 1 ≤ a → 1 ≤ b → Builtin.Range.small 0 ((a * b : Nat) : Int) (a : Nat) = true ∧ Builtin.Range.rangeSize 0 ((a * b : Nat) : Int) (a : Nat) = b := by decide +kernel
theorem revT_len (z : Str) : (revT z).length = z.length := by
  show (z.cps.toList.reverse.toArray).size = z.cps.size
  simp
theorem sum_le {B : Nat} : ∀ l : List Nat, (∀ x ∈ l, x ≤ B) → l.sum ≤ l.length * B
  | [], _ => by simp
  | x :: r, h => by
    rw [List.sum_cons, List.length_cons, Nat.succ_mul]
    have := sum_le r fun y hy => h y (List.mem_cons_of_mem _ hy)
    have := h x List.mem_cons_self
    omega
section
variable {P : Program} {w : World} {K : Fr} {mg : Str → Option Value} {base : Heap}
def sp_is_order : Sp := fun vs H Q _ => ∃ (v : Addr) (ws : List Nat) (n : Nat), vs = [.ref v, .int n] ∧ H v = some (.tup (natsV ws)) ∧ ws.length = n ∧ ws.Nodup ∧ (∀ x ∈ ws, x < n) ∧ n ≤ 100 ∧ ∀ H', Same H H' → Q (.bl true) H'
theorem sc_is_order0 : FnScope ["value", "count", "index"] ["value", "count"] (defScope s_is_order) := ⟨rfl, rfl, rfl, by decide +kernel, rfl, by decide +kernel, by decide +kernel⟩
theorem ok_is_order (T : Txt K mg w) : FnR P w K mg base CX0 2 (a_is_order K) (sp_is_order) := by
  refine fnr0 (d_is_order T) sc_is_order0 (fun _ _ _ _ _ _ us hl => match us, hl with | [_, _], _ => rfl) (fun vs H Q E h => ?_) (fun cdv A outer s H vs Q E hr h => ?_)
  · obtain ⟨v, ws, n, rfl, _⟩ := h
    rfl
  · obtain ⟨v, ws, n, rfl, hv, hl, hnd, hlt, hn, k⟩ := h
    refine ⟨_, (pss_cons (ps_if (PW.pt (pw_or (pt_not (pt_val (pe_callB call_isi (by rfl) (n_isinstance T) (by decide +kernel) (pa_cons (pv 0) (pa_cons (pe_bltn (v := .ty "tuple") rfl (n_tuple T) boot_tuple rfl) pa_nil))))) (pw_or1 (pt_cmpR op_ne (pe_callB call_len_seq (by rfl) (n_len T) boot_len (pa_cons (pv 0) pa_nil)) (pv 1) (nomark _))))) (pss_one (ps_ret pe_bl)) pss_nil)
    (pss_one (ps_ret (pe_and (pe_callB (cr_all rfl) (by rfl) (n_all T) (by decide +kernel) (pa_cons (pe_lc (own := [("index", 2)]) (g := gName 2) (tt := tYes) rfl sc_is_order0.nd (pi_tup (pv 0)) (blkOk_by (own := [("index", 2)]) (N := ["value", "count", "index"]) (sc := defScope s_is_order) (by decide +kernel)) (fun _ _ _ _ _ => (pg_name (i := 2) sc_is_order0.nd rfl (by first | exact Or.inl rfl | exact Or.inr rfl))) (fun _ _ _ _ _ => pts_nil) (fun _ _ _ _ _ => (pe_g (ok_is_number T) (hr.mono (by decide)) (g_is_number T) (kp_is_number T) pass0 (pa_cons (pv 2) (pa_cons pe_int (pa_cons (pe_op op_sub (pv 1) pe_int) pa_nil)))))) pa_nil)) (pe_one (pe_cmpR op_eq (pe_lenSetT rfl (n_len T) rfl (n_set T) (pv 0)) (pv 1) (nomark _))))))), ?_⟩
    refine ⟨_, rfl, _, _, .type "tuple", .type "tuple", true, rfl, .ty _, .base (.tup hv), kit_ty (by decide +kernel), true, rfl, iteF ?_⟩
    refine ⟨_, rfl, v, _, rfl, .inr (SqT.of hv), _, rfl, rfl, _, rfl, ?_⟩
    rw [natsV_len, hl]
    refine iteNS rfl ?_
    refine ⟨_, rfl, v, rfl, ⟨_, SqT.of hv⟩, fun D hD => ?_⟩
    refine lc_map walk_tup ((List.replicate (natsV ws).length true).map V.bl) (by simp) (by rw [natsV_len]; exact small1000 (by omega)) hD (fun _ s => s.st (SqT.of hv)) (fun i x H1 H' C hi s y kk => ?_) mono_gName (fun H1 s1 hH => ?_)
    · obtain ⟨rfl, hx⟩ := y
      unfold natsV at hx
      rw [List.getElem?_map] at hx
      obtain ⟨z, hz, rfl⟩ := Option.map_eq_some_iff.mp hx
      have h99 := hlt z (List.mem_of_getElem? hz)
      refine ⟨rfl, _, rfl, _, rfl, _, _, rfl, rfl, _, _, _, rfl, ?_⟩
      rw [show (decide ((0 : Int) ≤ z) && decide ((z : Int) ≤ (n : Int) - 1)) = true by simp; omega]
      exact kk _ _ (Same.refl _) (by rw [List.getElem?_map, List.getElem?_replicate, if_pos hi]; rfl)
    · refine ⟨D, _, rfl, SqL.of hH, ?_⟩
      rw [all_rep]
      refine ⟨true, rfl, iteT ?_⟩
      have hnd' : (ws.map fun x => ((x : Nat) : Int)).Nodup := by
        refine List.Pairwise.map _ (fun a b h e => h (by exact_mod_cast e)) hnd
      refine ⟨_, rfl, v, ws.map fun x => ((x : Nat) : Int), rfl, ?_, hnd', by rw [List.length_map]; omega, _, rfl, rfl, ?_⟩
      · rw [List.map_map]
        exact SqT.of (s1 _ _ hv)
      · rw [List.length_map, hl, decide_eq_true rfl]
        exact k _ s1
def sp_relaid : Sp := fun vs H Q _ => ∃ (s p o : Addr) (sh : List Str) (ws : List Nat) (oa : List Addr) (os : List (List Nat)), vs = [.ref s, .ref p, .ref o] ∧ H s = some (.tup (sh.map V.str)) ∧ H p = some (.tup (natsV ws)) ∧ H o = some (.lst (oa.map V.ref)) ∧ Paired (fun a l => H a = some (.tup (natsV l))) oa os ∧
  ws.length ≤ 6 ∧ sh.length ≤ 3 ∧ (∀ z ∈ sh, z.length = ws.length) ∧ (∀ x ∈ ws, x < os.length) ∧ (∀ l ∈ os, l.length = sh.length ∧ ∀ y ∈ l, y < sh.length) ∧
  ∀ q H', Same H H' → H' q = some (.tup ((relaidM sh ws os).map V.str)) → Q (.ref q) H'
theorem sc_relaid0 : FnScope ["sheets", "pattern", "orders", "found", "number", "letters", "cell", "piece"] ["sheets", "pattern", "orders"] (defScope s_relaid) := ⟨rfl, rfl, rfl, by decide +kernel, rfl, by decide +kernel, by decide +kernel⟩
theorem ok_relaid (T : Txt K mg w) : FnR P w K mg base CX0 1 (a_relaid K) (sp_relaid) := by
  refine fnr0 (d_relaid T) sc_relaid0 (fun _ _ _ _ _ _ us hl => match us, hl with | [_, _, _], _ => rfl) (fun vs H Q E h => ?_) (fun cdv A outer s H vs Q E hr h => ?_)
  · obtain ⟨s, p, o, sh, ws, oa, os, rfl, _⟩ := h
    rfl
  · obtain ⟨sA, p, o, sh, ws, oa, os, rfl, hs, hp, ho, hoa, hw6, hs3, hsl, hwo, hos, k⟩ := h
    refine ⟨_, (pss_cons (ps_set (i := 3) sc_relaid0.nd rfl (by first | exact Or.inl rfl | exact Or.inr rfl) (pe_lst pa_nil))
    (pss_cons (ps_for PassesOwn.never rfl (pi_range1 (by rfl) (n_range T) (pa_cons (pe_callB call_len_seq (by rfl) (n_len T) boot_len (pa_cons (pv 0) pa_nil)) pa_nil)) (pg_name (i := 4) sc_relaid0.nd rfl (by first | exact Or.inl rfl | exact Or.inr rfl))
    (pss_cons (ps_setLc (i := 5) (own := [("cell", 6), ("piece", 7)]) (g := gTup K 2 (gCons (gName 6) (gCons (gName 7) gNil))) (tt := tYes) rfl sc_relaid0.nd rfl rfl (sw_true rfl rfl rfl (by decide +kernel)) (pi_enumT (by rfl) (n_enumerate T) (pa_cons (pv 1) pa_nil)) (blkOk_by (own := [("cell", 6), ("piece", 7)]) (N := ["sheets", "pattern", "orders", "found", "number", "letters", "cell", "piece"]) (sc := defScope s_relaid) (by decide +kernel)) (fun _ _ _ _ _ => (pg_tup rfl (pgs_cons (pg_name (i := 6) sc_relaid0.nd rfl (by first | exact Or.inl rfl | exact Or.inr rfl)) (pgs_cons (pg_name (i := 7) sc_relaid0.nd rfl (by first | exact Or.inl rfl | exact Or.inr rfl)) pgs_nil)))) (fun _ _ _ _ _ => pts_nil) (fun _ _ _ _ _ => (pe_ix ix_str (pe_ix (show IxR _ (rIxT K) from ix_tup) (pv 0) (pe_ix (show IxR _ (rIxT K) from ix_tup) (pe_ix (show IxR _ (rIxL K) from ix_list) (pv 2) (pv 7) (fun _ _ => rfl)) (pv 4) (fun _ _ => rfl)) (fun _ _ => rfl)) (pv 6) (fun _ _ => rfl))))
    (pss_one (ps_expr (pe_bm PySem.F.plainAttrs_list PySem.F.slot_list_append PySem.F.type_list_append mt_append (pv 3) (pa_cons (pe_join pe_str (pv 5)) pa_nil))))))
    (pss_one (ps_ret (pe_callTy call_tuple_of (by rfl) (n_tuple T) (by decide +kernel) (pa_cons (pv 3) pa_nil)))))), ?_⟩
    refine ⟨Nat.zero_le _, fun l0 hl0 => ?_⟩
    refine ⟨_, rfl, sA, _, rfl, .inr (SqT.of (by rw [upd_ne (ne_of_none hs hl0)]; exact hs)), ((sh.map V.str).length : Nat), rfl, by omega, by rw [List.length_map]; omega, ?_⟩
    have e0 : (((sh.map V.str).length : Nat) : Int).toNat = sh.length := by rw [List.length_map]; rfl
    rw [e0]
    have hlo : os.length = oa.length := (Paired.length hoa).symm
    refine for_range (lo := 0) (n := sh.length) (fun i σ H' => ∃ v4 v5, σ = [some (.ref sA), some (.ref p), some (.ref o), some (.ref l0), v4, v5, none, none] ∧ Same H H' ∧ H' l0 = some (.lst (((List.range i).map (relT sh ws os)).map V.str)))
      ⟨none, none, rfl, Same.new hl0, upd_same⟩ ?_ ?_
    · rintro i σ H1 hi ⟨v4, v5, rfl, s1, hL⟩
      have ei : ((0 : Int) + (i : Nat)) = (i : Int) := by omega
      rw [ei]
      refine ⟨_, rfl, p, _, rfl, SqT.of (s1 _ _ hp), fun D hD => ?_⟩
      refine lc_map walk_enumT ((((List.range ws.length).map (relC sh ws os i)).map chr1).map V.str) (by simp [natsV_len]) (by rw [natsV_len]; exact small1000 (by omega)) hD (fun _ s2 => s2.st (SqT.of (s1 _ _ hp))) (fun c x H2 H3 C hc s2 y kk => ?_) mono_gTup2 (fun H2 s2 hH => ?_)
      · obtain ⟨T, x1, y1, rfl, hT, rfl, hx1, hy1⟩ := y
        cases hx1
        rw [natsV_len] at hc
        have hwc : ws[c]? = some ws[c] := by simp [hc]
        have hy : y1 = .int (ws[c] : Nat) := by
          have hy1 : (natsV ws)[c]? = some y1 := hy1
          unfold natsV at hy1
          rw [List.getElem?_map, hwc] at hy1
          exact (Option.some.inj hy1).symm
        subst hy
        have s3 : Same H (upd H2 T (.tup [.int (c : Nat), .int (ws[c] : Nat)])) := (s1.trans s2).new' hT
        have hpc : ws[c] < os.length := hwo _ (List.getElem_mem hc)
        have hpo : ws[c] < oa.length := by omega
        have hoc : oa[ws[c]]? = some (oa[ws[c]]) := by simp [hpo]
        obtain ⟨ol, hol, hoT⟩ := Paired.get hoa hoc
        have holm := List.mem_of_getElem? hol
        obtain ⟨ho1, ho2⟩ := hos ol holm
        have hoi : i < ol.length := by omega
        have hoi' : ol[i]? = some ol[i] := by simp [hoi]
        have hsi : ol[i] < sh.length := ho2 _ (List.getElem_mem hoi)
        have hsh : sh[ol[i]]? = some sh[ol[i]] := by simp [hsi]
        have hzl := hsl _ (List.getElem_mem hsi)
        have hcc : (sh[ol[i]]).cps.toList[c]? = some ((sh[ol[i]]).cps.toList[c]'(by show c < (sh[ol[i]]).cps.toList.length; rw [Array.length_toList]; show c < (sh[ol[i]]).length; omega)) := by
          rw [List.getElem?_eq_getElem]
        refine ⟨T, _, rfl, SqT.of upd_same, rfl, _, _, rfl, _, _, rfl, rfl, rfl, ?_⟩
        refine ⟨_, rfl, _, rfl, _, rfl, o, _, _, _, rfl, rfl, SqL.of (s3 _ _ ho), atI_nat (by rw [List.getElem?_map, hoc]; rfl), _, rfl, _, _, _, _, rfl, rfl, SqT.of (s3 _ _ hoT), atI_nat (by unfold natsV; rw [List.getElem?_map, hoi']; rfl), sA, _, _, _, rfl, rfl, SqT.of (s3 _ _ hs), atI_nat (by rw [List.getElem?_map, hsh]; rfl), ?_⟩
        refine ⟨_, rfl, sh[ol[i]], _, _, rfl, rfl, by rw [hzl]; exact Nat.le_of_lt (small1000 (by omega)), atI_nat hcc, ?_⟩
        refine kk _ _ (Same.new hT) ?_
        rw [List.getElem?_map, List.getElem?_map, List.getElem?_map, List.getElem?_range hc]
        show some (V.str (chr1 (relC sh ws os i c))) = _
        unfold relC
        rw [List.getD_eq_getElem?_getD, List.getD_eq_getElem?_getD, List.getD_eq_getElem?_getD, List.getD_eq_getElem?_getD, List.getD_eq_getElem?_getD, hwc]
        dsimp only [Option.getD_some]
        rw [hol]
        dsimp only [Option.getD_some]
        rw [hoi']
        dsimp only [Option.getD_some]
        rw [hsh]
        dsimp only [Option.getD_some]
        rw [hcc]
        rfl
      · have hL2 := s2 _ _ hL
        have hln : ((List.range i).map (relT sh ws os)).length ≤ 1000 := by rw [List.length_map, List.length_range]; omega
        refine ⟨_, rfl, .inl ⟨rfl, _, SqL.of hL2⟩, ⟨_, rfl⟩, _, rfl, "", D, (((List.range ws.length).map (relC sh ws os i)).map chr1), rfl, rfl, .inl (SqL.of hH), ?_, l0, _, _, rfl, rfl, hL2, by rw [List.length_map]; exact small1000 hln, ?_⟩
        · rw [sum_chars, List.length_map, List.length_map, List.length_range]
          show ws.length + ws.length * 0 ≤ _
          omega
        · refine ⟨_, _, rfl, (s1.trans s2).upd hl0, ?_⟩
          rw [upd_same, List.range_succ, List.map_append, List.map_append]
          rfl
    · rintro σ H1 ⟨v4, v5, rfl, s1, hL⟩
      exact ⟨_, rfl, l0, _, rfl, .inl ⟨SqL.of hL, fun r hr0 => k r _ (s1.new' hr0) upd_same⟩⟩
def sp_mirrored (K : Fr) : Sp := fun vs H Q _ => ∃ (p : Addr) (D : PkS) (z : Str), vs = [.ref p, .str z] ∧ PkAt K H p D ∧ D.ok ∧ z.length = D.w * D.h ∧ ∀ H', Same H H' → Q (.str (mirrorM D.w D.h z)) H'
theorem sc_mirrored0 : FnScope ["packet", "sheet", "rows", "begin", "row"] ["packet", "sheet"] (defScope s_mirrored) := ⟨rfl, rfl, rfl, by decide +kernel, rfl, by decide +kernel, by decide +kernel⟩
theorem ok_mirrored (T : Txt K mg w) : FnR P w K mg base CX0 3 (a_mirrored K) (sp_mirrored K) := by
  refine fnr0 (d_mirrored T) sc_mirrored0 (fun _ _ _ _ _ _ us hl => match us, hl with | [_, _], _ => rfl) (fun vs H Q E h => ?_) (fun cdv A outer s H vs Q E hr h => ?_)
  · obtain ⟨p, D, z, rfl, _⟩ := h
    rfl
  · obtain ⟨p, D, z, rfl, hp, o, hz, k⟩ := h
    refine ⟨_, (pss_cons (ps_setLc (i := 2) (own := [("begin", 3)]) (g := gName 3) (tt := tYes) rfl sc_mirrored0.nd rfl rfl (sw_true rfl rfl rfl (by decide +kernel)) (pi_range3 (by rfl) (n_range T) (pa_cons pe_int (pa_cons (SlX.pe_propSl (pv 0) (sc_Packet T) (pr_Packet_cells T).at_ (pr_Packet_cells T).get (pr_Packet_cells T).tak (pr_Packet_cells T).rec_ (ok_Packet_cells T) (hr.mono (by decide)) pass0p) (pa_cons (SlX.pe_propSl (pv 0) (sc_Packet T) (pr_Packet_width T).at_ (pr_Packet_width T).get (pr_Packet_width T).tak (pr_Packet_width T).rec_ (ok_Packet_width T) (hr.mono (by decide)) pass0p) pa_nil)))) (blkOk_by (own := [("begin", 3)]) (N := ["packet", "sheet", "rows", "begin", "row"]) (sc := defScope s_mirrored) (by decide +kernel)) (fun _ _ _ _ _ => (pg_name (i := 3) sc_mirrored0.nd rfl (by first | exact Or.inl rfl | exact Or.inr rfl))) (fun _ _ _ _ _ => pts_nil) (fun _ _ _ _ _ => (pe_slice sl_str (pv 1) (po_some (pv 3)) (po_some (pe_op op_add (pv 3) (SlX.pe_propSl (pv 0) (sc_Packet T) (pr_Packet_width T).at_ (pr_Packet_width T).get (pr_Packet_width T).tak (pr_Packet_width T).rec_ (ok_Packet_width T) (hr.mono (by decide)) pass0p))))))
    (pss_one (ps_ret (pe_join pe_str (pe_lc (own := [("row", 4)]) (g := gName 4) (tt := tYes) rfl sc_mirrored0.nd (pi_list (pv 2)) (blkOk_by (own := [("row", 4)]) (N := ["packet", "sheet", "rows", "begin", "row"]) (sc := defScope s_mirrored) (by decide +kernel)) (fun _ _ _ _ _ => (pg_name (i := 4) sc_mirrored0.nd rfl (by first | exact Or.inl rfl | exact Or.inr rfl))) (fun _ _ _ _ _ => pts_nil) (fun _ _ _ _ _ => (pe_revS (pv 4)))))))), ?_⟩
    have w1 := o.w1; have w3 := o.w3; have h1 := o.h1; have h2 := o.h2
    obtain ⟨c1, c6⟩ := o.cells
    obtain ⟨dx, t, s', e1, e2, e3⟩ := hp.parts
    obtain ⟨rg1, rg2⟩ := rg_ok D.w (by omega) D.h (by omega) w1 h1
    refine ⟨_, rfl, p, dx, _, rfl, e1, p, D, rfl, hp, o, ?_⟩
    refine ⟨_, rfl, p, dx, _, rfl, e1, p, D, rfl, hp, ?_⟩
    refine ⟨0, ((D.w * D.h : Nat) : Int), (D.w : Int), D.h, rfl, ⟨by omega, by omega, rg1, rg2⟩, fun L1 hL1 => ?_⟩
    have hzz : z.length ≤ sizeLine := Nat.le_of_lt (small1000 (by omega))
    refine lc_map walk_rangeC (((List.range D.h).map fun r => cutS z (some ((r * D.w : Nat) : Int)) (some ((r * D.w + D.w : Nat) : Int))).map V.str) (by simp) (by exact small1000 (by omega)) hL1 (fun _ _ => trivial) (fun r x H2' H2 C hr s2 y kk => ?_) mono_gName (fun H2 s2 hH => ?_)
    · obtain ⟨rfl, rfl⟩ := y
      refine ⟨rfl, _, rfl, _, rfl, _, rfl, _, rfl, _, rfl, p, dx, _, rfl, s2.slt e1, p, D, rfl, hp.mono s2, _, _, rfl, rfl, _, rfl, z, rfl, hzz, ?_⟩
      refine kk _ _ (Same.refl _) ?_
      rw [List.getElem?_map, List.getElem?_map, List.getElem?_range hr]
      show some (V.str _) = some (V.str _)
      have ea : ((r * D.w : Nat) : Int) = (0 : Int) + (r : Nat) * (D.w : Int) := by rw [Int.natCast_mul, Int.zero_add]
      have eb : ((r * D.w + D.w : Nat) : Int) = (0 : Int) + (r : Nat) * (D.w : Int) + (D.w : Int) := by rw [Int.natCast_add, Int.natCast_mul, Int.zero_add]
      show some (V.str (cutS z (some ((r * D.w : Nat) : Int)) (some ((r * D.w + D.w : Nat) : Int)))) = _
      rw [ea, eb]
    · refine ⟨⟨_, rfl⟩, _, rfl, L1, rfl, ⟨_, SqL.of hH⟩, fun L2 hL2 => ?_⟩
      refine lc_map (walk_list (xs := ((List.range D.h).map fun r => cutS z (some ((r * D.w : Nat) : Int)) (some ((r * D.w + D.w : Nat) : Int))).map V.str)) ((((List.range D.h).map fun r => revT (cutS z (some ((r * D.w : Nat) : Int)) (some ((r * D.w + D.w : Nat) : Int))))).map V.str) (by simp) (by simp; exact small1000 (by omega)) hL2 (fun _ s3 => s3.sq (SqL.of hH)) (fun r x H3' H3 C hr s3 y kk => ?_) mono_gName (fun H3 s3 hH3 => ?_)
      · obtain ⟨rfl, hx⟩ := y
        rw [List.length_map, List.length_map, List.length_range] at hr
        rw [List.getElem?_map, List.getElem?_map, List.getElem?_range hr] at hx
        cases hx
        refine ⟨rfl, _, rfl, _, rfl, Nat.le_trans (cutS_length _ _ _) hzz, kk _ _ (Same.refl _) ?_⟩
        rw [List.getElem?_map, List.getElem?_map, List.getElem?_range hr]
        rfl
      · refine ⟨"", L2, _, rfl, rfl, .inl (SqL.of hH3), ?_, k _ (s2.trans s3)⟩
        have := sum_le (B := z.length) ((((List.range D.h).map fun r => revT (cutS z (some ((r * D.w : Nat) : Int)) (some ((r * D.w + D.w : Nat) : Int))))).map (·.length)) (fun x hx => by
          obtain ⟨y, hy, rfl⟩ := List.mem_map.mp hx
          obtain ⟨r, _, rfl⟩ := List.mem_map.mp hy
          rw [revT_len]
          exact cutS_length _ _ _)
        rw [List.length_map, List.length_map, List.length_range] at this
        rw [List.length_map, List.length_range]
        have hb : D.h * z.length ≤ 2 * 6 := Nat.mul_le_mul h2 (by omega)
        show _ + D.h * 0 ≤ _
        omega
def sp_turned_over (K : Fr) : Sp := fun vs H Q _ => ∃ (p t : Addr) (D : PkS) (i : Nat), vs = [.ref p, .ref t] ∧ PkAt K H p D ∧ D.ok ∧ H t = some (.tup [.int i]) ∧ ∀ q H', Same H H' → H' q = some (.tup ((overM D i).map V.str)) → Q (.ref q) H'
theorem sc_turned_over0 : FnScope ["packet", "indexes", "rows", "index", "sheet"] ["packet", "indexes"] (defScope s_turned_over) := ⟨rfl, rfl, rfl, by decide +kernel, rfl, by decide +kernel, by decide +kernel⟩
theorem ok_turned_over (T : Txt K mg w) : FnR P w K mg base CX0 4 (a_turned_over K) (sp_turned_over K) := by
  refine fnr0 (d_turned_over T) sc_turned_over0 (fun _ _ _ _ _ _ us hl => match us, hl with | [_, _], _ => rfl) (fun vs H Q E h => ?_) (fun cdv A outer s H vs Q E hr h => ?_)
  · obtain ⟨p, t, D, i, rfl, _⟩ := h
    rfl
  · obtain ⟨p, t, D, i, rfl, hp, o, ht, k⟩ := h
    refine ⟨_, (pss_cons (ps_set (i := 2) sc_turned_over0.nd rfl (by first | exact Or.inl rfl | exact Or.inr rfl) (pe_listEnum rfl rfl (n_list T) rfl (n_enumerate T) (SlX.pe_propSl (pv 0) (sc_Packet T) (pr_Packet_sheets T).at_ (pr_Packet_sheets T).get (pr_Packet_sheets T).tak (pr_Packet_sheets T).rec_ (ok_Packet_sheets T) (hr.mono (by decide)) pass0p)))
    (pss_one (ps_ret (pe_callTy call_tuple_of (by rfl) (n_tuple T) (by decide +kernel) (pa_cons (pe_lc (own := [("index", 3), ("sheet", 4)]) (g := gTup K 2 (gCons (gName 3) (gCons (gName 4) gNil))) (tt := tYes) rfl sc_turned_over0.nd (pi_list (pv 2)) (blkOk_by (own := [("index", 3), ("sheet", 4)]) (N := ["packet", "indexes", "rows", "index", "sheet"]) (sc := defScope s_turned_over) (by decide +kernel)) (fun _ _ _ _ _ => (pg_tup rfl (pgs_cons (pg_name (i := 3) sc_turned_over0.nd rfl (by first | exact Or.inl rfl | exact Or.inr rfl)) (pgs_cons (pg_name (i := 4) sc_turned_over0.nd rfl (by first | exact Or.inl rfl | exact Or.inr rfl)) pgs_nil)))) (fun _ _ _ _ _ => pts_nil) (fun _ _ _ _ _ => (pe_ifExp (pt_cmpR (show OpR _ _ (rIn K false) from op_in_seq) (pv 3) (pv 1) rfl) (pe_g (ok_mirrored T) (hr.mono (by decide)) (g_mirrored T) (kp_mirrored T) pass0 (pa_cons (pv 0) (pa_cons (pv 4) pa_nil))) (pv 4)))) pa_nil))))), ?_⟩
    have n3 := o.n3
    obtain ⟨dx, t', s', e1, e2, e3⟩ := hp.parts
    refine ⟨_, rfl, p, dx, _, rfl, e1, p, D, rfl, hp, fun sA hsA => ?_⟩
    refine ⟨sA, _, rfl, SqT.of hsA, by rw [List.length_map]; omega, fun S H1 ts hS0 s1 hS htl hP => ?_⟩
    rw [List.length_map] at htl
    refine ⟨_, rfl, S, rfl, ⟨_, SqL.of hS⟩, fun L hL => ?_⟩
    refine lc_map (walk_list (xs := ts.map V.ref)) ((overM D i).map V.str) (by simp [overM, htl]) (by rw [List.length_map]; exact small1000 (by omega)) hL (fun _ s2 => s2.sq (SqL.of hS)) (fun j x H2' H2 C hj s2 y kk => ?_) mono_gTup2 (fun H2 s2 hH => ?_)
    · obtain ⟨rfl, hx⟩ := y
      rw [List.length_map] at hj
      rw [List.getElem?_map] at hx
      obtain ⟨T1, hT1, rfl⟩ := Option.map_eq_some_iff.mp hx
      have hT : H2 T1 = some (.tup [.int (j : Nat), (D.sh.map V.str).getD j .non]) := s2 _ _ (hP j T1 hT1)
      have hjs : j < D.sh.length := by omega
      have hzj : D.sh[j]? = some D.sh[j] := by simp [hjs]
      have hg : (D.sh.map V.str).getD j .non = .str D.sh[j] := by rw [List.getD_eq_getElem?_getD, List.getElem?_map, hzj]; rfl
      rw [hg] at hT
      have hres : ((overM D i).map V.str)[j]? = some (.str (if j = i then mirrorM D.w D.h D.sh[j] else D.sh[j])) := by
        unfold overM
        rw [List.getElem?_map, List.getElem?_map, List.getElem?_range hjs]
        show some (V.str (if j = i then mirrorM D.w D.h (D.sh.getD j ⟨#[]⟩) else D.sh.getD j ⟨#[]⟩)) = _
        rw [List.getD_eq_getElem?_getD, hzj]
        rfl
      refine ⟨T1, _, rfl, SqT.of hT, rfl, _, _, rfl, _, _, rfl, rfl, rfl, ?_⟩
      refine ⟨_, rfl, _, rfl, t, _, rfl, .inr (SqT.of (s2 _ _ (s1 _ _ ht))), rfl, rfl, _, rfl, ?_⟩
      have ei : inV (.int (j : Nat)) [.int (i : Nat)] = decide (j = i) := by
        show (eqV _ _ || false) = _
        show ((((i : Nat) : Int) == ((j : Nat) : Int)) || false) = _
        rw [Bool.or_false]
        by_cases e : j = i
        · simp [e]
        · have : ¬ ((i : Int) = j) := by omega
          simp [e, this]
      show if inV (.int (j : Nat)) [.int (i : Nat)] = true then _ else _
      rw [ei]
      refine ite2 (fun h => ?_) (fun h => ?_)
      · have hji := of_decide_eq_true h
        refine ⟨_, rfl, _, rfl, p, D, D.sh[j], rfl, hp.mono (s1.trans s2), o, o.len _ (List.getElem_mem hjs), fun H3 s3 => kk _ _ s3 ?_⟩
        rw [hres, if_pos hji]
      · have hji : ¬ j = i := fun e => h (decide_eq_true e)
        refine ⟨_, rfl, kk _ _ (Same.refl _) ?_⟩
        rw [hres, if_neg hji]
    · refine ⟨L, _, rfl, .inl ⟨SqL.of hH, fun r hr0 => k r _ ((s1.trans s2).new' hr0) upd_same⟩⟩
end
end S57


set_option Elab.async false
set_option linter.all false
set_option maxRecDepth 100000
set_option maxHeartbeats 4000000
namespace S57
open PySem PySem.Spec PyProof.Rows L2 TL
/-! ### heaps that change at few places -/
structure Off (M : List Addr) (H H' : Hp) : Prop where
  old : ∀ a u, a ∉ M → H a = some u → H' a = some u
  tup : ∀ a xs, H a = some (.tup xs) → H' a = some (.tup xs)
  xd : ∀ a, H a = some (.xd []) → H' a = some (.xd [])
  there : ∀ a u, H a = some u → ∃ u', H' a = some u'
theorem Off.of {M : List Addr} {H H' : Hp} (s : Same H H') : Off M H H' := ⟨fun a u _ e => s a u e, fun a xs e => s a _ e, fun a e => s a _ e, fun a u e => ⟨u, s a u e⟩⟩
theorem Off.refl (M : List Addr) (H : Hp) : Off M H H := Off.of (Same.refl H)
theorem Off.trans {M : List Addr} {H H1 H2 : Hp} (a : Off M H H1) (b : Off M H1 H2) : Off M H H2 :=
  ⟨fun c u h e => b.old c u h (a.old c u h e), fun c xs e => b.tup c xs (a.tup c xs e), fun c e => b.xd c (a.xd c e), fun c u e => let ⟨u', e'⟩ := a.there c u e; b.there c u' e'⟩
theorem Off.mono {M M' : List Addr} {H H' : Hp} (a : Off M H H') (h : ∀ x ∈ M, x ∈ M') : Off M' H H' := ⟨fun c u hn e => a.old c u (fun z => hn (h c z)) e, a.tup, a.xd, a.there⟩
theorem Off.mut {M : List Addr} {H : Hp} {a : Addr} {o u : HO} (h : a ∈ M) (e : H a = some u) (n1 : ∀ xs, u ≠ .tup xs) (n2 : u ≠ .xd []) : Off M H (upd H a o) := by
  refine ⟨fun b v hb q => ?_, fun b xs q => ?_, fun b q => ?_, fun b v q => ?_⟩
  · rw [upd_ne (fun z => hb (by rw [z]; exact h))]; exact q
  · rw [upd_ne (fun z => by rw [z, e] at q; exact n1 xs (Option.some.inj q))]; exact q
  · rw [upd_ne (fun z => by rw [z, e] at q; exact n2 (Option.some.inj q))]; exact q
  · by_cases z : b = a
    · exact ⟨o, by rw [z, upd_same]⟩
    · exact ⟨v, by rw [upd_ne z]; exact q⟩
theorem Off.new {M : List Addr} {H H' : Hp} {a : Addr} {o : HO} (s : Off M H H') (h : H' a = none) : Off M H (upd H' a o) := s.trans (Off.of (Same.new h))
theorem Off.updN {M : List Addr} {H H' : Hp} {a : Addr} {o : HO} (s : Off M H H') (h : H a = none) : Off M H (upd H' a o) :=
  ⟨fun b u hb e => by rw [upd_ne (ne_of_none e h)]; exact s.old b u hb e, fun b xs e => by rw [upd_ne (ne_of_none e h)]; exact s.tup b xs e, fun b e => by rw [upd_ne (ne_of_none e h)]; exact s.xd b e, fun b u e => by rw [upd_ne (ne_of_none e h)]; exact s.there b u e⟩
theorem slO_tup {a C dx : Addr} {vs : List (Option V)} {xs : List V} : SlX.SlO a C dx vs ≠ .tup xs := fun z => by unfold SlX.SlO at z; cases z
theorem slO_ins {a C dx A D : Addr} {vs : List (Option V)} {fs : List (Str × V)} : SlX.SlO a C dx vs ≠ .ins A D fs := fun z => by unfold SlX.SlO at z; cases z
theorem slO_lst {a C dx : Addr} {vs : List (Option V)} {xs : List V} : SlX.SlO a C dx vs ≠ .lst xs := fun z => by unfold SlX.SlO at z; cases z
theorem PkAt.off {K : Fr} {M : List Addr} {H H' : Hp} {p : Addr} {D : PkS} (h : PkAt K H p D) (s : Off M H H') (hp : p ∉ M) : PkAt K H' p D := by
  obtain ⟨dx, t, a, h1, h2, h3⟩ := h
  refine ⟨dx, t, a, ?_, s.tup _ _ h2, s.tup _ _ h3⟩
  rcases h1 with ⟨h1, e⟩ | ⟨h1, e⟩
  · cases e
  · exact .inr ⟨s.old _ _ hp h1, s.xd _ e⟩
/-! ### the bench's state -/
inductive Op
  | saw (ws : List Nat)
  | exchange (p : Nat) (o : List Nat)
  | glue
  | over (i : Nat)
def OpAt (H : Hp) (a : Addr) : Op → Prop
  | .saw ws => ∃ t, H a = some (.tup [.str "saw", .ref t]) ∧ H t = some (.tup (natsV ws))
  | .exchange p o => ∃ t, H a = some (.tup [.str "exchange", .int (p : Nat), .ref t]) ∧ H t = some (.tup (natsV o))
  | .glue => H a = some (.tup [.str "glue"])
  | .over i => H a = some (.tup [.str "over", .int (i : Nat)])
theorem OpAt.off {M : List Addr} {H H' : Hp} {a : Addr} {op : Op} (h : OpAt H a op) (s : Off M H H') : OpAt H' a op := by
  cases op with
  | saw ws => obtain ⟨t, h1, h2⟩ := h; exact ⟨t, s.tup _ _ h1, s.tup _ _ h2⟩
  | exchange p o => obtain ⟨t, h1, h2⟩ := h; exact ⟨t, s.tup _ _ h1, s.tup _ _ h2⟩
  | glue => exact s.tup _ _ h
  | over i => exact s.tup _ _ h
def EntAt (H : Hp) (e : Addr) (op : Op) : Prop := ∃ a x y, H e = some (.tup [.ref a, x, y]) ∧ OpAt H a op
theorem EntAt.off {M : List Addr} {H H' : Hp} {a : Addr} {op : Op} (h : EntAt H a op) (s : Off M H H') : EntAt H' a op := by
  obtain ⟨b, x, y, h1, h2⟩ := h
  exact ⟨b, x, y, s.tup _ _ h1, h2.off s⟩
def PastAt (H : Hp) (t : Addr) (past : List Op) : Prop := ∃ es : List Addr, H t = some (.tup (es.map V.ref)) ∧ Paired (EntAt H) es past
theorem PastAt.off {M : List Addr} {H H' : Hp} {a : Addr} {ops : List Op} (h : PastAt H a ops) (s : Off M H H') : PastAt H' a ops := by
  obtain ⟨es, h1, h2⟩ := h
  exact ⟨es, s.tup _ _ h1, Paired.mapP h2 fun _ _ e => e.off s⟩
structure BS where
  D : PkS
  ws : List Nat
  len : Int
  past : List Op
structure BS.ok (S : BS) : Prop where
  D : S.D.ok
  len : S.ws.length = S.D.w * S.D.h
  bd : ∀ x ∈ S.ws, x ≤ 9
/-- what the state's facts are; the packet is none of M -/
def FcAt (K : Fr) (H : Hp) (M : List Addr) (f : Addr) (S : BS) : Prop := ∃ p v, H f = some (.tup [.ref p, .ref v, .int S.len]) ∧ p ∉ M ∧ PkAt K H p S.D ∧ H v = some (.tup (natsV S.ws))
theorem FcAt.off {K : Fr} {N M : List Addr} {H H' : Hp} {f : Addr} {S : BS} (h : FcAt K H M f S) (s : Off N H H') (hM : ∀ x ∈ N, x ∈ M ∨ (∃ A D fs, H x = some (.ins A D fs)) ∨ ∃ xs, H x = some (.lst xs)) : FcAt K H' M f S := by
  obtain ⟨p, v, h1, h2, h3, h4⟩ := h
  refine ⟨p, v, s.tup _ _ h1, h2, h3.off s (fun z => ?_), s.tup _ _ h4⟩
  rcases hM p z with e | ⟨A, D, fs, e⟩ | ⟨xs, e⟩
  · exact h2 e
  · obtain ⟨dx, t, q, w1, w2, w3⟩ := h3
    rcases w1 with ⟨w1, e'⟩ | ⟨w1, e'⟩
    · cases e'
    · rw [w1] at e
      exact slO_ins (Option.some.inj e)
  · obtain ⟨dx, t, q, w1, w2, w3⟩ := h3
    rcases w1 with ⟨w1, e'⟩ | ⟨w1, e'⟩
    · cases e'
    · rw [w1] at e
      exact slO_lst (Option.some.inj e)
def StAt (K : Fr) (H : Hp) (st dst f p : Addr) (sh u : V) : Prop := SlX.Slt H st (C_State K) dst [some (.ref f), some (.ref p), some sh, some u] ∧ dst ≠ st
theorem StAt.sl {K : Fr} {H : Hp} {st dst f p : Addr} {sh u : V} (h : StAt K H st dst f p sh u) : H st = some (SlX.SlO st (C_State K) dst [some (.ref f), some (.ref p), some sh, some u]) ∧ H dst = some (.xd []) := by
  rcases h.1 with ⟨_, e⟩ | h
  · cases e
  · exact h
/-- a store into a slot of the state -/
theorem Off.sl {M : List Addr} {K : Fr} {H : Hp} {st dst : Addr} {vs vs' : List (Option V)} (h1 : H st = some (SlX.SlO st (C_State K) dst vs)) (h2 : H dst = some (.xd [])) (hm : st ∈ M) : Off M H (SlX.slH H st (C_State K) dst vs') := by
  have e : SlX.slH H st (C_State K) dst vs' = upd H st (SlX.SlO st (C_State K) dst vs') := by
    unfold SlX.slH
    funext b
    by_cases z : b = st
    · rw [z, upd_same, upd_same]
    · rw [upd_ne z, upd_ne z]
      by_cases y : b = dst
      · rw [y, upd_same, h2]
      · rw [upd_ne y]
  rw [e]
  exact Off.mut hm h1 (fun _ => slO_tup) SlX.slO_not
def BnAt (K : Fr) (H : Hp) (M : List Addr) (b st dst : Addr) (S : BS) : Prop := ∃ dxb f p sh u, H b = some (.ins (C_Bench K) dxb [("held", .ref st)]) ∧ StAt K H st dst f p sh u ∧ FcAt K H M f S ∧ PastAt H p S.past ∧ st ∈ M ∧ ∀ x ∈ M, ∃ u, H x = some u
/-- a bench's errors -/
def SErr (K : Fr) (c : Addr) : Prop := c = C_InvalidPattern K ∨ c = C_UnknownPiece K ∨ c = C_UnknownSheet K ∨ c = C_NotWhole K ∨ c = C_UnknownCell K
/-! ### the mirrors -/
def zipD (a b : List Nat) (n : Nat) : List PyData := (List.range n).map fun i => .tuple [.int ((a.getD i 0 : Nat) : Int), .int ((b.getD i 0 : Nat) : Int)]
def sawM (S : BS) (ws : List Nat) : BS :=
  let later := partedM S.D.w S.D.h (eqOf (zipD S.ws ws (S.D.w * S.D.h)))
  ⟨S.D, later, S.len + ((lengthM S.D.w S.D.h later : Nat) - (lengthM S.D.w S.D.h S.ws : Nat)), S.past ++ [.saw ws]⟩
def maxM (ws : List Nat) : Nat := ws.foldl max 0
def ordersM (n mx p : Nat) (o : List Nat) : List (List Nat) := (List.range (mx + 1)).map fun k => if k = p then o else List.range n
def exchM (S : BS) (p : Nat) (o : List Nat) : BS := ⟨⟨S.D.w, S.D.h, relaidM S.D.sh S.ws (ordersM S.D.sh.length (maxM S.ws) p o)⟩, S.ws, S.len, S.past ++ [.exchange p o]⟩
def glueM (S : BS) : BS := ⟨S.D, List.replicate S.ws.length 0, S.len, S.past ++ [.glue]⟩
def overS (S : BS) (i : Nat) : BS := ⟨⟨S.D.w, S.D.h, overM S.D i⟩, S.ws, S.len, S.past ++ [.over i]⟩
/-- one operation: the new state, or none where it raises -/
def opM (S : BS) : Op → Option BS
  | .saw ws => if isPatM S.D.w S.D.h ws = true then some (sawM S ws) else none
  | .exchange p o => if p ≤ maxM S.ws then some (exchM S p o) else none
  | .glue => some (glueM S)
  | .over i => if i < S.D.sh.length ∧ maxM S.ws = 0 then some (overS S i) else none
/-- what an operation must be -/
def Op.ok (D : PkS) : Op → Prop
  | .saw ws => ws.length = D.w * D.h ∧ ∀ x ∈ ws, x ≤ 9
  | .exchange p o => o.length = D.sh.length ∧ o.Nodup ∧ ∀ x ∈ o, x < D.sh.length
  | .glue => True
  | .over _ => True
theorem dfs_val (nr : Nr) (c : Nat) : ∀ (k : Nat) (F : Fd) (ws : List Nat), ∀ p ∈ dfsM nr c k F ws, p ∈ F ∨ p.2 = c
  | 0, F, ws, p, h => .inl h
  | k + 1, F, ws, p, h => by
    rw [dfsM] at h
    split at h
    · exact .inl h
    · split at h
      · exact dfs_val nr c k F _ p h
      · rcases dfs_val nr c k _ _ p h with q | q
        · rcases List.mem_append.mp q with q | q
          · exact .inl q
          · rw [List.mem_singleton.mp q]; exact .inr rfl
        · exact .inr q
theorem partUp_val (nr : Nr) : ∀ i, (partUp nr i).2 ≤ i ∧ ∀ p ∈ (partUp nr i).1, p.2 < (partUp nr i).2
  | 0 => ⟨Nat.le_refl _, fun p h => by cases h⟩
  | i + 1 => by
    obtain ⟨a, b⟩ := partUp_val nr i
    rw [partUp_succ]
    unfold partStep
    split
    · exact ⟨by omega, b⟩
    · refine ⟨by show _ + 1 ≤ _; omega, fun p h => ?_⟩
      show p.2 < _ + 1
      rcases dfs_val nr _ _ _ _ p h with q | q
      · have := b p q
        omega
      · omega
theorem partedM_bd (w h : Nat) (eq : Nat → Nat → Bool) : ∀ x ∈ partedM w h eq, x ≤ w * h := fun x hx => by
  unfold partedM at hx
  obtain ⟨i, _, rfl⟩ := List.mem_map.mp hx
  obtain ⟨a, b⟩ := partUp_val (nearUp eq (sidesM w h) (sidesM w h).length) (w * h)
  cases e : lookF (partUp (nearUp eq (sidesM w h) (sidesM w h).length) (w * h)).1 i with
  | none => exact Nat.zero_le _
  | some v =>
    show v ≤ _
    unfold lookF at e
    obtain ⟨p, hp, rfl⟩ := Option.map_eq_some_iff.mp e
    have := b p (List.mem_of_find?_eq_some hp)
    omega
theorem maxM_le {ws : List Nat} {B : Nat} (h : ∀ x ∈ ws, x ≤ B) : maxM ws ≤ B := by
  have key : ∀ (ws : List Nat) (m : Nat), m ≤ B → (∀ x ∈ ws, x ≤ B) → ws.foldl max m ≤ B := by
    intro ws
    induction ws with
    | nil => intro m hm _; exact hm
    | cons x r ih =>
      intro m hm hx
      exact ih (max m x) (Nat.max_le.mpr ⟨hm, hx x List.mem_cons_self⟩) fun y hy => hx y (List.mem_cons_of_mem _ hy)
  exact key ws 0 (Nat.zero_le _) h
theorem foldl_max : ∀ (ws : List Nat) (m : Nat), m ≤ ws.foldl max m ∧ (∀ x ∈ ws, x ≤ ws.foldl max m) ∧ (ws.foldl max m = m ∨ ws.foldl max m ∈ ws)
  | [], m => ⟨Nat.le_refl _, (fun x h => by cases h), .inl rfl⟩
  | y :: r, m => by
    obtain ⟨a, b, c⟩ := foldl_max r (max m y)
    refine ⟨Nat.le_trans (Nat.le_max_left ..) a, fun x hx => ?_, ?_⟩
    · rcases List.mem_cons.mp hx with rfl | hx
      · exact Nat.le_trans (Nat.le_max_right ..) a
      · exact b x hx
    · rcases c with c | c
      · rcases Nat.le_total m y with h | h
        · right
          show (r.foldl max (max m y)) ∈ y :: r
          rw [c, Nat.max_eq_right h]
          exact List.mem_cons_self
        · left
          show r.foldl max (max m y) = m
          rw [c, Nat.max_eq_left h]
      · exact .inr (List.mem_cons_of_mem _ c)
theorem maxM_is {ws : List Nat} (hne : ws ≠ []) {m : Int} (h1 : m ∈ ws.map fun x => ((x : Nat) : Int)) (h2 : ∀ y ∈ ws.map fun x => ((x : Nat) : Int), y ≤ m) : m = (maxM ws : Nat) := by
  obtain ⟨a, b, c⟩ := foldl_max ws 0
  obtain ⟨x, hx, rfl⟩ := List.mem_map.mp h1
  have hb := b x hx
  have : maxM ws ≤ x := by
    unfold maxM
    rcases c with c | c
    · rw [c]; exact Nat.zero_le _
    · have := h2 _ (List.mem_map.mpr ⟨_, c, rfl⟩)
      exact_mod_cast this
  have h3 : x = maxM ws := Nat.le_antisymm hb this
  exact_mod_cast h3
theorem maxM_ge {ws : List Nat} {x : Nat} (h : x ∈ ws) : x ≤ maxM ws := (foldl_max ws 0).2.1 x h
/-! ### the mirrors keep a packet a packet -/
theorem cutS_sub {z : Str} {lo hi : Option Int} {c : Nat} (h : c ∈ (cutS z lo hi).cps.toList) : c ∈ z.cps.toList := by
  have h : c ∈ (((z.cps.toList.drop (HT.sIx z.length 0 lo)).take (HT.sIx z.length z.length hi - HT.sIx z.length 0 lo)).toArray).toList := h
  simp only [List.toList_toArray] at h
  exact List.mem_of_mem_drop (List.mem_of_mem_take h)
theorem mem_join {c : Nat} {l : List Str} (h : c ∈ (Txt.join "" l).cps.toList) : ∃ z ∈ l, c ∈ z.cps.toList := by
  have e := tl_join "" l
  rw [← join_eq] at e
  have h : c ∈ joinL (tl "") (l.map tl) := by rw [← e]; exact h
  have key : ∀ l : List (List Nat), c ∈ joinL [] l → ∃ z ∈ l, c ∈ z := by
    intro l
    induction l with
    | nil => intro h; cases h
    | cons p r ih =>
      intro h
      cases r with
      | nil => exact ⟨p, by simp, h⟩
      | cons q r =>
        have h : c ∈ p ++ ([] ++ joinL [] (q :: r)) := h
        rcases List.mem_append.mp h with h | h
        · exact ⟨p, by simp, h⟩
        · obtain ⟨z, hz, hc⟩ := ih h
          exact ⟨z, List.mem_cons_of_mem _ hz, hc⟩
  obtain ⟨z, hz, hc⟩ := key _ h
  obtain ⟨y, hy, rfl⟩ := List.mem_map.mp hz
  exact ⟨y, hy, hc⟩
theorem joinL_nil_len : ∀ l : List (List Nat), (joinL [] l).length = (l.map List.length).sum
  | [] => rfl
  | [p] => by simp [joinL]
  | p :: q :: r => by
    show (p ++ ([] ++ joinL [] (q :: r))).length = _
    rw [List.length_append, List.nil_append, joinL_nil_len (q :: r)]
    simp
theorem join_len (l : List Str) : (Txt.join "" l).length = (l.map (·.length)).sum := by
  have e := tl_join "" l
  rw [← join_eq] at e
  have : (Txt.join "" l).length = (joinL [] (l.map tl)).length := by
    show (Txt.join "" l).cps.size = _
    rw [← Array.length_toList]
    exact congrArg List.length e
  rw [this, joinL_nil_len, List.map_map]
  congr 1
theorem relaid_ok {D : PkS} {ws : List Nat} {os : List (List Nat)} (o : D.ok) (hl : ws.length = D.w * D.h) (hwo : ∀ x ∈ ws, x < os.length) (hos : ∀ l ∈ os, l.length = D.sh.length ∧ ∀ y ∈ l, y < D.sh.length) : PkS.ok ⟨D.w, D.h, relaidM D.sh ws os⟩ := by
  refine ⟨o.w1, o.w3, o.h1, o.h2, by simp [relaidM]; exact o.n1, by simp [relaidM]; exact o.n3, fun z hz => ?_, fun z hz c hc => ?_⟩
  · obtain ⟨i, hi, rfl⟩ := List.mem_map.mp hz
    show (relT D.sh ws os i).length = _
    unfold relT
    rw [join_len, sum_chars, List.length_map, List.length_range, hl]
  · obtain ⟨i, hi, rfl⟩ := List.mem_map.mp hz
    have hi := List.mem_range.mp hi
    unfold relT at hc
    rw [join_chars] at hc
    obtain ⟨k, hk, rfl⟩ := List.mem_map.mp hc
    have hk := List.mem_range.mp hk
    unfold relC
    have hwk : ws.getD k 0 = ws[k] := by rw [List.getD_eq_getElem?_getD]; simp [hk]
    have hp := hwo _ (List.getElem_mem hk)
    have hok : os.getD ws[k] [] = os[ws[k]] := by rw [List.getD_eq_getElem?_getD]; simp [hp]
    obtain ⟨h1, h2⟩ := hos _ (List.getElem_mem hp)
    have hii : i < (os[ws[k]]).length := by omega
    have hoi : (os[ws[k]]).getD i 0 = (os[ws[k]])[i] := by rw [List.getD_eq_getElem?_getD]; simp [hii]
    have hs := h2 _ (List.getElem_mem hii)
    have hsh : D.sh.getD ((os[ws[k]])[i]) ⟨#[]⟩ = D.sh[(os[ws[k]])[i]] := by rw [List.getD_eq_getElem?_getD]; simp [hs]
    rw [hwk, hok, hoi, hsh]
    have hm := List.getElem_mem hs
    have hlz := o.len _ hm
    have hkz : k < (D.sh[(os[ws[k]])[i]]).cps.toList.length := by rw [Array.length_toList]; show k < (D.sh[(os[ws[k]])[i]]).length; omega
    have hg : (D.sh[(os[ws[k]])[i]]).cps.toList.getD k 0 = (D.sh[(os[ws[k]])[i]]).cps.toList[k] := by rw [List.getD_eq_getElem?_getD, List.getElem?_eq_getElem hkz]; rfl
    rw [hg]
    exact o.let_ _ hm _ (List.getElem_mem hkz)
theorem ordersM_ok {n mx p : Nat} {o : List Nat} (h1 : o.length = n) (h2 : ∀ x ∈ o, x < n) : (ordersM n mx p o).length = mx + 1 ∧ ∀ l ∈ ordersM n mx p o, l.length = n ∧ ∀ y ∈ l, y < n := by
  refine ⟨by simp [ordersM], fun l hl => ?_⟩
  obtain ⟨k, _, rfl⟩ := List.mem_map.mp hl
  split
  · exact ⟨h1, h2⟩
  · exact ⟨by simp, fun y hy => List.mem_range.mp hy⟩
theorem sum_map_len {l : List Str} {n : Nat} (h : ∀ z ∈ l, z.length = n) : (l.map (·.length)).sum = l.length * n := by
  induction l with
  | nil => simp
  | cons z r ih =>
    rw [List.map_cons, List.sum_cons, ih fun y hy => h y (List.mem_cons_of_mem _ hy), h z List.mem_cons_self, List.length_cons, Nat.succ_mul]
    omega
theorem cutS_len {z : Str} {a b : Nat} (h : a + b ≤ z.length) : (cutS z (some ((a : Nat) : Int)) (some ((a + b : Nat) : Int))).length = b := by
  have e1 : HT.sIx z.length 0 (some ((a : Nat) : Int)) = a := by rw [HT.sIx_nat]; omega
  have e2 : HT.sIx z.length z.length (some ((a + b : Nat) : Int)) = a + b := by rw [HT.sIx_nat]; omega
  show (((z.cps.toList.drop (HT.sIx z.length 0 (some ((a : Nat) : Int)))).take (HT.sIx z.length z.length (some ((a + b : Nat) : Int)) - HT.sIx z.length 0 (some ((a : Nat) : Int)))).toArray).size = b
  rw [e1, e2, List.size_toArray, List.length_take, List.length_drop, Array.length_toList]
  have : z.cps.size = z.length := rfl
  omega
theorem mirror_ok {a b : Nat} {z : Str} (h : z.length = a * b) (hc : ∀ c ∈ z.cps.toList, okLet c) : (mirrorM a b z).length = a * b ∧ ∀ c ∈ (mirrorM a b z).cps.toList, okLet c := by
  unfold mirrorM
  refine ⟨?_, fun c hm => ?_⟩
  · rw [join_len, sum_map_len (n := a) (fun y hy => ?_), List.length_map, List.length_range, Nat.mul_comm]
    obtain ⟨r, hr, rfl⟩ := List.mem_map.mp hy
    have hr := List.mem_range.mp hr
    rw [revT_len]
    refine cutS_len ?_
    rw [h]
    have : (r + 1) * a ≤ b * a := Nat.mul_le_mul_right a hr
    rw [Nat.succ_mul] at this
    rw [Nat.mul_comm a b]
    exact this
  · obtain ⟨y, hy, hcy⟩ := mem_join hm
    obtain ⟨r, _, rfl⟩ := List.mem_map.mp hy
    have hcy : c ∈ ((cutS z _ _).cps.toList.reverse.toArray).toList := hcy
    simp only [List.toList_toArray, List.mem_reverse] at hcy
    exact hc c (cutS_sub hcy)
theorem over_ok {D : PkS} (o : D.ok) (i : Nat) : PkS.ok ⟨D.w, D.h, overM D i⟩ := by
  refine ⟨o.w1, o.w3, o.h1, o.h2, by simp [overM]; exact o.n1, by simp [overM]; exact o.n3, fun z hz => ?_, fun z hz => ?_⟩
  all_goals
    obtain ⟨j, hj, rfl⟩ := List.mem_map.mp hz
    have hj := List.mem_range.mp hj
    have hg : D.sh.getD j ⟨#[]⟩ = D.sh[j] := by rw [List.getD_eq_getElem?_getD, List.getElem?_eq_getElem hj]; rfl
    rw [hg]
    have hm := List.getElem_mem hj
    have hmi := mirror_ok (o.len _ hm) (o.let_ _ hm)
    split
  · exact hmi.1
  · exact o.len _ hm
  · exact hmi.2
  · exact o.let_ _ hm
theorem opM_ok {S S' : BS} {op : Op} (o : S.ok) (h : op.ok S.D) (e : opM S op = some S') : S'.ok ∧ S'.D.w = S.D.w ∧ S'.D.h = S.D.h ∧ S'.D.sh.length = S.D.sh.length ∧ S'.past = S.past ++ [op] := by
  cases op with
  | saw ws =>
    unfold opM at e
    dsimp only at e
    split at e
    · cases e
      exact ⟨⟨o.D, partedM_len _ _ _, fun x hx => Nat.le_trans (partedM_bd _ _ _ x hx) (Nat.le_trans o.D.cells.2 (by decide))⟩, rfl, rfl, rfl, rfl⟩
    · cases e
  | exchange p od =>
    unfold opM at e
    dsimp only at e
    split at e
    · cases e
      obtain ⟨h1, h2, h3⟩ := h
      obtain ⟨q1, q2⟩ := ordersM_ok (n := S.D.sh.length) (mx := maxM S.ws) (p := p) h1 h3
      exact ⟨⟨relaid_ok o.D o.len (fun x hx => by rw [q1]; exact Nat.lt_succ_of_le (maxM_ge hx)) q2, o.len, o.bd⟩, rfl, rfl, by simp [exchM, relaidM], rfl⟩
    · cases e
  | glue =>
    cases e
    exact ⟨⟨o.D, by show (List.replicate _ _).length = _; rw [List.length_replicate]; exact o.len, fun x hx => by rw [List.eq_of_mem_replicate hx]; exact Nat.zero_le _⟩, rfl, rfl, rfl, rfl⟩
  | over i =>
    unfold opM at e
    dsimp only at e
    split at e
    · cases e
      exact ⟨⟨over_ok o.D i, o.len, o.bd⟩, rfl, rfl, by simp [overS, overM], rfl⟩
    · cases e
end S57

set_option Elab.async false
set_option linter.all false
set_option maxRecDepth 100000
set_option maxHeartbeats 4000000
namespace S57
open PySem PySem.Spec PyProof.Rows L2 TL
section
variable {P : Program} {w : World} {K : Fr} {mg : Str → Option Value} {base : Heap}
/-- H0: what stood ahead of the new state -/
def sp_State_init (K : Fr) : Sp := fun vs H Q _ => ∃ (H0 : Hp) (st dst : Addr) (f p : Addr) (sh u : V), vs = [.ref st, .ref f, sh, .ref p, u] ∧ H0 st = none ∧ H0 dst = none ∧ dst ≠ st ∧ Same H0 H ∧ H st = some (.ins (C_State K) dst []) ∧ H dst = some (.own st) ∧
  ∀ H', Same H0 H' → (∀ b v, b ≠ st → b ≠ dst → H b = some v → H' b = some v) → StAt K H' st dst f p sh u → Q .non H'
theorem sc_State_init0 : FnScope ["self", "facts", "shelf", "past", "undone"] ["self", "facts", "shelf", "past", "undone"] (defScope s_State_init) := ⟨rfl, rfl, rfl, by decide +kernel, rfl, by decide +kernel, by decide +kernel⟩
theorem ok_State_init (T : Txt K mg w) : FnR P w K mg base CX0 1 (a_State_init K) (sp_State_init K) := by
  refine fnr0 (d_State_init T) sc_State_init0 (fun _ _ _ _ _ _ us hl => match us, hl with | [_, _, _, _, _], _ => rfl) (fun vs H Q E h => ?_) (fun cdv A outer s H vs Q E hr h => ?_)
  · obtain ⟨H0, st, dst, f, p, sh, u, rfl, _⟩ := h
    rfl
  · obtain ⟨H0, st, dst, f, p, sh, u, rfl, s0, d0, ne, s1, hs, hd, k⟩ := h
    refine ⟨_, (pss_cons (SlX.ps_sl (pv 0) (pv 1))
    (pss_cons (SlX.ps_sl (pv 0) (pv 2))
    (pss_cons (SlX.ps_sl (pv 0) (pv 3))
    (pss_one (SlX.ps_sl (pv 0) (pv 4)))))), ?_⟩
    have nsd : st ≠ dst := Ne.symm ne
    refine ⟨_, rfl, _, rfl, st, C_State K, dst, _, [], 0, rfl, .inl ⟨hs, rfl⟩, sc_State T, sl_State_facts T, ?_⟩
    refine ⟨_, rfl, _, rfl, st, C_State K, dst, _, _, 2, rfl, SlX.slH_slt ne, sc_State T, sl_State_shelf T, ?_⟩
    rw [SlX.slH_twice ne]
    refine ⟨_, rfl, _, rfl, st, C_State K, dst, _, _, 1, rfl, SlX.slH_slt ne, sc_State T, sl_State_past T, ?_⟩
    rw [SlX.slH_twice ne]
    refine ⟨_, rfl, _, rfl, st, C_State K, dst, _, _, 3, rfl, SlX.slH_slt ne, sc_State T, sl_State_undone T, ?_⟩
    rw [SlX.slH_twice ne]
    refine k _ (fun b v e => ?_) (fun b v n1 n2 e => by rw [SlX.slH_ne n1 n2]; exact e) ⟨SlX.slH_slt ne, ne⟩
    rw [SlX.slH_ne (ne_of_none e s0) (ne_of_none e d0)]
    exact s1 _ _ e
def sp_State_copied (K : Fr) : Sp := fun vs H Q _ => ∃ (st dst : Addr) (f p : Addr) (sh u : V), vs = [.ref st] ∧ StAt K H st dst f p sh u ∧ ∀ r dr H', Same H H' → H r = none → H dr = none → StAt K H' r dr f p sh u → Q (.ref r) H'
theorem sc_State_copied0 : FnScope ["self"] ["self"] (defScope s_State_copied) := ⟨rfl, rfl, rfl, by decide +kernel, rfl, by decide +kernel, by decide +kernel⟩
theorem ok_State_copied (T : Txt K mg w) : FnR P w K mg base CX0 3 (a_State_copied K) (sp_State_copied K) := by
  refine fnr0 (d_State_copied T) sc_State_copied0 (fun _ _ _ _ _ _ us hl => match us, hl with | [_], _ => rfl) (fun vs H Q E h => ?_) (fun cdv A outer s H vs Q E hr h => ?_)
  · obtain ⟨st, dst, f, p, sh, u, rfl, _⟩ := h
    rfl
  · obtain ⟨st, dst, f, p, sh, u, rfl, hs, k⟩ := h
    refine ⟨_, (pss_one (ps_ret (StX.pe_makeR (mk_State T) (ok_State_init T) (hr.mono (by decide)) rfl (g_State T) pass0 (pa_cons (SlX.pe_sl (pv 0)) (pa_cons (SlX.pe_sl (pv 0)) (pa_cons (SlX.pe_sl (pv 0)) (pa_cons (SlX.pe_sl (pv 0)) pa_nil))))))), ?_⟩
    have hl := hs.1
    refine ⟨_, rfl, st, _, dst, _, _, 0, _, rfl, hl, sc_State T, sl_State_facts T, rfl, ?_⟩
    refine ⟨_, rfl, st, _, dst, _, _, 2, _, rfl, hl, sc_State T, sl_State_shelf T, rfl, ?_⟩
    refine ⟨_, rfl, st, _, dst, _, _, 1, _, rfl, hl, sc_State T, sl_State_past T, rfl, ?_⟩
    refine ⟨_, rfl, st, _, dst, _, _, 3, _, rfl, hl, sc_State T, sl_State_undone T, rfl, ?_⟩
    refine fun x dx hx hdx hne => ⟨H, x, dx, f, p, sh, u, rfl, hx, hdx, hne, fun b v e => ?_, upd_same, by rw [upd_ne hne, upd_same], fun H' s1 _ h1 => ⟨rfl, k x dx H' s1 hx hdx h1⟩⟩
    rw [upd_ne (ne_of_none e hx), upd_ne (ne_of_none e hdx)]
    exact e
def sp_State_go_on (K : Fr) : Sp := fun vs H Q _ => ∃ (st dst f p a f' : Addr) (sh u sh' : V) (past : List Op) (op : Op), vs = [.ref st, .ref a, .ref f', sh'] ∧ StAt K H st dst f p sh u ∧ PastAt H p past ∧ OpAt H a op ∧ past.length < 900 ∧
  ∀ H' p' u', Off [st] H H' → StAt K H' st dst f' p' sh' u' → PastAt H' p' (past ++ [op]) → Q .non H'
theorem sc_State_go_on0 : FnScope ["self", "operation", "facts", "shelf"] ["self", "operation", "facts", "shelf"] (defScope s_State_go_on) := ⟨rfl, rfl, rfl, by decide +kernel, rfl, by decide +kernel, by decide +kernel⟩
theorem ok_State_go_on (T : Txt K mg w) : FnR P w K mg base CX0 1 (a_State_go_on K) (sp_State_go_on K) := by
  refine fnr0 (d_State_go_on T) sc_State_go_on0 (fun _ _ _ _ _ _ us hl => match us, hl with | [_, _, _, _], _ => rfl) (fun vs H Q E h => ?_) (fun cdv A outer s H vs Q E hr h => ?_)
  · obtain ⟨st, dst, f, p, a, f', sh, u, sh', past, op, rfl, _⟩ := h
    rfl
  · obtain ⟨st, dst, f, p, a, f', sh, u, sh', past, op, rfl, hs, hp, ha, hn, k⟩ := h
    refine ⟨_, (pss_cons (SlX.ps_sl (pv 0) (pe_tup (StX.pa_star (SlX.pe_sl (pv 0)) (pa_cons (pe_tup (pa_cons (pv 1) (pa_cons (SlX.pe_sl (pv 0)) (pa_cons (SlX.pe_sl (pv 0)) pa_nil)))) pa_nil))))
    (pss_cons (SlX.ps_sl (pv 0) (pe_tup pa_nil))
    (pss_cons (SlX.ps_sl (pv 0) (pv 2))
    (pss_one (SlX.ps_sl (pv 0) (pv 3)))))), ?_⟩
    have hl := hs.1
    obtain ⟨g1, g2⟩ := hs.sl
    have ne := hs.2
    obtain ⟨es, he, hP⟩ := hp
    have hPl : es.length = past.length := Paired.length hP
    refine ⟨_, rfl, st, _, dst, _, _, 1, _, rfl, hl, sc_State T, sl_State_past T, rfl, ?_⟩
    refine ⟨p, _, rfl, .inl (SqT.of he), _, rfl, ?_⟩
    refine ⟨_, rfl, st, _, dst, _, _, 0, _, rfl, hl, sc_State T, sl_State_facts T, rfl, ?_⟩
    refine ⟨_, rfl, st, _, dst, _, _, 2, _, rfl, hl, sc_State T, sl_State_shelf T, rfl, by show 3 ≤ sizeLine; decide, fun e hee => ⟨by rw [List.length_append, List.length_map, hPl]; exact Nat.le_of_lt (small1000 (by simp; omega)), fun t ht => ?_⟩⟩
    have sa : Same H (upd (upd H e (.tup [.ref a, .ref f, sh])) t (.tup (es.map V.ref ++ [.ref e]))) := (Same.new hee).new' ht
    have hT : upd (upd H e (.tup [.ref a, .ref f, sh])) t (.tup (es.map V.ref ++ [.ref e])) t = some (.tup ((es ++ [e]).map V.ref)) := by rw [upd_same, List.map_append]; rfl
    have hE : upd (upd H e (.tup [.ref a, .ref f, sh])) t (.tup (es.map V.ref ++ [.ref e])) e = some (.tup [.ref a, .ref f, sh]) := by
      rw [upd_ne (fun z => by rw [← z, upd_same] at ht; cases ht), upd_same]
    generalize upd (upd H e (.tup [.ref a, .ref f, sh])) t (.tup (es.map V.ref ++ [.ref e])) = H2 at *
    refine ⟨_, rfl, st, C_State K, dst, _, _, 1, rfl, sa.slt hl, sc_State T, sl_State_past T, ?_⟩
    have o3 : Off [st] H2 (SlX.slH H2 st (C_State K) dst (SlX.putS 1 (.ref t) [some (.ref f), some (.ref p), some sh, some u])) := Off.sl (sa _ _ g1) (sa _ _ g2) (by simp)
    have l3 := SlX.slH_slt (H := H2) (C := C_State K) (vs := SlX.putS 1 (.ref t) [some (.ref f), some (.ref p), some sh, some u]) ne
    have g3 : SlX.slH H2 st (C_State K) dst (SlX.putS 1 (.ref t) [some (.ref f), some (.ref p), some sh, some u]) dst = some (.xd []) := by unfold SlX.slH; rw [upd_ne ne, upd_same]
    have g3' : SlX.slH H2 st (C_State K) dst (SlX.putS 1 (.ref t) [some (.ref f), some (.ref p), some sh, some u]) st = some (SlX.SlO st (C_State K) dst (SlX.putS 1 (.ref t) [some (.ref f), some (.ref p), some sh, some u])) := upd_same
    generalize SlX.slH H2 st (C_State K) dst (SlX.putS 1 (.ref t) [some (.ref f), some (.ref p), some sh, some u]) = H3 at *
    refine ⟨Nat.zero_le _, fun t2 ht2 => ?_⟩
    have s4 : Same H3 (upd H3 t2 (.tup [])) := Same.new ht2
    refine ⟨_, rfl, st, C_State K, dst, _, _, 3, rfl, s4.slt l3, sc_State T, sl_State_undone T, ?_⟩
    have o5 := Off.sl (M := [st]) (vs' := SlX.putS 3 (.ref t2) (SlX.putS 1 (.ref t) [some (.ref f), some (.ref p), some sh, some u])) (s4 _ _ g3') (s4 _ _ g3) (by simp)
    refine ⟨_, rfl, _, rfl, st, C_State K, dst, _, _, 0, rfl, SlX.slH_slt ne, sc_State T, sl_State_facts T, ?_⟩
    rw [SlX.slH_twice ne]
    refine ⟨_, rfl, _, rfl, st, C_State K, dst, _, _, 2, rfl, SlX.slH_slt ne, sc_State T, sl_State_shelf T, ?_⟩
    rw [SlX.slH_twice ne]
    have o6 := Off.sl (M := [st]) (vs' := SlX.putS 2 sh' (SlX.putS 0 (.ref f') (SlX.putS 3 (.ref t2) (SlX.putS 1 (.ref t) [some (.ref f), some (.ref p), some sh, some u])))) (s4 _ _ g3') (s4 _ _ g3) (by simp)
    have oa : Off [st] H2 _ := o3.trans ((Off.of s4).trans o6)
    have of : Off [st] H _ := (Off.of sa).trans oa
    refine k _ t (.ref t2) of ⟨SlX.slH_slt ne, ne⟩ ⟨es ++ [e], oa.tup _ _ hT, ?_⟩
    exact Paired.app (Paired.mapP hP fun _ _ z => z.off of) (.cons ⟨a, _, _, oa.tup _ _ hE, ha.off of⟩ .nil)
end
end S57


set_option Elab.async false
set_option linter.all false
set_option maxRecDepth 100000
set_option maxHeartbeats 4000000
namespace S57
open PySem PySem.Spec PyProof.Rows L2 TL
theorem passN0 {X : Cx} {P : Program} {w : World} (h : X.prog = P) (h2 : X.w = w) : Passes (L2N.CX P w) X E0 := fun _ _ _ _ _ _ _ c => by
  obtain ⟨_, _, _, _, _, _, _, _, _, _, _, _, h⟩ := c
  exact h.elim
theorem BnAt.next {K : Fr} {H H1 H2 : Hp} {M : List Addr} {b st dst : Addr} {sh' u' : V} {S S' : BS} {f' p' : Addr} (h : BnAt K H M b st dst S) (s : Same H H1) (o : Off [st] H1 H2) (h2 : StAt K H2 st dst f' p' sh' u') (h3 : PastAt H2 p' S'.past) (h4 : FcAt K H1 M f' S') : BnAt K H2 M b st dst S' := by
  obtain ⟨dxb, f0, p0, sh0, u0, a1, a2, a3, a4, a5, a6⟩ := h
  have nb : b ≠ st := fun z => by
    rw [z, a2.sl.1] at a1
    exact slO_ins (Option.some.inj a1)
  refine ⟨dxb, f', p', sh', u', o.old _ _ (by simpa using nb) (s _ _ a1), h2, h4.off o (fun x hx => .inl (by rw [List.mem_singleton.mp hx]; exact a5)), h3, a5, fun x hx => ?_⟩
  by_cases e : x = st
  · exact ⟨_, e ▸ h2.sl.1⟩
  · obtain ⟨u, hu⟩ := a6 x hx
    exact ⟨u, o.old _ _ (by simpa using e) (s _ _ hu)⟩
theorem BnAt.off {K : Fr} {N M : List Addr} {H H' : Hp} {b st dst : Addr} {S : BS} (h : BnAt K H M b st dst S) (o : Off N H H') (hN : ∀ x ∈ N, ∃ xs, H x = some (.lst xs)) : BnAt K H' M b st dst S := by
  obtain ⟨dxb, f0, p0, sh0, u0, a1, a2, a3, a4, a5, a6⟩ := h
  have nb : b ∉ N := fun z => by
    obtain ⟨xs, e⟩ := hN _ z
    rw [a1] at e
    cases e
  have ns : st ∉ N := fun z => by
    obtain ⟨xs, e⟩ := hN _ z
    rw [a2.sl.1] at e
    exact slO_lst (Option.some.inj e)
  exact ⟨dxb, f0, p0, sh0, u0, o.old _ _ nb a1, ⟨.inr ⟨o.old _ _ ns a2.sl.1, o.xd _ a2.sl.2⟩, a2.2⟩, a3.off o (fun x hx => .inr (.inr (hN x hx))), a4.off o, a5, fun x hx => let ⟨u, hu⟩ := a6 x hx; o.there _ _ hu⟩
theorem StAt.off {K : Fr} {M : List Addr} {H H' : Hp} {st dst f p : Addr} {sh u : V} (h : StAt K H st dst f p sh u) (o : Off M H H') (hm : st ∉ M) : StAt K H' st dst f p sh u := ⟨.inr ⟨o.old _ _ hm h.sl.1, o.xd _ h.sl.2⟩, h.2⟩
theorem mono_gTup3 {K : Fr} {i j k : Nat} : ∀ (v : V) (σ : L2.St) (H : Hp) (Q Q' : L2.St → Hp → Prop), (∀ σ' H', Q σ' H' → Q' σ' H') → gTup K 3 (gCons (gName i) (gCons (gName j) (gCons (gName k) gNil))) v σ H Q → gTup K 3 (gCons (gName i) (gCons (gName j) (gCons (gName k) gNil))) v σ H Q' := by
  intro v σ H Q Q' h q
  obtain ⟨a, xs, e, hq, hl, x, r, e2, y, r2, e3, z, r3, e4, e5, q⟩ := q
  exact ⟨a, xs, e, hq, hl, x, r, e2, y, r2, e3, z, r3, e4, e5, h _ _ q⟩
theorem ent_ops {H : Hp} : ∀ {es : List Addr} {past : List Op}, Paired (EntAt H) es past → ∃ os : List Addr, Paired (OpAt H) os past ∧ os.length = es.length ∧ ∀ (i : Nat) (e : Addr), es[i]? = some e → ∃ a x y, os[i]? = some a ∧ H e = some (.tup [.ref a, x, y])
  | _, _, .nil => ⟨[], .nil, rfl, fun i e h => by simp at h⟩
  | _, _, .cons ⟨a, x, y, h1, h2⟩ t => by
    obtain ⟨os, p, l, q⟩ := ent_ops t
    refine ⟨a :: os, .cons h2 p, by simp [l], fun i e h => ?_⟩
    cases i with
    | zero =>
      cases h
      exact ⟨a, x, y, rfl, h1⟩
    | succ i => exact q i e h
theorem PkAt.some {K : Fr} {H : Hp} {p : Addr} {D : PkS} (h : PkAt K H p D) : ∃ u, H p = some u := by
  obtain ⟨_, _, _, h, _⟩ := h
  rcases h with ⟨h, _⟩ | ⟨h, _⟩
  · exact ⟨_, h⟩
  · exact ⟨_, h⟩
section
variable {P : Program} {w : World} {K : Fr} {mg : Str → Option Value} {base : Heap}
def sp_Bench_init (K : Fr) : Sp := fun vs H Q _ => ∃ (H0 : Hp) (b dx p : Addr) (D : PkS), vs = [.ref b, .ref p] ∧ H0 b = none ∧ H0 dx = none ∧ dx ≠ b ∧ Same H0 H ∧ H b = some (.ins (C_Bench K) dx []) ∧ H dx = some (.own b) ∧ PkAt K H0 p D ∧ D.ok ∧
  ∀ st dst H', Same H0 H' → H0 st = none → BnAt K H' [st] b st dst ⟨D, List.replicate (D.w * D.h) 0, 0, []⟩ → Q .non H'
theorem sc_Bench_init0 : FnScope ["self", "packet", "whole", "cell"] ["self", "packet"] (defScope s_Bench_init) := ⟨rfl, rfl, rfl, by decide +kernel, rfl, by decide +kernel, by decide +kernel⟩
theorem ok_Bench_init (T : Txt K mg w) : FnR P w K mg base CX0 3 (a_Bench_init K) (sp_Bench_init K) := by
  refine fnr0 (d_Bench_init T) sc_Bench_init0 (fun _ _ _ _ _ _ us hl => match us, hl with | [_, _], _ => rfl) (fun vs H Q E h => ?_) (fun cdv A outer s H vs Q E hr h => ?_)
  · obtain ⟨H0, b, dx, p, D, rfl, _⟩ := h
    rfl
  · obtain ⟨H0, b, dx, p, D, rfl, b0, d0, ne, s1, hb, hd, hp, o, k⟩ := h
    refine ⟨_, (pss_cons (ps_set (i := 2) sc_Bench_init0.nd rfl (by first | exact Or.inl rfl | exact Or.inr rfl) (pe_callTy call_tuple_of (by rfl) (n_tuple T) (by decide +kernel) (pa_cons (pe_lc (own := [("cell", 3)]) (g := gName 3) (tt := tYes) rfl sc_Bench_init0.nd (pi_range1 (by rfl) (n_range T) (pa_cons (SlX.pe_propSl (pv 1) (sc_Packet T) (pr_Packet_cells T).at_ (pr_Packet_cells T).get (pr_Packet_cells T).tak (pr_Packet_cells T).rec_ (ok_Packet_cells T) (hr.mono (by decide)) pass0p) pa_nil)) (blkOk_by (own := [("cell", 3)]) (N := ["self", "packet", "whole", "cell"]) (sc := defScope s_Bench_init) (by decide +kernel)) (fun _ _ _ _ _ => (pg_name (i := 3) sc_Bench_init0.nd rfl (by first | exact Or.inl rfl | exact Or.inr rfl))) (fun _ _ _ _ _ => pts_nil) (fun _ _ _ _ _ => pe_int)) pa_nil)))
    (pss_one (ps_fld (pv 0) (StX.pe_makeR (mk_State T) (ok_State_init T) (hr.mono (by decide)) rfl (g_State T) pass0 (pa_cons (pe_tup (pa_cons (pv 1) (pa_cons (pv 2) (pa_cons pe_int pa_nil)))) (pa_cons pe_dnewK (pa_cons (pe_tup pa_nil) (pa_cons (pe_tup pa_nil) pa_nil))))) rfl))), ?_⟩
    obtain ⟨c1, c6⟩ := o.cells
    obtain ⟨pdx, pt, ps, q1, q2, q3⟩ := (hp.mono s1).parts
    refine ⟨_, rfl, p, pdx, _, rfl, q1, p, D, rfl, hp.mono s1, o, ?_⟩
    refine ⟨(D.w * D.h : Nat), rfl, by omega, by omega, fun L hL => ?_⟩
    rw [Int.toNat_natCast]
    refine lc_map walk_range (natsV (List.replicate (D.w * D.h) 0)) (by rw [natsV_len, List.length_replicate]) (by exact small1000 (by omega)) hL (fun _ _ => trivial) (fun i x H1' H1 C hi s2 y kk => ?_) mono_gName (fun H1 s2 hH => ?_)
    · obtain ⟨rfl, rfl⟩ := y
      refine ⟨rfl, kk _ _ (Same.refl _) ?_⟩
      unfold natsV
      rw [List.getElem?_map, List.getElem?_replicate, if_pos hi]
      rfl
    · refine ⟨L, _, rfl, .inl ⟨SqL.of hH, fun v hv => ?_⟩⟩
      have s3 := (s1.trans s2).new' (o := .tup (natsV (List.replicate (D.w * D.h) 0))) hv
      have hb3 := s2 _ _ hb
      have hb3' : upd H1 v (.tup (natsV (List.replicate (D.w * D.h) 0))) b = some (.ins (C_Bench K) dx []) := by rw [upd_ne (ne_of_none hb3 hv)]; exact hb3
      have hv3 : upd H1 v (.tup (natsV (List.replicate (D.w * D.h) 0))) v = some (.tup (natsV (List.replicate (D.w * D.h) 0))) := upd_same
      generalize upd H1 v (.tup (natsV (List.replicate (D.w * D.h) 0))) = H3 at *
      refine ⟨_, rfl, _, rfl, by show 3 ≤ sizeLine; decide, fun f hf => fun d hd' => ⟨Nat.zero_le _, fun t1 ht1 => ⟨Nat.zero_le _, fun t2 ht2 => fun st dst hst hdst hne => ?_⟩⟩⟩
      have s4 : Same H3 (upd (upd (upd (upd H3 f (.tup [.ref p, .ref v, .int 0])) d (.dK [])) t1 (.tup [])) t2 (.tup [])) := (((Same.new hf).new' hd').new' ht1).new' ht2
      have hf4 : upd (upd (upd (upd H3 f (.tup [.ref p, .ref v, .int 0])) d (.dK [])) t1 (.tup [])) t2 (.tup []) f = some (.tup [.ref p, .ref v, .int 0]) := (((Same.refl _).new' hd').new' ht1).new' ht2 f _ upd_same
      have ht4 : upd (upd (upd (upd H3 f (.tup [.ref p, .ref v, .int 0])) d (.dK [])) t1 (.tup [])) t2 (.tup []) t1 = some (.tup []) := (Same.refl _).new' ht2 t1 _ upd_same
      generalize upd (upd (upd (upd H3 f (.tup [.ref p, .ref v, .int 0])) d (.dK [])) t1 (.tup [])) t2 (.tup []) = H4 at *
      refine ⟨H4, st, dst, f, t1, .ref d, .ref t2, rfl, hst, hdst, hne, fun c u e => by rw [upd_ne (ne_of_none e hst), upd_ne (ne_of_none e hdst)]; exact e, upd_same, by rw [upd_ne hne, upd_same], fun H5 s5 _ hSt => ⟨rfl, ?_⟩⟩
      have hb5 := s5 _ _ (s4 _ _ hb3')
      refine ⟨_, rfl, b, C_Bench K, dx, [], rfl, hb5, cl_Bench T, na_Bench_held T, by decide, ?_⟩
      have o6 : Off [b] H5 (upd H5 b (.ins (C_Bench K) dx [("held", .ref st)])) := Off.mut (by simp) hb5 (fun _ z => by cases z) (fun z => by cases z)
      have nsb : st ≠ b := fun z => by
        have := hSt.sl.1
        rw [z, hb5] at this
        exact slO_ins (Option.some.inj this).symm
      have nps : p ≠ st := fun z => by
        obtain ⟨u, hu⟩ := hp.some
        have := s4 _ _ (s3 _ _ hu)
        rw [z, hst] at this
        cases this
      have s45 := s4.trans s5
      refine k st dst _ ((s3.trans s45).upd b0) (s3.free (s4.free hst)) ⟨dx, f, t1, .ref d, .ref t2, upd_same, hSt.off o6 (by simpa using nsb), ?_, ⟨[], o6.tup _ _ (s5 _ _ ht4), .nil⟩, by simp, fun x hx => by rw [List.mem_singleton.mp hx]; exact o6.there _ _ hSt.sl.1⟩
      refine FcAt.off (N := [b]) ?_ o6 (fun x hx => .inr (.inl ⟨C_Bench K, dx, [], by rw [List.mem_singleton.mp hx]; exact hb5⟩))
      exact ⟨p, v, s5 _ _ hf4, by simpa using nps, hp.mono (s3.trans s45), s45 _ _ hv3⟩
def sp_Bench_packet_now (K : Fr) : Sp := fun vs H Q _ => ∃ (M : List Addr) (b st dst : Addr) (S : BS), vs = [.ref b] ∧ BnAt K H M b st dst S ∧ ∀ p, p ∉ M → PkAt K H p S.D → Q (.ref p) H
theorem sc_Bench_packet_now0 : FnScope ["self"] ["self"] (defScope s_Bench_packet_now) := ⟨rfl, rfl, rfl, by decide +kernel, rfl, by decide +kernel, by decide +kernel⟩
theorem ok_Bench_packet_now (T : Txt K mg w) : FnR P w K mg base CX0 1 (a_Bench_packet_now K) (sp_Bench_packet_now K) := by
  refine fnr0 (d_Bench_packet_now T) sc_Bench_packet_now0 (fun _ _ _ _ _ _ us hl => match us, hl with | [_], _ => rfl) (fun vs H Q E h => ?_) (fun cdv A outer s H vs Q E hr h => ?_)
  · obtain ⟨M, b, st, dst, S, rfl, _⟩ := h
    rfl
  · obtain ⟨M, b, st, dst, S, rfl, ⟨dxb, f, p, sh, u, e1, e2, ⟨pk, v, f1, f2, f3, f4⟩, e4, hstM, hMs⟩, k⟩ := h
    refine ⟨_, (pss_one (ps_ret (pe_ix ix_tup (SlX.pe_sl (pe_fld (pv 0) rfl)) pe_int (fun _ _ => rfl)))), ?_⟩
    exact ⟨_, rfl, b, _, _, _, _, rfl, e1, cl_Bench T, na_Bench_held T, rfl, st, _, dst, _, _, 0, _, rfl, e2.1, sc_State T, sl_State_facts T, rfl, f, _, _, _, rfl, rfl, SqT.of f1, atI_nat (j := 0) rfl, k pk f2 f3⟩
def sp_Bench_history (K : Fr) : Sp := fun vs H Q _ => ∃ (M : List Addr) (b st dst : Addr) (S : BS), vs = [.ref b] ∧ BnAt K H M b st dst S ∧ S.past.length < 900 ∧ ∀ l os H', Same H H' → H' l = some (.lst (os.map V.ref)) → Paired (OpAt H') os S.past → Q (.ref l) H'
theorem sc_Bench_history0 : FnScope ["self", "operation", "facts", "shelf"] ["self"] (defScope s_Bench_history) := ⟨rfl, rfl, rfl, by decide +kernel, rfl, by decide +kernel, by decide +kernel⟩
theorem ok_Bench_history (T : Txt K mg w) : FnR P w K mg base CX0 1 (a_Bench_history K) (sp_Bench_history K) := by
  refine fnr0 (d_Bench_history T) sc_Bench_history0 (fun _ _ _ _ _ _ us hl => match us, hl with | [_], _ => rfl) (fun vs H Q E h => ?_) (fun cdv A outer s H vs Q E hr h => ?_)
  · obtain ⟨M, b, st, dst, S, rfl, _⟩ := h
    rfl
  · obtain ⟨M, b, st, dst, S, rfl, ⟨dxb, f, p, sh, u, e1, e2, ⟨pk, v, f1, f2, f3, f4⟩, e4, hstM, hMs⟩, hn, k⟩ := h
    refine ⟨_, (pss_one (ps_ret (pe_lc (own := [("operation", 1), ("facts", 2), ("shelf", 3)]) (g := gTup K 3 (gCons (gName 1) (gCons (gName 2) (gCons (gName 3) gNil)))) (tt := tYes) rfl sc_Bench_history0.nd (pi_tup (SlX.pe_sl (pe_fld (pv 0) rfl))) (blkOk_by (own := [("operation", 1), ("facts", 2), ("shelf", 3)]) (N := ["self", "operation", "facts", "shelf"]) (sc := defScope s_Bench_history) (by decide +kernel)) (fun _ _ _ _ _ => (pg_tup rfl (pgs_cons (pg_name (i := 1) sc_Bench_history0.nd rfl (by first | exact Or.inl rfl | exact Or.inr rfl)) (pgs_cons (pg_name (i := 2) sc_Bench_history0.nd rfl (by first | exact Or.inl rfl | exact Or.inr rfl)) (pgs_cons (pg_name (i := 3) sc_Bench_history0.nd rfl (by first | exact Or.inl rfl | exact Or.inr rfl)) pgs_nil))))) (fun _ _ _ _ _ => pts_nil) (fun _ _ _ _ _ => (pv 1))))), ?_⟩
    obtain ⟨es, h1, h2⟩ := e4
    obtain ⟨os, hO, hl, hE⟩ := ent_ops h2
    have hPl : es.length = S.past.length := Paired.length h2
    refine ⟨_, rfl, b, _, _, _, _, rfl, e1, cl_Bench T, na_Bench_held T, rfl, st, _, dst, _, _, 1, _, rfl, e2.1, sc_State T, sl_State_past T, rfl, p, rfl, ⟨_, SqT.of h1⟩, fun L hL => ?_⟩
    refine lc_map (walk_tup (xs := es.map V.ref)) (os.map V.ref) (by simp [hl]) (by rw [List.length_map, hPl]; exact small1000 (by omega)) hL (fun _ s2 => s2.st (SqT.of h1)) (fun i x H1' H1 C hi s2 y kk => ?_) mono_gTup3 (fun H1 s2 hH => ?_)
    · obtain ⟨rfl, hx⟩ := y
      rw [List.getElem?_map] at hx
      obtain ⟨e, he, rfl⟩ := Option.map_eq_some_iff.mp hx
      obtain ⟨a, x, y, ha, hee⟩ := hE i e he
      exact ⟨e, _, rfl, SqT.of (s2 _ _ hee), rfl, _, _, rfl, _, _, rfl, _, _, rfl, rfl, rfl, _, rfl, kk _ _ (Same.refl _) (by rw [List.getElem?_map, ha]; rfl)⟩
    · exact k L os _ s2 hH (Paired.mapP hO fun _ _ z => z.off (Off.of s2) (M := []))
def sp_Bench_glue (K : Fr) : Sp := fun vs H Q _ => ∃ (M : List Addr) (b st dst : Addr) (S : BS), vs = [.ref b] ∧ BnAt K H M b st dst S ∧ S.ok ∧ S.past.length < 900 ∧ ∀ H', Off [st] H H' → BnAt K H' M b st dst (glueM S) → Q (.int (lengthM S.D.w S.D.h S.ws : Nat)) H'
theorem sc_Bench_glue0 : FnScope ["self", "packet", "pattern", "length", "whole", "cell"] ["self"] (defScope s_Bench_glue) := ⟨rfl, rfl, rfl, by decide +kernel, rfl, by decide +kernel, by decide +kernel⟩
theorem ok_Bench_glue (T : Txt K mg w) : FnR P w K mg base CX0 4 (a_Bench_glue K) (sp_Bench_glue K) := by
  refine fnr0 (d_Bench_glue T) sc_Bench_glue0 (fun _ _ _ _ _ _ us hl => match us, hl with | [_], _ => rfl) (fun vs H Q E h => ?_) (fun cdv A outer s H vs Q E hr h => ?_)
  · obtain ⟨M, b, st, dst, S, rfl, _⟩ := h
    rfl
  · obtain ⟨M, b, st, dst, S, rfl, hB, o, hn, k⟩ := h
    refine ⟨_, (pss_cons (ps_asg (SlX.pe_sl (pe_fld (pv 0) rfl)) (pg_tup rfl (pgs_cons (pg_name (i := 1) sc_Bench_glue0.nd rfl (by first | exact Or.inl rfl | exact Or.inr rfl)) (pgs_cons (pg_name (i := 2) sc_Bench_glue0.nd rfl (by first | exact Or.inl rfl | exact Or.inr rfl)) (pgs_cons (pg_name (i := 3) sc_Bench_glue0.nd rfl (by first | exact Or.inl rfl | exact Or.inr rfl)) pgs_nil)))))
    (pss_cons (ps_set (i := 4) sc_Bench_glue0.nd rfl (by first | exact Or.inl rfl | exact Or.inr rfl) (pe_callTy call_tuple_of (by rfl) (n_tuple T) (by decide +kernel) (pa_cons (pe_lc (own := [("cell", 5)]) (g := gName 5) (tt := tYes) rfl sc_Bench_glue0.nd (pi_tup (pv 2)) (blkOk_by (own := [("cell", 5)]) (N := ["self", "packet", "pattern", "length", "whole", "cell"]) (sc := defScope s_Bench_glue) (by decide +kernel)) (fun _ _ _ _ _ => (pg_name (i := 5) sc_Bench_glue0.nd rfl (by first | exact Or.inl rfl | exact Or.inr rfl))) (fun _ _ _ _ _ => pts_nil) (fun _ _ _ _ _ => pe_int)) pa_nil)))
    (pss_cons (ps_expr (SlX.pe_methSl (pe_fld (pv 0) rfl) (sc_State T) (me_State_go_on T) (ok_State_go_on T) (hr.mono (by decide)) pass0 (pa_cons (pe_tup (pa_cons pe_str pa_nil)) (pa_cons (pe_tup (pa_cons (pv 1) (pa_cons (pv 4) (pa_cons (pv 3) pa_nil)))) (pa_cons (SlX.pe_sl (pe_fld (pv 0) rfl)) pa_nil)))))
    (pss_one (ps_ret (pe_g (ok_length_of T) (hr.mono (by decide)) (g_length_of T) (kp_length_of T) pass0 (pa_cons (pv 1) (pa_cons (pv 2) pa_nil)))))))), ?_⟩
    obtain ⟨dxb, f, p, sh, u, e1, e2, ⟨pk, v, f1, f2, f3, f4⟩, e4, hstM, hMs⟩ := id hB
    obtain ⟨c1, c6⟩ := o.D.cells
    refine ⟨_, rfl, b, _, _, _, _, rfl, e1, cl_Bench T, na_Bench_held T, rfl, st, _, dst, _, _, 0, _, rfl, e2.1, sc_State T, sl_State_facts T, rfl, f, _, rfl, SqT.of f1, rfl, _, _, rfl, _, _, rfl, _, _, rfl, rfl, ?_⟩
    refine ⟨_, rfl, v, rfl, ⟨_, SqT.of f4⟩, fun L hL => ?_⟩
    refine lc_map (walk_tup (xs := natsV S.ws)) (natsV (List.replicate S.ws.length 0)) (by rw [natsV_len, natsV_len, List.length_replicate]) (by rw [natsV_len, o.len]; exact small1000 (by omega)) hL (fun _ s2 => s2.st (SqT.of f4)) (fun i x H1' H1 C hi s2 y kk => ?_) mono_gName (fun H1 s1 hH => ?_)
    · obtain ⟨rfl, hx⟩ := y
      rw [natsV_len] at hi
      refine ⟨rfl, kk _ _ (Same.refl _) ?_⟩
      unfold natsV
      rw [List.getElem?_map, List.getElem?_replicate, if_pos hi]
      rfl
    · refine ⟨L, _, rfl, .inl ⟨SqL.of hH, fun t ht => ?_⟩⟩
      have s2 := s1.new' (o := .tup (natsV (List.replicate S.ws.length 0))) ht
      have ht2 : upd H1 t (.tup (natsV (List.replicate S.ws.length 0))) t = some (.tup (natsV (List.replicate S.ws.length 0))) := upd_same
      generalize upd H1 t (.tup (natsV (List.replicate S.ws.length 0))) = H2 at *
      refine ⟨_, rfl, b, _, _, _, _, rfl, s2 _ _ e1, cl_Bench T, na_Bench_held T, rfl, st, dst, _, rfl, s2.slt e2.1, by show 1 ≤ sizeLine; decide, fun a ha => ?_⟩
      refine ⟨_, rfl, _, rfl, _, rfl, by show 3 ≤ sizeLine; decide, fun f' hf' => ?_⟩
      have s3 : Same H2 (upd (upd H2 a (.tup [.str "glue"])) f' (.tup [.ref pk, .ref t, .int S.len])) := (Same.new ha).new' hf'
      have ha3 : upd (upd H2 a (.tup [.str "glue"])) f' (.tup [.ref pk, .ref t, .int S.len]) a = some (.tup [.str "glue"]) := (Same.refl _).new' hf' a _ upd_same
      have hf3 : upd (upd H2 a (.tup [.str "glue"])) f' (.tup [.ref pk, .ref t, .int S.len]) f' = some (.tup [.ref pk, .ref t, .int S.len]) := upd_same
      generalize upd (upd H2 a (.tup [.str "glue"])) f' (.tup [.ref pk, .ref t, .int S.len]) = H3 at *
      have s03 := s2.trans s3
      refine ⟨_, rfl, b, _, _, _, _, rfl, s03 _ _ e1, cl_Bench T, na_Bench_held T, rfl, st, _, dst, _, _, 2, _, rfl, s03.slt e2.1, sc_State T, sl_State_shelf T, rfl, ?_⟩
      refine ⟨st, dst, f, p, a, f', sh, u, sh, S.past, .glue, rfl, ⟨s03.slt e2.1, e2.2⟩, e4.off (Off.of s03 (M := [])), ha3, hn, fun H4 p' u' o4 hS4 hP4 => ?_⟩
      have hB4 : BnAt K H4 M b st dst (glueM S) := hB.next s03 o4 hS4 hP4 ⟨pk, t, hf3, f2, f3.mono s03, s3 _ _ ht2⟩
      have o04 : Off [st] H H4 := (Off.of s03).trans o4
      refine ⟨_, rfl, _, rfl, pk, v, S.D, S.ws, rfl, f3.off o04 (fun z => f2 (by rw [List.mem_singleton.mp z]; exact hstM)), o.D, o04.tup _ _ f4, o.len, fun H5 s5 => ?_⟩
      refine k H5 (o04.trans (Off.of s5)) ?_
      exact hB4.off (Off.of s5) (N := []) (fun x hx => by cases hx)
end
end S57


set_option Elab.async false
set_option linter.all false
set_option maxRecDepth 100000
set_option maxHeartbeats 4000000
namespace S57
open PySem PySem.Spec PyProof.Rows L2 TL
theorem BnAt.same {K : Fr} {H H' : Hp} {M : List Addr} {b st dst : Addr} {S : BS} (h : BnAt K H M b st dst S) (s : Same H H') : BnAt K H' M b st dst S := h.off (Off.of s) (N := []) (fun x hx => by cases hx)
theorem natsV_getD {ws : List Nat} {j : Nat} (h : j < ws.length) : (natsV ws).getD j .non = .int ((ws.getD j 0 : Nat) : Int) := by
  unfold natsV
  rw [List.getD_eq_getElem?_getD, List.getD_eq_getElem?_getD, List.getElem?_map, List.getElem?_eq_getElem h]
  rfl
theorem paired_maps {α β γ : Type} {F : β → γ → Prop} (f : α → β) (g : α → γ) : ∀ l : List α, (∀ x ∈ l, F (f x) (g x)) → Paired F (l.map f) (l.map g)
  | [], _ => .nil
  | x :: r, h => .cons (h x List.mem_cons_self) (paired_maps f g r fun y hy => h y (List.mem_cons_of_mem _ hy))
theorem marks_of {H : Hp} : ∀ (ts : List Addr) (f g : Nat → Int), (∀ (j : Nat) (T : Addr), ts[j]? = some T → H T = some (.tup [.int (f j), .int (g j)])) → Paired (MarkV H) (ts.map V.ref) ((List.range ts.length).map fun i => .tuple [.int (f i), .int (g i)])
  | [], _, _, _ => .nil
  | t :: r, f, g, h => by
    rw [List.length_cons, List.range_succ_eq_map, List.map_cons, List.map_cons, List.map_map]
    exact .cons (.pair (h 0 t rfl)) (marks_of r (fun i => f (i + 1)) (fun i => g (i + 1)) fun j T hj => h (j + 1) T (by simpa using hj))
theorem marks_zip {H : Hp} {ts : List Addr} {a b : List Nat} {n : Nat} (hl : ts.length = n) (h : ∀ (j : Nat) (T : Addr), ts[j]? = some T → H T = some (.tup [.int ((a.getD j 0 : Nat) : Int), .int ((b.getD j 0 : Nat) : Int)])) : Paired (MarkV H) (ts.map V.ref) (zipD a b n) := by
  subst hl
  exact marks_of ts _ _ h
section
variable {P : Program} {w : World} {K : Fr} {mg : Str → Option Value} {base : Heap}
def sp_Bench_saw (K : Fr) : Sp := fun vs H Q E => ∃ (M : List Addr) (b st dst v : Addr) (S : BS) (ws : List Nat), vs = [.ref b, .ref v] ∧ BnAt K H M b st dst S ∧ S.ok ∧ S.past.length < 900 ∧ H v = some (.tup (natsV ws)) ∧ (Op.saw ws).ok S.D ∧
  (∀ S', opM S (.saw ws) = some S' → ∀ x H', Off [st] H H' → BnAt K H' M b st dst S' → Q x H') ∧ (opM S (.saw ws) = none → ∀ c H', SErr K c → Off [st] H H' → E (.ref c) none H')
theorem sc_Bench_saw0 : FnScope ["self", "pattern", "packet", "before", "length", "later", "more"] ["self", "pattern"] (defScope s_Bench_saw) := ⟨rfl, rfl, rfl, by decide +kernel, rfl, by decide +kernel, by decide +kernel⟩
theorem ok_Bench_saw (T : Txt K mg w) : FnR P w K mg base (L2N.CX P w) 5 (a_Bench_saw K) (sp_Bench_saw K) := by
  refine fnrC (d_Bench_saw T) sc_Bench_saw0 (fun _ _ _ _ _ _ us hl => match us, hl with | [_, _], _ => rfl) (fun vs H Q E h => ?_) (fun cdv A outer s H vs Q E hr h => ?_)
  · obtain ⟨M, b, st, dst, v, S, ws, rfl, _⟩ := h
    rfl
  · obtain ⟨M, b, st, dst, v0, S, ws, rfl, hB, o, hn, hv, hop, k, kE⟩ := h
    have tk : L2N.Takes (cxOf (L2N.CX P w) P w K mg base ["self", "pattern", "packet", "before", "length", "later", "more"] (Str.ofString "Bench.saw") (defScope s_Bench_saw) (a_Bench_saw K) cdv A outer s H E) (fun cls d _ H => E cls d H) := L2N.takes_of rfl rfl rfl rfl
    refine ⟨_, (pss_cons (ps_asg (SlX.pe_sl (pe_fld (pv 0) rfl)) (pg_tup rfl (pgs_cons (pg_name (i := 2) sc_Bench_saw0.nd rfl (by first | exact Or.inl rfl | exact Or.inr rfl)) (pgs_cons (pg_name (i := 3) sc_Bench_saw0.nd rfl (by first | exact Or.inl rfl | exact Or.inr rfl)) (pgs_cons (pg_name (i := 4) sc_Bench_saw0.nd rfl (by first | exact Or.inl rfl | exact Or.inr rfl)) pgs_nil)))))
    (pss_cons (ps_expr (pe_g (ok_check_pattern T) (hr.mono (by decide)) (g_check_pattern T) (kp_check_pattern T) (L2N.passes_call tk (fun _ _ _ _ h => h)) (pa_cons (pv 2) (pa_cons (pv 1) pa_nil))))
    (pss_cons (ps_set (i := 5) sc_Bench_saw0.nd rfl (by first | exact Or.inl rfl | exact Or.inr rfl) (pe_g (ok_parted T) (hr.mono (by decide)) (g_parted T) (kp_parted T) pass0 (pa_cons (SlX.pe_propSl (pv 2) (sc_Packet T) (pr_Packet_width T).at_ (pr_Packet_width T).get (pr_Packet_width T).tak (pr_Packet_width T).rec_ (ok_Packet_width T) (hr.mono (by decide)) pass0p) (pa_cons (SlX.pe_propSl (pv 2) (sc_Packet T) (pr_Packet_height T).at_ (pr_Packet_height T).get (pr_Packet_height T).tak (pr_Packet_height T).rec_ (ok_Packet_height T) (hr.mono (by decide)) pass0p) (pa_cons (pe_tupZip rfl rfl (n_tuple T) rfl (n_zip T) (pv 3) (pv 1)) pa_nil)))))
    (pss_cons (ps_set (i := 6) sc_Bench_saw0.nd rfl (by first | exact Or.inl rfl | exact Or.inr rfl) (pe_op op_sub (pe_g (ok_length_of T) (hr.mono (by decide)) (g_length_of T) (kp_length_of T) pass0 (pa_cons (pv 2) (pa_cons (pv 5) pa_nil))) (pe_g (ok_length_of T) (hr.mono (by decide)) (g_length_of T) (kp_length_of T) pass0 (pa_cons (pv 2) (pa_cons (pv 3) pa_nil)))))
    (pss_cons (ps_expr (SlX.pe_methSl (pe_fld (pv 0) rfl) (sc_State T) (me_State_go_on T) (ok_State_go_on T) (hr.mono (by decide)) pass0 (pa_cons (pe_tup (pa_cons pe_str (pa_cons (pv 1) pa_nil))) (pa_cons (pe_tup (pa_cons (pv 2) (pa_cons (pv 5) (pa_cons (pe_op op_add (pv 4) (pv 6)) pa_nil)))) (pa_cons (SlX.pe_sl (pe_fld (pv 0) rfl)) pa_nil)))))
    (pss_one (ps_ret (pe_op op_add (pe_callB (cr_maxT rfl) (by rfl) (n_max T) (by decide +kernel) (pa_cons (pv 5) pa_nil)) pe_int)))))))), ?_⟩
    obtain ⟨dxb, f, p, sh, u, e1, e2, ⟨pk, v, f1, f2, f3, f4⟩, e4, hstM, hMs⟩ := id hB
    obtain ⟨c1, c6⟩ := o.D.cells
    have w1 := o.D.w1; have w3 := o.D.w3; have h1 := o.D.h1; have h2 := o.D.h2
    obtain ⟨hwl, hw9⟩ := hop
    refine ⟨_, rfl, b, _, _, _, _, rfl, e1, cl_Bench T, na_Bench_held T, rfl, st, _, dst, _, _, 0, _, rfl, e2.1, sc_State T, sl_State_facts T, rfl, f, _, rfl, SqT.of f1, rfl, _, _, rfl, _, _, rfl, _, _, rfl, rfl, ?_⟩
    refine ⟨_, rfl, _, rfl, pk, v0, S.D, ws, rfl, f3, o.D, hv, hwl, hw9, fun hP => ?_, fun hP H1 s1 => ?_⟩
    · intro H1 s1
      obtain ⟨pdx, pt, ps, q1, q2, q3⟩ := f3.parts
      refine ⟨_, rfl, pk, pdx, _, rfl, s1.slt q1, pk, S.D, rfl, f3.mono s1, ?_⟩
      refine ⟨_, rfl, pk, pdx, _, rfl, s1.slt q1, pk, S.D, rfl, f3.mono s1, ?_⟩
      refine ⟨_, rfl, _, rfl, v, v0, _, _, rfl, rfl, SqT.of (s1 _ _ f4), SqT.of (s1 _ _ hv), by rw [natsV_len, natsV_len, o.len, hwl], by rw [natsV_len, o.len]; omega, fun z H2 ts s2 hz hzl hzP => ?_⟩
      rw [natsV_len, o.len] at hzl
      have hmk : Paired (MarkV H2) (ts.map V.ref) (zipD S.ws ws (S.D.w * S.D.h)) := by
        refine marks_zip hzl fun j T1 hj => ?_
        have hjn : j < S.D.w * S.D.h := by
          rw [← hzl]
          rcases Nat.lt_or_ge j ts.length with q | q
          · exact q
          · rw [List.getElem?_eq_none q] at hj; cases hj
        have := hzP j T1 hj
        rw [this]
        show some (HO.tup [(natsV S.ws).getD j .non, (natsV ws).getD j .non]) = _
        rw [natsV_getD (by rw [o.len]; exact hjn), natsV_getD (by rw [hwl]; exact hjn)]
      refine ⟨S.D.w, S.D.h, z, ts.map V.ref, _, rfl, w1, w3, h1, h2, hz, hmk, by rw [List.length_map, hzl], fun t H3 s3 ht0 ht => ?_⟩
      generalize hL : partedM S.D.w S.D.h (eqOf (zipD S.ws ws (S.D.w * S.D.h))) = later at *
      have hll : later.length = S.D.w * S.D.h := by rw [← hL, partedM_len]
      have s03 := s1.trans (s2.trans s3)
      refine ⟨_, rfl, _, rfl, pk, t, S.D, later, rfl, f3.mono s03, o.D, ht, hll, fun H4 s4 => ?_⟩
      have s04 := s03.trans s4
      refine ⟨_, rfl, _, rfl, pk, v, S.D, S.ws, rfl, f3.mono s04, o.D, s04 _ _ f4, o.len, fun H5 s5 => ?_⟩
      have s05 := s04.trans s5
      refine ⟨_, _, rfl, rfl, ?_⟩
      refine ⟨_, rfl, b, _, _, _, _, rfl, s05 _ _ e1, cl_Bench T, na_Bench_held T, rfl, st, dst, _, rfl, s05.slt e2.1, _, rfl, by show 2 ≤ sizeLine; decide, fun a ha => ?_⟩
      refine ⟨_, rfl, _, rfl, _, rfl, _, rfl, _, _, rfl, rfl, by show 3 ≤ sizeLine; decide, fun f' hf' => ?_⟩
      have s6 : Same H5 (upd (upd H5 a (.tup [.str "saw", .ref v0])) f' (.tup [.ref pk, .ref t, .int (S.len + ((lengthM S.D.w S.D.h later : Nat) - (lengthM S.D.w S.D.h S.ws : Nat)))])) := (Same.new ha).new' hf'
      have ha6 : upd (upd H5 a (.tup [.str "saw", .ref v0])) f' (.tup [.ref pk, .ref t, .int (S.len + ((lengthM S.D.w S.D.h later : Nat) - (lengthM S.D.w S.D.h S.ws : Nat)))]) a = some (.tup [.str "saw", .ref v0]) := (Same.refl _).new' hf' a _ upd_same
      have hf6 : upd (upd H5 a (.tup [.str "saw", .ref v0])) f' (.tup [.ref pk, .ref t, .int (S.len + ((lengthM S.D.w S.D.h later : Nat) - (lengthM S.D.w S.D.h S.ws : Nat)))]) f' = some (.tup [.ref pk, .ref t, .int (S.len + ((lengthM S.D.w S.D.h later : Nat) - (lengthM S.D.w S.D.h S.ws : Nat)))]) := upd_same
      generalize upd (upd H5 a (.tup [.str "saw", .ref v0])) f' (.tup [.ref pk, .ref t, .int (S.len + ((lengthM S.D.w S.D.h later : Nat) - (lengthM S.D.w S.D.h S.ws : Nat)))]) = H6 at *
      have s06 := s05.trans s6
      have s36 := s4.trans (s5.trans s6)
      refine ⟨_, rfl, b, _, _, _, _, rfl, s06 _ _ e1, cl_Bench T, na_Bench_held T, rfl, st, _, dst, _, _, 2, _, rfl, s06.slt e2.1, sc_State T, sl_State_shelf T, rfl, ?_⟩
      refine ⟨st, dst, f, p, a, f', sh, u, sh, S.past, .saw ws, rfl, ⟨s06.slt e2.1, e2.2⟩, e4.off (Off.of s06 (M := [])), ⟨v0, ha6, s06 _ _ hv⟩, hn, fun H7 p' u' o7 hS7 hP7 => ?_⟩
      have eM : sawM S ws = ⟨S.D, later, S.len + ((lengthM S.D.w S.D.h later : Nat) - (lengthM S.D.w S.D.h S.ws : Nat)), S.past ++ [.saw ws]⟩ := by
        unfold sawM
        rw [hL]
      have hB7 : BnAt K H7 M b st dst (sawM S ws) := by
        rw [eM]
        exact hB.next (S' := ⟨S.D, later, S.len + ((lengthM S.D.w S.D.h later : Nat) - (lengthM S.D.w S.D.h S.ws : Nat)), S.past ++ [.saw ws]⟩) s06 o7 hS7 hP7 ⟨pk, t, hf6, f2, f3.mono s06, s36 _ _ ht⟩
      have hin : H7 t = some (.tup (natsV later)) := o7.tup _ _ (s36 _ _ ht)
      refine ⟨_, rfl, t, later.map fun x => ((x : Nat) : Int), rfl, ?_, by rw [List.length_map, hll]; omega, fun m hm1 hm2 => ?_⟩
      · rw [List.map_map]
        exact SqT.of hin
      · refine ⟨_, _, rfl, rfl, k (sawM S ws) ?_ _ _ ((Off.of s06).trans o7) hB7⟩
        show (if isPatM S.D.w S.D.h ws = true then some (sawM S ws) else none) = _
        rw [if_pos hP]
    · refine kE ?_ _ _ (.inl rfl) (Off.of s1)
      show (if isPatM S.D.w S.D.h ws = true then some (sawM S ws) else none) = _
      rw [hP]
      rfl
def sp_Bench_exchange (K : Fr) : Sp := fun vs H Q E => ∃ (M : List Addr) (b st dst v : Addr) (S : BS) (pc : Nat) (od : List Nat), vs = [.ref b, .int pc, .ref v] ∧ BnAt K H M b st dst S ∧ S.ok ∧ S.past.length < 900 ∧ H v = some (.tup (natsV od)) ∧ (Op.exchange pc od).ok S.D ∧
  (∀ S', opM S (.exchange pc od) = some S' → ∀ x H', Off [st] H H' → BnAt K H' M b st dst S' → Q x H') ∧ (opM S (.exchange pc od) = none → ∀ c H', SErr K c → Off [st] H H' → E (.ref c) none H')
theorem sc_Bench_exchange0 : FnScope ["self", "piece", "order", "packet", "pattern", "length", "still", "orders", "later", "number"] ["self", "piece", "order"] (defScope s_Bench_exchange) := ⟨rfl, rfl, rfl, by decide +kernel, rfl, by decide +kernel, by decide +kernel⟩
theorem ok_Bench_exchange (T : Txt K mg w) : FnR P w K mg base (L2N.CX P w) 6 (a_Bench_exchange K) (sp_Bench_exchange K) := by
  refine fnrC (d_Bench_exchange T) sc_Bench_exchange0 (fun _ _ _ _ _ _ us hl => match us, hl with | [_, _, _], _ => rfl) (fun vs H Q E h => ?_) (fun cdv A outer s H vs Q E hr h => ?_)
  · obtain ⟨M, b, st, dst, v, S, pc, od, rfl, _⟩ := h
    rfl
  · obtain ⟨M, b, st, dst, v0, S, pc, od, rfl, hB, o, hn, hv, hop, k, kE⟩ := h
    have tk : L2N.Takes (cxOf (L2N.CX P w) P w K mg base ["self", "piece", "order", "packet", "pattern", "length", "still", "orders", "later", "number"] (Str.ofString "Bench.exchange") (defScope s_Bench_exchange) (a_Bench_exchange K) cdv A outer s H E) (fun cls d _ H => E cls d H) := L2N.takes_of rfl rfl rfl rfl
    refine ⟨_, (pss_cons (ps_asg (SlX.pe_sl (pe_fld (pv 0) rfl)) (pg_tup rfl (pgs_cons (pg_name (i := 3) sc_Bench_exchange0.nd rfl (by first | exact Or.inl rfl | exact Or.inr rfl)) (pgs_cons (pg_name (i := 4) sc_Bench_exchange0.nd rfl (by first | exact Or.inl rfl | exact Or.inr rfl)) (pgs_cons (pg_name (i := 5) sc_Bench_exchange0.nd rfl (by first | exact Or.inl rfl | exact Or.inr rfl)) pgs_nil)))))
    (pss_cons (ps_if (pt_not (pt_val (pe_g (ok_is_number T) (hr.mono (by decide)) (g_is_number T) (kp_is_number T) pass0 (pa_cons (pv 1) (pa_cons pe_int (pa_cons (pe_callB (cr_maxT rfl) (by rfl) (n_max T) (by decide +kernel) (pa_cons (pv 4) pa_nil)) pa_nil)))))) (pss_one (L2N.ps_raise rfl tk (L2N.pmk_own PySem.F.excBase_ValueError (ex_UnknownPiece T).1 (g_UnknownPiece T) (ex_UnknownPiece T).2.1 (raises_own (ex_UnknownPiece T).2.2.1 (ex_UnknownPiece T).2.2.2) rfl))) pss_nil)
    (pss_cons (ps_if (pt_not (pt_val (pe_g (ok_is_order T) (hr.mono (by decide)) (g_is_order T) (kp_is_order T) pass0 (pa_cons (pv 2) (pa_cons (pe_callB (call_lenO (fs_Packet_len T).1 (fs_Packet_len T).2 (ok_Packet_len T) (hr.mono (by decide)) pass0) (by rfl) (n_len T) boot_len (pa_cons (pv 3) pa_nil)) pa_nil))))) (pss_one (L2N.ps_raise rfl tk (L2N.pmk_own PySem.F.excBase_ValueError (ex_InvalidOrder T).1 (g_InvalidOrder T) (ex_InvalidOrder T).2.1 (raises_own (ex_InvalidOrder T).2.2.1 (ex_InvalidOrder T).2.2.2) rfl))) pss_nil)
    (pss_cons (ps_set (i := 6) sc_Bench_exchange0.nd rfl (by first | exact Or.inl rfl | exact Or.inr rfl) (pe_tupRg rfl rfl (n_tuple T) (prg_1 rfl (n_range T) (pe_callB (call_lenO (fs_Packet_len T).1 (fs_Packet_len T).2 (ok_Packet_len T) (hr.mono (by decide)) pass0) (by rfl) (n_len T) boot_len (pa_cons (pv 3) pa_nil)))))
    (pss_cons (ps_setLc (i := 7) (own := [("number", 9)]) (g := gName 9) (tt := tYes) rfl sc_Bench_exchange0.nd rfl rfl (sw_true rfl rfl rfl (by decide +kernel)) (pi_range1 (by rfl) (n_range T) (pa_cons (pe_op op_add (pe_callB (cr_maxT rfl) (by rfl) (n_max T) (by decide +kernel) (pa_cons (pv 4) pa_nil)) pe_int) pa_nil)) (blkOk_by (own := [("number", 9)]) (N := ["self", "piece", "order", "packet", "pattern", "length", "still", "orders", "later", "number"]) (sc := defScope s_Bench_exchange) (by decide +kernel)) (fun _ _ _ _ _ => (pg_name (i := 9) sc_Bench_exchange0.nd rfl (by first | exact Or.inl rfl | exact Or.inr rfl))) (fun _ _ _ _ _ => pts_nil) (fun _ _ _ _ _ => (pe_ifExp (pt_cmpR op_eq (pv 9) (pv 1) (nomark _)) (pv 2) (pv 6))))
    (pss_cons (ps_set (i := 8) sc_Bench_exchange0.nd rfl (by first | exact Or.inl rfl | exact Or.inr rfl) (StX.pe_makeR (mk_Packet T) (ok_Packet_init T) (hr.mono (by decide)) rfl (g_Packet T) pass0 (pa_cons (SlX.pe_propSl (pv 3) (sc_Packet T) (pr_Packet_width T).at_ (pr_Packet_width T).get (pr_Packet_width T).tak (pr_Packet_width T).rec_ (ok_Packet_width T) (hr.mono (by decide)) pass0p) (pa_cons (SlX.pe_propSl (pv 3) (sc_Packet T) (pr_Packet_height T).at_ (pr_Packet_height T).get (pr_Packet_height T).tak (pr_Packet_height T).rec_ (ok_Packet_height T) (hr.mono (by decide)) pass0p) (pa_cons (pe_g (ok_relaid T) (hr.mono (by decide)) (g_relaid T) (kp_relaid T) pass0 (pa_cons (SlX.pe_propSl (pv 3) (sc_Packet T) (pr_Packet_sheets T).at_ (pr_Packet_sheets T).get (pr_Packet_sheets T).tak (pr_Packet_sheets T).rec_ (ok_Packet_sheets T) (hr.mono (by decide)) pass0p) (pa_cons (pv 4) (pa_cons (pv 7) pa_nil)))) pa_nil)))))
    (pss_cons (ps_expr (SlX.pe_methSl (pe_fld (pv 0) rfl) (sc_State T) (me_State_go_on T) (ok_State_go_on T) (hr.mono (by decide)) pass0 (pa_cons (pe_tup (pa_cons pe_str (pa_cons (pv 1) (pa_cons (pv 2) pa_nil)))) (pa_cons (pe_tup (pa_cons (pv 8) (pa_cons (pv 4) (pa_cons (pv 5) pa_nil)))) (pa_cons (SlX.pe_sl (pe_fld (pv 0) rfl)) pa_nil)))))
    (pss_one (ps_ret (pe_cmpR (op_neOwn (isi_Packet T).cm (ne_Packet T) (fs_Packet_eq T).1 (fs_Packet_eq T).2 (ok_Packet_eq T) (hr.mono (by decide)) pass0) (pv 8) (pv 3) (nomark _))))))))))), ?_⟩
    obtain ⟨dxb, f, p, sh, u, e1, e2, ⟨pk, v, f1, f2, f3, f4⟩, e4, hstM, hMs⟩ := id hB
    obtain ⟨c1, c6⟩ := o.D.cells
    have n1 := o.D.n1; have n3 := o.D.n3
    obtain ⟨hol, hond, holt⟩ := hop
    obtain ⟨pdx, pt, ps, q1, q2, q3⟩ := f3.parts
    have hne : S.ws ≠ [] := fun z => by
      have := o.len
      rw [z] at this
      simp at this
      omega
    refine ⟨_, rfl, b, _, _, _, _, rfl, e1, cl_Bench T, na_Bench_held T, rfl, st, _, dst, _, _, 0, _, rfl, e2.1, sc_State T, sl_State_facts T, rfl, f, _, rfl, SqT.of f1, rfl, _, _, rfl, _, _, rfl, _, _, rfl, rfl, ?_⟩
    refine ⟨_, rfl, _, rfl, v, S.ws.map fun x => ((x : Nat) : Int), rfl, by rw [List.map_map]; exact SqT.of f4, by rw [List.length_map, o.len]; omega, fun m hm1 hm2 => ?_⟩
    obtain rfl := maxM_is hne hm1 hm2
    refine ⟨_, _, _, rfl, _, rfl, ?_⟩
    rcases Nat.lt_or_ge (maxM S.ws) pc with hpm | hpm
    · rw [show (decide ((0 : Int) ≤ pc) && decide ((pc : Int) ≤ (maxM S.ws : Nat))) = false by simp; omega]
      refine iteT (kE ?_ _ _ (.inr (.inl rfl)) (Off.refl _ _))
      show (if pc ≤ maxM S.ws then some (exchM S pc od) else none) = _
      rw [if_neg (by omega)]
    rw [show (decide ((0 : Int) ≤ pc) && decide ((pc : Int) ≤ (maxM S.ws : Nat))) = true by simp; omega]
    refine iteF ?_
    refine ⟨_, rfl, _, rfl, pk, pdx, _, rfl, q1, pk, S.D, rfl, f3, _, rfl, by omega, ?_⟩
    refine ⟨v0, od, S.D.sh.length, rfl, hv, hol, hond, holt, by omega, fun H1 s1 => ⟨true, rfl, iteF ?_⟩⟩
    refine ⟨_, rfl, pk, pdx, _, rfl, s1.slt q1, pk, S.D, rfl, f3.mono s1, _, rfl, by omega, _, rfl, ⟨by omega, by omega, by omega, by omega, by omega⟩, fun t ht => ?_⟩
    have hrg : rgV 0 ((S.D.sh.length : Nat) : Int) = natsV (List.range S.D.sh.length) := by
      unfold rgV natsV
      rw [show (((S.D.sh.length : Nat) : Int) - 0).toNat = S.D.sh.length by omega]
      refine List.map_congr_left fun i hi => ?_
      rw [Int.zero_add]
    rw [hrg]
    have s2 : Same H (upd H1 t (.tup (natsV (List.range S.D.sh.length)))) := s1.new' ht
    have ht2 : upd H1 t (.tup (natsV (List.range S.D.sh.length))) t = some (.tup (natsV (List.range S.D.sh.length))) := upd_same
    generalize upd H1 t (.tup (natsV (List.range S.D.sh.length))) = H2 at *
    refine ⟨_, rfl, v, S.ws.map fun x => ((x : Nat) : Int), rfl, by rw [List.map_map]; exact SqT.of (s2 _ _ f4), by rw [List.length_map, o.len]; omega, fun m hm3 hm4 => ?_⟩
    obtain rfl := maxM_is hne hm3 hm4
    have hmx := maxM_le o.bd
    refine ⟨_, _, rfl, rfl, _, rfl, by omega, by omega, fun L hL => ?_⟩
    have e0 : (((maxM S.ws : Nat) : Int) + 1).toNat = maxM S.ws + 1 := by omega
    rw [e0]
    refine lc_map walk_range (((List.range (maxM S.ws + 1)).map fun c => if c = pc then v0 else t).map V.ref) (by simp) (by exact small1000 (by omega)) hL (fun _ _ => trivial) (fun i x H3' H3 C hi s3 y kk => ?_) mono_gName (fun H3 s3 hH => ?_)
    · obtain ⟨rfl, rfl⟩ := y
      refine ⟨rfl, _, rfl, _, rfl, rfl, _, rfl, ?_⟩
      have hli : ∀ z : Addr, (if i = pc then v0 else t) = z → (((List.range (maxM S.ws + 1)).map fun c => if c = pc then v0 else t).map V.ref)[i]? = some (.ref z) := fun z hz => by
        rw [List.getElem?_map, List.getElem?_map, List.getElem?_range hi]
        show some (V.ref (if i = pc then v0 else t)) = _
        rw [hz]
      refine ite2 (fun h => ?_) (fun h => ?_)
      · have hip : i = pc := by
          have := of_decide_eq_true h
          injection this with this
          omega
        exact ⟨_, rfl, kk _ _ (Same.refl _) (hli _ (if_pos hip))⟩
      · have hip : ¬ i = pc := fun e => h (decide_eq_true (by show V.int (0 + (i : Int)) = V.int (pc : Int); rw [e, Int.zero_add]))
        exact ⟨_, rfl, kk _ _ (Same.refl _) (hli _ (if_neg hip))⟩
    have s03 := s2.trans s3
    obtain ⟨od1, od2⟩ := ordersM_ok (n := S.D.sh.length) (mx := maxM S.ws) (p := pc) hol holt
    have hPO : Paired (fun a l => H3 a = some (.tup (natsV l))) ((List.range (maxM S.ws + 1)).map fun c => if c = pc then v0 else t) (ordersM S.D.sh.length (maxM S.ws) pc od) := by
      unfold ordersM
      refine paired_maps _ _ _ fun c _ => ?_
      by_cases e : c = pc
      · rw [if_pos e, if_pos e]; exact s03 _ _ hv
      · rw [if_neg e, if_neg e]; exact s3 _ _ ht2
    refine ⟨_, rfl, pk, pdx, _, rfl, s03.slt q1, pk, S.D, rfl, f3.mono s03, ?_⟩
    refine ⟨_, rfl, pk, pdx, _, rfl, s03.slt q1, pk, S.D, rfl, f3.mono s03, ?_⟩
    refine ⟨_, rfl, pk, pdx, _, rfl, s03.slt q1, pk, S.D, rfl, f3.mono s03, fun sA hsA => ?_⟩
    refine ⟨_, rfl, _, rfl, sA, v, L, S.D.sh, S.ws, _, ordersM S.D.sh.length (maxM S.ws) pc od, rfl, hsA, s03 _ _ f4, hH, hPO, by rw [o.len]; omega, n3, fun z hz => by rw [o.len]; exact o.D.len z hz, fun x hx => by rw [od1]; exact Nat.lt_succ_of_le (maxM_ge hx), od2, fun r H4 s4 hr4 => ?_⟩
    have s04 := s03.trans s4
    intro np ndx hnp hndx hnn
    have oD' : PkS.ok ⟨S.D.w, S.D.h, relaidM S.D.sh S.ws (ordersM S.D.sh.length (maxM S.ws) pc od)⟩ := relaid_ok o.D o.len (fun x hx => by rw [od1]; exact Nat.lt_succ_of_le (maxM_ge hx)) od2
    refine ⟨H4, np, ndx, r, ⟨S.D.w, S.D.h, relaidM S.D.sh S.ws (ordersM S.D.sh.length (maxM S.ws) pc od)⟩, rfl, hnp, hndx, hnn, fun c y e => by rw [upd_ne (ne_of_none e hnp), upd_ne (ne_of_none e hndx)]; exact e, upd_same, by rw [upd_ne hnn, upd_same], by rw [upd_ne (ne_of_none hr4 hnp), upd_ne (ne_of_none hr4 hndx)]; exact hr4, oD', fun H5 s5 hN5 => ⟨rfl, ?_⟩⟩
    have s05 := s04.trans s5
    have hst4 := s04 _ _ e2.sl.1
    have npst : np ∉ M := fun z => by
      obtain ⟨u, hu⟩ := hMs _ z
      have := s04 _ _ hu
      rw [hnp] at this
      cases this
    refine ⟨_, rfl, b, _, _, _, _, rfl, s05 _ _ e1, cl_Bench T, na_Bench_held T, rfl, st, dst, _, rfl, s05.slt e2.1, _, rfl, _, rfl, by show 3 ≤ sizeLine; decide, fun a ha => ?_⟩
    refine ⟨_, rfl, _, rfl, _, rfl, by show 3 ≤ sizeLine; decide, fun f' hf' => ?_⟩
    have s6 : Same H5 (upd (upd H5 a (.tup [.str "exchange", .int (pc : Nat), .ref v0])) f' (.tup [.ref np, .ref v, .int S.len])) := (Same.new ha).new' hf'
    have ha6 : upd (upd H5 a (.tup [.str "exchange", .int (pc : Nat), .ref v0])) f' (.tup [.ref np, .ref v, .int S.len]) a = some (.tup [.str "exchange", .int (pc : Nat), .ref v0]) := (Same.refl _).new' hf' a _ upd_same
    have hf6 : upd (upd H5 a (.tup [.str "exchange", .int (pc : Nat), .ref v0])) f' (.tup [.ref np, .ref v, .int S.len]) f' = some (.tup [.ref np, .ref v, .int S.len]) := upd_same
    generalize upd (upd H5 a (.tup [.str "exchange", .int (pc : Nat), .ref v0])) f' (.tup [.ref np, .ref v, .int S.len]) = H6 at *
    have s06 := s05.trans s6
    refine ⟨_, rfl, b, _, _, _, _, rfl, s06 _ _ e1, cl_Bench T, na_Bench_held T, rfl, st, _, dst, _, _, 2, _, rfl, s06.slt e2.1, sc_State T, sl_State_shelf T, rfl, ?_⟩
    refine ⟨st, dst, f, p, a, f', sh, u, sh, S.past, .exchange pc od, rfl, ⟨s06.slt e2.1, e2.2⟩, e4.off (Off.of s06 (M := [])), ⟨v0, ha6, s06 _ _ hv⟩, hn, fun H7 p' u' o7 hS7 hP7 => ?_⟩
    have hB7 : BnAt K H7 M b st dst (exchM S pc od) := hB.next s06 o7 hS7 hP7 ⟨np, v, hf6, npst, hN5.mono s6, s06 _ _ f4⟩
    have oo : Off [st] H H7 := (Off.of s06).trans o7
    have hN7 : PkAt K H7 np _ := (hN5.mono s6).off o7 (fun z => npst (by rw [List.mem_singleton.mp z]; exact hstM))
    have hK7 : PkAt K H7 pk S.D := f3.off oo (fun z => f2 (by rw [List.mem_singleton.mp z]; exact hstM))
    obtain ⟨xdx, xt, xs', x1, x2, x3⟩ := hN7.parts
    obtain ⟨ydx, yt, ys', y1, y2, y3⟩ := hK7.parts
    refine ⟨_, rfl, _, rfl, np, xdx, _, pk, ydx, _, rfl, rfl, x1, y1, np, pk, _, _, rfl, hN7, hK7, oD', o.D, fun bb H8 _ s8 => ⟨bb, rfl, ?_⟩⟩
    refine k (exchM S pc od) ?_ _ _ (oo.trans (Off.of s8)) (hB7.same s8)
    show (if pc ≤ maxM S.ws then some (exchM S pc od) else none) = _
    rw [if_pos hpm]
def sp_Bench_over (K : Fr) : Sp := fun vs H Q E => ∃ (M : List Addr) (b st dst : Addr) (S : BS) (i : Nat), vs = [.ref b, .int i] ∧ BnAt K H M b st dst S ∧ S.ok ∧ S.past.length < 900 ∧
  (∀ S', opM S (.over i) = some S' → ∀ x H', Off [st] H H' → BnAt K H' M b st dst S' → Q x H') ∧ (opM S (.over i) = none → ∀ c H', SErr K c → Off [st] H H' → E (.ref c) none H')
theorem sc_Bench_over0 : FnScope ["self", "index", "packet", "pattern", "length", "later"] ["self", "index"] (defScope s_Bench_over) := ⟨rfl, rfl, rfl, by decide +kernel, rfl, by decide +kernel, by decide +kernel⟩
theorem ok_Bench_over (T : Txt K mg w) : FnR P w K mg base (L2N.CX P w) 6 (a_Bench_over K) (sp_Bench_over K) := by
  refine fnrC (d_Bench_over T) sc_Bench_over0 (fun _ _ _ _ _ _ us hl => match us, hl with | [_, _], _ => rfl) (fun vs H Q E h => ?_) (fun cdv A outer s H vs Q E hr h => ?_)
  · obtain ⟨M, b, st, dst, S, i, rfl, _⟩ := h
    rfl
  · obtain ⟨M, b, st, dst, S, i, rfl, hB, o, hn, k, kE⟩ := h
    have tk : L2N.Takes (cxOf (L2N.CX P w) P w K mg base ["self", "index", "packet", "pattern", "length", "later"] (Str.ofString "Bench.over") (defScope s_Bench_over) (a_Bench_over K) cdv A outer s H E) (fun cls d _ H => E cls d H) := L2N.takes_of rfl rfl rfl rfl
    refine ⟨_, (pss_cons (ps_asg (SlX.pe_sl (pe_fld (pv 0) rfl)) (pg_tup rfl (pgs_cons (pg_name (i := 2) sc_Bench_over0.nd rfl (by first | exact Or.inl rfl | exact Or.inr rfl)) (pgs_cons (pg_name (i := 3) sc_Bench_over0.nd rfl (by first | exact Or.inl rfl | exact Or.inr rfl)) (pgs_cons (pg_name (i := 4) sc_Bench_over0.nd rfl (by first | exact Or.inl rfl | exact Or.inr rfl)) pgs_nil)))))
    (pss_cons (ps_if (pt_not (pt_val (pe_g (ok_is_number T) (hr.mono (by decide)) (g_is_number T) (kp_is_number T) pass0 (pa_cons (pv 1) (pa_cons pe_int (pa_cons (pe_op op_sub (pe_callB (call_lenO (fs_Packet_len T).1 (fs_Packet_len T).2 (ok_Packet_len T) (hr.mono (by decide)) pass0) (by rfl) (n_len T) boot_len (pa_cons (pv 2) pa_nil)) pe_int) pa_nil)))))) (pss_one (L2N.ps_raise rfl tk (L2N.pmk_own PySem.F.excBase_ValueError (ex_UnknownSheet T).1 (g_UnknownSheet T) (ex_UnknownSheet T).2.1 (raises_own (ex_UnknownSheet T).2.2.1 (ex_UnknownSheet T).2.2.2) rfl))) pss_nil)
    (pss_cons (ps_if (pt_cmpR op_gt (pe_callB (cr_maxT rfl) (by rfl) (n_max T) (by decide +kernel) (pa_cons (pv 3) pa_nil)) pe_int (nomark _)) (pss_one (L2N.ps_raise rfl tk (L2N.pmk_own PySem.F.excBase_ValueError (ex_NotWhole T).1 (g_NotWhole T) (ex_NotWhole T).2.1 (raises_own (ex_NotWhole T).2.2.1 (ex_NotWhole T).2.2.2) rfl))) pss_nil)
    (pss_cons (ps_set (i := 5) sc_Bench_over0.nd rfl (by first | exact Or.inl rfl | exact Or.inr rfl) (StX.pe_makeR (mk_Packet T) (ok_Packet_init T) (hr.mono (by decide)) rfl (g_Packet T) pass0 (pa_cons (SlX.pe_propSl (pv 2) (sc_Packet T) (pr_Packet_width T).at_ (pr_Packet_width T).get (pr_Packet_width T).tak (pr_Packet_width T).rec_ (ok_Packet_width T) (hr.mono (by decide)) pass0p) (pa_cons (SlX.pe_propSl (pv 2) (sc_Packet T) (pr_Packet_height T).at_ (pr_Packet_height T).get (pr_Packet_height T).tak (pr_Packet_height T).rec_ (ok_Packet_height T) (hr.mono (by decide)) pass0p) (pa_cons (pe_g (ok_turned_over T) (hr.mono (by decide)) (g_turned_over T) (kp_turned_over T) pass0 (pa_cons (pv 2) (pa_cons (pe_tup (pa_cons (pv 1) pa_nil)) pa_nil))) pa_nil)))))
    (pss_cons (ps_expr (SlX.pe_methSl (pe_fld (pv 0) rfl) (sc_State T) (me_State_go_on T) (ok_State_go_on T) (hr.mono (by decide)) pass0 (pa_cons (pe_tup (pa_cons pe_str (pa_cons (pv 1) pa_nil))) (pa_cons (pe_tup (pa_cons (pv 5) (pa_cons (pv 3) (pa_cons (pv 4) pa_nil)))) (pa_cons (SlX.pe_sl (pe_fld (pv 0) rfl)) pa_nil)))))
    (pss_one (ps_ret (pe_ix ix_tup (SlX.pe_propSl (pv 5) (sc_Packet T) (pr_Packet_sheets T).at_ (pr_Packet_sheets T).get (pr_Packet_sheets T).tak (pr_Packet_sheets T).rec_ (ok_Packet_sheets T) (hr.mono (by decide)) pass0p) (pv 1) (fun _ _ => rfl))))))))), ?_⟩
    obtain ⟨dxb, f, p, sh, u, e1, e2, ⟨pk, v, f1, f2, f3, f4⟩, e4, hstM, hMs⟩ := id hB
    obtain ⟨c1, c6⟩ := o.D.cells
    have n1 := o.D.n1; have n3 := o.D.n3
    obtain ⟨pdx, pt, ps, q1, q2, q3⟩ := f3.parts
    have hmx := maxM_le o.bd
    have hne : S.ws ≠ [] := fun z => by
      have := o.len
      rw [z] at this
      simp at this
      omega
    refine ⟨_, rfl, b, _, _, _, _, rfl, e1, cl_Bench T, na_Bench_held T, rfl, st, _, dst, _, _, 0, _, rfl, e2.1, sc_State T, sl_State_facts T, rfl, f, _, rfl, SqT.of f1, rfl, _, _, rfl, _, _, rfl, _, _, rfl, rfl, ?_⟩
    refine ⟨_, rfl, _, rfl, pk, pdx, _, rfl, q1, pk, S.D, rfl, f3, _, rfl, by omega, _, _, rfl, rfl, _, _, _, rfl, _, rfl, ?_⟩
    rcases Nat.lt_or_ge (S.D.sh.length - 1) i with hi | hi
    · rw [show (decide ((0 : Int) ≤ i) && decide ((i : Int) ≤ (S.D.sh.length : Nat) - 1)) = false by simp; omega]
      refine iteT (kE ?_ _ _ (.inr (.inr (.inl rfl))) (Off.refl _ _))
      show (if i < S.D.sh.length ∧ maxM S.ws = 0 then some (overS S i) else none) = _
      rw [if_neg (fun z => by omega)]
    have hi : i < S.D.sh.length := by omega
    rw [show (decide ((0 : Int) ≤ i) && decide ((i : Int) ≤ (S.D.sh.length : Nat) - 1)) = true by simp; omega]
    refine iteF ?_
    refine ⟨_, rfl, v, S.ws.map fun x => ((x : Nat) : Int), rfl, by rw [List.map_map]; exact SqT.of f4, by rw [List.length_map, o.len]; omega, fun m hm1 hm2 => ?_⟩
    obtain rfl := maxM_is hne hm1 hm2
    refine ⟨_, _, rfl, rfl, _, rfl, ite2 (fun h => ?_) (fun h => ?_)⟩
    · have hm0 : ¬ maxM S.ws = 0 := fun e => by
        have := of_decide_eq_true h
        omega
      refine kE ?_ _ _ (.inr (.inr (.inr (.inl rfl)))) (Off.refl _ _)
      show (if i < S.D.sh.length ∧ maxM S.ws = 0 then some (overS S i) else none) = _
      rw [if_neg (fun z => hm0 z.2)]
    have hm0 : maxM S.ws = 0 := by
      have := of_decide_eq_false (Bool.not_eq_true _ ▸ h)
      omega
    refine ⟨_, rfl, pk, pdx, _, rfl, q1, pk, S.D, rfl, f3, ?_⟩
    refine ⟨_, rfl, pk, pdx, _, rfl, q1, pk, S.D, rfl, f3, ?_⟩
    refine ⟨_, rfl, _, rfl, by show 1 ≤ sizeLine; decide, fun t ht => ?_⟩
    have s1 : Same H (upd H t (.tup [.int (i : Nat)])) := Same.new ht
    refine ⟨pk, t, S.D, i, rfl, f3.mono s1, o.D, upd_same, fun r H4 s4 hr4 => ?_⟩
    have s04 := s1.trans s4
    intro np ndx hnp hndx hnn
    have oD' : PkS.ok ⟨S.D.w, S.D.h, overM S.D i⟩ := over_ok o.D i
    refine ⟨H4, np, ndx, r, ⟨S.D.w, S.D.h, overM S.D i⟩, rfl, hnp, hndx, hnn, fun c y e => by rw [upd_ne (ne_of_none e hnp), upd_ne (ne_of_none e hndx)]; exact e, upd_same, by rw [upd_ne hnn, upd_same], by rw [upd_ne (ne_of_none hr4 hnp), upd_ne (ne_of_none hr4 hndx)]; exact hr4, oD', fun H5 s5 hN5 => ⟨rfl, ?_⟩⟩
    have s05 := s04.trans s5
    have hst4 := s04 _ _ e2.sl.1
    have npst : np ∉ M := fun z => by
      obtain ⟨u, hu⟩ := hMs _ z
      have := s04 _ _ hu
      rw [hnp] at this
      cases this
    refine ⟨_, rfl, b, _, _, _, _, rfl, s05 _ _ e1, cl_Bench T, na_Bench_held T, rfl, st, dst, _, rfl, s05.slt e2.1, _, rfl, by show 2 ≤ sizeLine; decide, fun a ha => ?_⟩
    refine ⟨_, rfl, _, rfl, _, rfl, by show 3 ≤ sizeLine; decide, fun f' hf' => ?_⟩
    have s6 : Same H5 (upd (upd H5 a (.tup [.str "over", .int (i : Nat)])) f' (.tup [.ref np, .ref v, .int S.len])) := (Same.new ha).new' hf'
    have ha6 : upd (upd H5 a (.tup [.str "over", .int (i : Nat)])) f' (.tup [.ref np, .ref v, .int S.len]) a = some (.tup [.str "over", .int (i : Nat)]) := (Same.refl _).new' hf' a _ upd_same
    have hf6 : upd (upd H5 a (.tup [.str "over", .int (i : Nat)])) f' (.tup [.ref np, .ref v, .int S.len]) f' = some (.tup [.ref np, .ref v, .int S.len]) := upd_same
    generalize upd (upd H5 a (.tup [.str "over", .int (i : Nat)])) f' (.tup [.ref np, .ref v, .int S.len]) = H6 at *
    have s06 := s05.trans s6
    refine ⟨_, rfl, b, _, _, _, _, rfl, s06 _ _ e1, cl_Bench T, na_Bench_held T, rfl, st, _, dst, _, _, 2, _, rfl, s06.slt e2.1, sc_State T, sl_State_shelf T, rfl, ?_⟩
    refine ⟨st, dst, f, p, a, f', sh, u, sh, S.past, .over i, rfl, ⟨s06.slt e2.1, e2.2⟩, e4.off (Off.of s06 (M := [])), ha6, hn, fun H7 p' u' o7 hS7 hP7 => ?_⟩
    have hB7 : BnAt K H7 M b st dst (overS S i) := hB.next s06 o7 hS7 hP7 ⟨np, v, hf6, npst, hN5.mono s6, s06 _ _ f4⟩
    have oo : Off [st] H H7 := (Off.of s06).trans o7
    have hN7 : PkAt K H7 np _ := (hN5.mono s6).off o7 (fun z => npst (by rw [List.mem_singleton.mp z]; exact hstM))
    obtain ⟨xdx, xt, xs', x1, x2, x3⟩ := hN7.parts
    refine ⟨_, rfl, np, xdx, _, rfl, x1, np, _, rfl, hN7, fun sA hsA => ?_⟩
    have hov : (overM S.D i).length = S.D.sh.length := by simp [overM]
    have hio : i < (overM S.D i).length := by omega
    have hgi : ((overM S.D i).map V.str)[i]? = some (.str (overM S.D i)[i]) := by rw [List.getElem?_map, List.getElem?_eq_getElem hio]; rfl
    refine ⟨_, rfl, sA, _, _, _, rfl, rfl, SqT.of hsA, atI_nat hgi, ?_⟩
    refine k (overS S i) ?_ _ _ oo hB7
    show (if i < S.D.sh.length ∧ maxM S.ws = 0 then some (overS S i) else none) = _
    rw [if_pos ⟨hi, hm0⟩]
end
end S57


set_option Elab.async false
set_option linter.all false
set_option maxRecDepth 100000
set_option maxHeartbeats 4000000
namespace S57
open PySem PySem.Spec PyProof.Rows L2
/-- with C(..) as y: the def's own __enter__ and __exit__, a body that neither raises nor leaves -/
def tWith (C : Addr) (spE spX : Sp) (tc : TE) (i : Nat) (tb : TS) : TS := fun D σ H => tc σ H fun x H1 => ∃ a dx fs, x = .ref a ∧ H1 a = some (.ins C dx fs) ∧
  spE [.ref a] H1 (fun v H2 => tb { nx := fun σ3 H3 => spX [.ref a, .non, .non, .non] H3 (fun _ H4 => D.nx σ3 H4) E0, rt := fun _ _ => False } (σ.set i (some v)) H2) E0
section
variable {X : Cx}
theorem ps_with {CX : CXT} {C fe fx : Addr} {spE spX : Sp} {k i : Nat} {y : Str} {ctx : Expr} {body : List Stmt} {py pos : Pos} {tc : TE} {tb : TS} (hxe : ∀ e s, X.xe e s → False) (hN : X.N.Nodup) (hi : X.N[i]? = some y) (hx : Loc X.env.scope y) (hf : X.fn y = true ∨ X.env.scope.names.lookup y = some .local)
    (hE : PySem.W.findIn X.K (.ref C) "__enter__" = some (some (.ref fe))) (fE : PySem.W.isFn X.K (.ref fe) = true) (hX : PySem.W.findIn X.K (.ref C) "__exit__" = some (some (.ref fx))) (fX : PySem.W.isFn X.K (.ref fx) = true)
    (FE : FnR X.prog X.w X.K X.mg X.base CX k fe spE) (FX : FnR X.prog X.w X.K X.mg X.base CX k fx spX) (hr : Room k X.A) (hp : Passes CX X E0) (he : PE X ctx tc) (hb : PSs X body tb) :
    PS X (.With [⟨ctx, some (.Name y py)⟩] body pos) (tWith C spE spX tc i tb) := by
  refine ⟨fun pins s σ H D I h => ?_⟩
  refine PySem.W.kw_execN (thn (he.run pins s σ H _ I h) fun u s1 ⟨x, H1, I1, rx, a, dx, fs, ex, ea, q⟩ => ?_)
  subst ex
  obtain rfl : u = Value.ref a := rx
  obtain ⟨mA, O, _, _, _, _⟩ := ins_get I1.hok ea
  obtain ⟨od, J, _⟩ := O.look
  refine PySem.W.kw_core (b := assign (.Name y py) X.env) I1.kIn J hE fE hX fX ?_
  refine thn (wpAny_call (run_fnR (us := [.ref a]) (vs := [.ref a]) FE hr hp I1 (.cons rfl .nil) q)) fun v s2 ⟨v', H2, I2, rv, q2⟩ => ?_
  refine wpAny_mono (E := X.xe) (wpAny_assign_Name (store_ok I2 hN hi hx rv (fun s3 I3 => ?_) hf)) (fun _ _ z => z) hxe
  refine wpAny_mono (hb.run pins s3 _ H2 _ I3 q2) (fun f s4 h4 => ?_) hxe
  cases f with
  | next =>
    obtain ⟨σ4, H4, I4, q4⟩ := h4
    refine thn (wpAny_call (run_fnR (us := [.ref a, .none, .none, .none]) (vs := [.ref a, .non, .non, .non]) FX hr hp I4 (.cons rfl (.cons rfl (.cons rfl (.cons rfl .nil)))) q4)) fun w s5 ⟨_, H5, I5, _, q5⟩ => ⟨σ4, H5, I5, q5⟩
  | brk => obtain ⟨_, _, _, q⟩ := h4; exact q.elim
  | cont => obtain ⟨_, _, _, q⟩ := h4; exact q.elim
  | ret u => obtain ⟨_, _, _, _, _, q⟩ := h4; exact q.elim
end
section
variable {X : Cx}
/-- d.get(key, x) of a written dict d: the key is there -/
def tKGet2 (K : Fr) (d : Addr) (td ty tx : TE) : TE := fun σ H Q => td σ H fun x H1 => x = .ref d ∧ ty σ H1 fun y H2 => tx σ H2 fun _ H3 => ∃ (z : Str) (u0 : Value) (v0 : V), y = .str z ∧ PySem.W.nsIn K d z = some (some u0) ∧ RelV v0 u0 ∧ Q v0 H3
theorem pe_kget2 {o e f : Expr} {apos cpos : Pos} {td ty tx : TE} {d : Addr} {es : Array DictEntry} {n : Nat} (D : KDict X.K X.w d es n) (ho : PE X o td) (he : PE X e ty) (hf : PE X f tx) (m : M2 X o "get" apos e f cpos) :
    PE X (.Call (.Attribute o "get" apos) [e, f] [] cpos) (tKGet2 X.K d td ty tx) := by
  refine ⟨fun pins s σ H Q I h => ?_⟩
  refine wpAny_Call_method m.base m.few m.line PySem.F.plainAttrs_dict PySem.F.slot_dict_get PySem.F.type_dict_get (thn (ho.run pins s σ H _ I h) fun u s1 ⟨x, H1, I1, rx, ex, q1⟩ => ?_)
  subst ex
  obtain rfl : u = Value.ref d := rx
  have M := PySem.W.mapOf_K (prog := X.prog) (w := X.w) I1.kIn D.at_ D.lit
  refine ⟨M.typeIs, fun b q => ?_, ?_⟩
  · cases q
    exact ⟨_, I1.kIn _ _ D.at_, rfl⟩
  rw [m.trees]
  refine Calls.callWith_builtin rfl (Calls.evalArgs_plain (Calls.spliced_cons (thn (he.run pins s1 σ H1 _ I1 q1) fun iv s2 ⟨y, H2, I2, ry, q2⟩ =>
    Calls.spliced_cons (thn (hf.run pins s2 σ H2 _ I2 q2) fun fv s3 ⟨z, H3, I3, rz, k, u0, v0, ey, hk, rv, q3⟩ => Calls.spliced_nil ?_))))
  subst ey
  obtain ⟨t, rfl⟩ := ry
  have M3 := PySem.W.mapOf_K (prog := X.prog) (w := X.w) I3.kIn D.at_ D.lit
  refine call_meetsIn PySem.F.slot_dict_get M3.typeIs PySem.F.entry_dict_get (PySem.F.args_dict_get_3 _ _ _) (meets_dict_get_default (strKind X.prog X.w) d (PySem.strKind_is X.prog X.w k t) D.low fv) ⟨_, M3, ?_⟩
  rw [PySem.W.find_K D.at_ hk]
  exact ⟨v0, H3, I3.tok _, rv, q3⟩
/-- f(e, ..), f a value that is the class at C -/
def tMakeV (C : Addr) (sp : Sp) (E : XK) (tf : TE) (t : TA) : TE := fun σ H Q => tf σ H fun y H1 => y = .ref C ∧ StX.tMakeR C sp E t σ H1 Q
theorem pe_makeV {CX : CXT} {k : Nat} {C f : Addr} {sp : Sp} {E : XK} {fe e : Expr} {es : List Expr} {tf : TE} {t : TA} {pos : Pos} (M : Mk X.K C f) (F : FnR X.prog X.w X.K X.mg X.base CX k f sp) (hr : Room (k + 1) X.A) (hf : PE X fe tf) (hx : Passes CX X E) (ha : PA X (e :: es) t)
    (ht : eval (.Call fe (e :: es) [] pos) X.env = (do callWith pos (← eval fe X.env) [] (backTo pos (starEach (e :: es) X.env)) (backToKw pos (keywordEach [] X.env))) := by rfl)
    (he : starEach (e :: es) X.env = (false, eval e X.env) :: starEach es X.env := by rfl) (hpl : (backTo pos (starEach es X.env)).any (·.1) = false := by rfl) : PE X (.Call fe (e :: es) [] pos) (tMakeV C sp E tf t) := by
  refine ⟨fun pins s σ H Q I h => ?_⟩
  rw [ht]
  refine wpAny_bind (thn (hf.run pins s σ H _ I h) fun u s0 ⟨y, H0, I0, ry, ey, q0⟩ => ?_)
  subst ey
  obtain rfl : u = Value.ref C := ry
  refine PySem.W.callWith_K (h₀ := X.base) I.ok.mod.kin M.kp (thn (ha.run pos pins s0 σ H0 _ I0 q0) fun us s1 ⟨vs, H1, I1, r, q⟩ => ⟨I1.kIn, ?_⟩) he hpl
  exact StX.run_makeR M F hr hx I1 r q
end
end S57

set_option Elab.async false
set_option linter.all false
set_option maxRecDepth 100000
set_option maxHeartbeats 4000000
namespace S57
open PySem PySem.Spec PyProof.Rows L2 TL
theorem shaped_op {x : Str} (ws : List Nat) (h : PyData.strOk x = true) : SeqAt.shaped (.tuple [.str x, .tuple (natsD ws)]) = true := by
  have h1 : PyData.canLayAll0 (natsD ws) = true := by
    have := lay_int (ws.map fun x => ((x : Nat) : Int))
    rw [List.map_map] at this
    exact this
  have h2 : PyData.depthAll (natsD ws) = 0 := by
    have := dep_int (ws.map fun x => ((x : Nat) : Int))
    rw [List.map_map] at this
    exact this
  unfold SeqAt.shaped
  have e1 : (PyData.tuple [.str x, .tuple (natsD ws)]).canLay0 = true := by
    show PyData.canLayAll0 [.str x, .tuple (natsD ws)] = true
    simp [PyData.canLayAll0, PyData.canLay0, h1, h]
  have e3 : (PyData.tuple [.str x, .tuple (natsD ws)]).depth = 2 := by
    show PyData.depthAll [.str x, .tuple (natsD ws)] + 1 = 2
    simp [PyData.depthAll, PyData.depth, h2]
  rw [e1, e3]
  rfl
theorem shaped_op3 {x : Str} (p : Nat) (ws : List Nat) (h : PyData.strOk x = true) : SeqAt.shaped (.tuple [.str x, .int (p : Nat), .tuple (natsD ws)]) = true := by
  have h1 : PyData.canLayAll0 (natsD ws) = true := by
    have := lay_int (ws.map fun x => ((x : Nat) : Int))
    rw [List.map_map] at this
    exact this
  have h2 : PyData.depthAll (natsD ws) = 0 := by
    have := dep_int (ws.map fun x => ((x : Nat) : Int))
    rw [List.map_map] at this
    exact this
  unfold SeqAt.shaped
  have e1 : (PyData.tuple [.str x, .int (p : Nat), .tuple (natsD ws)]).canLay0 = true := by
    show PyData.canLayAll0 [.str x, .int (p : Nat), .tuple (natsD ws)] = true
    simp [PyData.canLayAll0, PyData.canLay0, h1, h]
  have e3 : (PyData.tuple [.str x, .int (p : Nat), .tuple (natsD ws)]).depth = 2 := by
    show PyData.depthAll [.str x, .int (p : Nat), .tuple (natsD ws)] + 1 = 2
    simp [PyData.depthAll, PyData.depth, h2]
  rw [e1, e3]
  rfl
theorem shaped_op1 {x : Str} (p : Nat) (h : PyData.strOk x = true) : SeqAt.shaped (.tuple [.str x, .int (p : Nat)]) = true := by
  unfold SeqAt.shaped
  have e1 : (PyData.tuple [.str x, .int (p : Nat)]).canLay0 = true := by
    show PyData.canLayAll0 [.str x, .int (p : Nat)] = true
    simp [PyData.canLayAll0, PyData.canLay0, h]
  have e3 : (PyData.tuple [.str x, .int (p : Nat)]).depth = 1 := by
    show PyData.depthAll [.str x, .int (p : Nat)] + 1 = 1
    simp [PyData.depthAll, PyData.depth]
  rw [e1, e3]
  rfl
theorem op_parts {K : Fr} {mg : Str → Option Value} {w : World} (T : Txt K mg w) {H : Hp} {a : Addr} {op : Op} (h : OpAt H a op) : ∃ (x : Str) (r : List V), H a = some (.tup (.str x :: r)) ∧ True ∧
    (∀ H', Same H H' → ∃ d, DpAll K H' (.str x :: r) d ∧ SeqAt.shaped (.tuple d) = true) ∧ ∃ n0 : Nat, (.str x :: r : List V).length = n0 ∧ ∃ u0, PySem.W.nsIn K (ga K "SIZES") x = some (some u0) ∧ RelV (.int (n0 : Nat)) u0 := by
  have V4 := T.sizesV
  cases op with
  | saw ws =>
    obtain ⟨t, h1, h2⟩ := h
    refine ⟨"saw", [.ref t], h1, trivial, fun H' s => ⟨[.str "saw", .tuple (natsD ws)], .cons (.str _) (.cons (.tup (SqT.of (s _ _ h2)) (dpAll_nat ws)) .nil), ?_⟩, 2, rfl, ?_⟩
    · exact shaped_op ws (by decide +kernel)
    · exact He.valsB_ok V4 (q := ("saw", .int 2)) (by simp)
  | exchange p o =>
    obtain ⟨t, h1, h2⟩ := h
    refine ⟨"exchange", [.int (p : Nat), .ref t], h1, trivial, fun H' s => ⟨[.str "exchange", .int (p : Nat), .tuple (natsD o)], .cons (.str _) (.cons (.int _) (.cons (.tup (SqT.of (s _ _ h2)) (dpAll_nat o)) .nil)), ?_⟩, 3, rfl, ?_⟩
    · exact shaped_op3 p o (by decide +kernel)
    · exact He.valsB_ok V4 (q := ("exchange", .int 3)) (by simp)
  | glue =>
    refine ⟨"glue", [], h, trivial, fun H' s => ⟨[.str "glue"], .cons (.str _) .nil, by decide +kernel⟩, 1, rfl, ?_⟩
    exact He.valsB_ok V4 (q := ("glue", .int 1)) (by simp)
  | over i =>
    refine ⟨"over", [.int (i : Nat)], h, trivial, fun H' s => ⟨[.str "over", .int (i : Nat)], .cons (.str _) (.cons (.int _) .nil), shaped_op1 i (by decide +kernel)⟩, 2, rfl, ?_⟩
    exact He.valsB_ok V4 (q := ("over", .int 2)) (by simp)
section
variable {P : Program} {w : World} {K : Fr} {mg : Str → Option Value} {base : Heap}
def sp_is_operation : Sp := fun vs H Q _ => ∃ (a : Addr) (op : Op), vs = [.ref a] ∧ OpAt H a op ∧ ∀ H', Same H H' → Q (.bl true) H'
theorem sc_is_operation0 : FnScope ["value"] ["value"] (defScope s_is_operation) := ⟨rfl, rfl, rfl, by decide +kernel, rfl, by decide +kernel, by decide +kernel⟩
theorem ok_is_operation (T : Txt K mg w) : FnR P w K mg base CX0 1 (a_is_operation K) (sp_is_operation) := by
  refine fnr0 (d_is_operation T) sc_is_operation0 (fun _ _ _ _ _ _ us hl => match us, hl with | [_], _ => rfl) (fun vs H Q E h => ?_) (fun cdv A outer s H vs Q E hr h => ?_)
  · obtain ⟨a, op, rfl, _⟩ := h
    rfl
  · obtain ⟨a, op, rfl, ha, k⟩ := h
    refine ⟨_, (pss_cons (ps_if (PW.pt (pw_or (pt_not (pt_val (pe_callB call_isi (by rfl) (n_isinstance T) (by decide +kernel) (pa_cons (pv 0) (pa_cons (pe_bltn (v := .ty "tuple") rfl (n_tuple T) boot_tuple rfl) pa_nil))))) (pw_or (pt_cmpR (op_eqD hr.units) (pv 0) (pe_tup pa_nil) (nomark _)) (pw_or1 (pt_not (pt_val (pe_callB call_isi (by rfl) (n_isinstance T) (by decide +kernel) (pa_cons (pe_ix ix_tup (pv 0) pe_int (fun _ _ => rfl)) (pa_cons (pe_bltn (v := .ty "str") rfl (n_str T) boot_str rfl) pa_nil))))))))) (pss_one (ps_ret pe_bl)) pss_nil)
    (pss_one (ps_ret (pe_cmpR op_eq (pe_kget2 (Classical.choose_spec (Classical.choose_spec T.sizes)) (pe_glob (v := .ref _) rfl (g_SIZES T) rfl) (pe_ix ix_tup (pv 0) pe_int (fun _ _ => rfl)) pe_int ⟨rfl, rfl, rfl, rfl⟩) (pe_callB call_len_seq (by rfl) (n_len T) boot_len (pa_cons (pv 0) pa_nil)) (nomark _))))), ?_⟩
    obtain ⟨x, r, hx, _, hd, n0, hn0, hv⟩ := op_parts T ha
    refine ⟨_, rfl, _, _, .type "tuple", .type "tuple", true, rfl, .ty _, .base (.tup hx), kit_ty (by decide +kernel), true, rfl, iteF ?_⟩
    refine ⟨_, rfl, Nat.zero_le _, fun e he => ?_⟩
    have s1 : Same H (upd H e (.tup [])) := Same.new he
    obtain ⟨d, hdp, hds⟩ := hd _ s1
    refine ⟨.tuple d, .tuple [], .tup (SqT.of (s1 _ _ hx)) hdp, .tup (SqT.of upd_same) .nil, hds, rfl, _, rfl, ?_⟩
    have hz : PyData.eqv (.tuple d) (.tuple []) = false := by
      cases hdp with
      | cons _ _ => simp [PyData.eqv, PyData.eqvAll]
    rw [hz]
    refine iteF ?_
    refine ⟨_, rfl, a, _, _, _, rfl, rfl, SqT.of (s1 _ _ hx), atI_nat (j := 0) rfl, _, _, .type "str", .type "str", true, rfl, .ty _, .base (.str _), kit_ty (by decide +kernel), true, rfl, iteF ?_⟩
    refine ⟨rfl, _, rfl, a, _, _, _, rfl, rfl, SqT.of (s1 _ _ hx), atI_nat (j := 0) rfl, ?_⟩
    obtain ⟨u0, hu0, ru0⟩ := hv
    refine ⟨x, u0, .int (n0 : Nat), rfl, hu0, ru0, _, rfl, a, _, rfl, .inr (SqT.of (s1 _ _ hx)), rfl, ?_⟩
    rw [hn0, decide_eq_true rfl]
    exact k _ s1
def sp_Bench_execute (K : Fr) : Sp := fun vs H Q E => ∃ (M : List Addr) (b st dst a : Addr) (S : BS) (op : Op), vs = [.ref b, .ref a] ∧ BnAt K H M b st dst S ∧ S.ok ∧ S.past.length < 900 ∧ OpAt H a op ∧ op.ok S.D ∧
  (∀ S', opM S op = some S' → ∀ x H', Off [st] H H' → BnAt K H' M b st dst S' → Q x H') ∧ (opM S op = none → ∀ c H', SErr K c → Off [st] H H' → E (.ref c) none H')
theorem sc_Bench_execute0 : FnScope ["self", "operation", "word", "rest"] ["self", "operation"] (defScope s_Bench_execute) := ⟨rfl, rfl, rfl, by decide +kernel, rfl, by decide +kernel, by decide +kernel⟩
theorem ok_Bench_execute (T : Txt K mg w) : FnR P w K mg base (L2N.CX P w) 7 (a_Bench_execute K) (sp_Bench_execute K) := by
  refine fnrC (d_Bench_execute T) sc_Bench_execute0 (fun _ _ _ _ _ _ us hl => match us, hl with | [_, _], _ => rfl) (fun vs H Q E h => ?_) (fun cdv A outer s H vs Q E hr h => ?_)
  · obtain ⟨M, b, st, dst, a, S, op, rfl, _⟩ := h
    rfl
  · obtain ⟨M, b, st, dst, a, S, op, rfl, hB, o, hn, ha, hop, k, kE⟩ := h
    have tk : L2N.Takes (cxOf (L2N.CX P w) P w K mg base ["self", "operation", "word", "rest"] (Str.ofString "Bench.execute") (defScope s_Bench_execute) (a_Bench_execute K) cdv A outer s H E) (fun cls d _ H => E cls d H) := L2N.takes_of rfl rfl rfl rfl
    refine ⟨_, (pss_cons (ps_par (i := 2) (j := 3) rfl sc_Bench_execute0.nd rfl rfl (by decide) rfl rfl (pa_cons (pe_ix ix_tup (pv 1) pe_int (fun _ _ => rfl)) (pa_cons (pe_slice sl_tupA (pv 1) (po_some pe_int) po_none) pa_nil)) (by rfl))
    (pss_cons (ps_if (pt_cmpR op_eq (pv 2) pe_str (nomark _)) (pss_one (ps_ret (pe_methR (pv 0) (cl_Bench T) (me_Bench_saw T) (ok_Bench_saw T) (hr.mono (by decide)) (L2N.passes_call tk (fun _ _ _ _ h => h)) (pa_cons (pe_ix ix_tup (pv 3) pe_int (fun _ _ => rfl)) pa_nil)))) pss_nil)
    (pss_cons (ps_if (pt_cmpR op_eq (pv 2) pe_str (nomark _)) (pss_one (ps_ret (pe_methR (pv 0) (cl_Bench T) (me_Bench_exchange T) (ok_Bench_exchange T) (hr.mono (by decide)) (L2N.passes_call tk (fun _ _ _ _ h => h)) (pa_cons (pe_ix ix_tup (pv 3) pe_int (fun _ _ => rfl)) (pa_cons (pe_ix ix_tup (pv 3) pe_int (fun _ _ => rfl)) pa_nil))))) pss_nil)
    (pss_cons (ps_if (pt_cmpR op_eq (pv 2) pe_str (nomark _)) (pss_one (ps_ret (pe_methR0 (pv 0) (cl_Bench T) (me_Bench_glue T) (ok_Bench_glue T) (hr.mono (by decide)) pass0))) pss_nil)
    (pss_cons (ps_if (pt_cmpR op_eq (pv 2) pe_str (nomark _)) (pss_one (ps_ret (pe_methR (pv 0) (cl_Bench T) (me_Bench_over T) (ok_Bench_over T) (hr.mono (by decide)) (L2N.passes_call tk (fun _ _ _ _ h => h)) (pa_cons (pe_ix ix_tup (pv 3) pe_int (fun _ _ => rfl)) pa_nil)))) pss_nil)
    pss_never))))), ?_⟩
    obtain ⟨dxb, e1⟩ : ∃ dxb, H b = some (.ins (C_Bench K) dxb [("held", .ref st)]) := by
      obtain ⟨dxb, _, _, _, _, e1, _⟩ := hB
      exact ⟨dxb, e1⟩
    cases op with
    | saw ws =>
      obtain ⟨t, h1, h2⟩ := ha
      refine ⟨_, rfl, a, _, _, _, rfl, rfl, SqT.of h1, atI_nat (j := 0) rfl, _, rfl, 1, rfl, a, _, rfl, SqT.of h1, (fun z => absurd (show (1 : Nat) = 0 from z.1) (by decide)), fun _ r hr0 => ⟨_, _, rfl, ?_⟩⟩
      have s1 : Same H (upd H r (.tup [.ref t])) := Same.new hr0
      refine ⟨_, rfl, rfl, _, rfl, ?_⟩
      rw [decide_eq_true rfl]
      refine iteT ⟨_, rfl, b, dxb, _, rfl, s1 _ _ e1, rfl, _, rfl, r, _, _, _, rfl, rfl, SqT.of upd_same, atI_nat (j := 0) rfl, ?_⟩
      exact ⟨M, b, st, dst, t, S, ws, rfl, hB.same s1, o, hn, s1 _ _ h2, hop, fun S' e x H' o' h' => k S' e x H' ((Off.of s1).trans o') h', fun e c H' hc o' => kE e c H' hc ((Off.of s1).trans o')⟩
    | exchange pc od =>
      obtain ⟨t, h1, h2⟩ := ha
      refine ⟨_, rfl, a, _, _, _, rfl, rfl, SqT.of h1, atI_nat (j := 0) rfl, _, rfl, 1, rfl, a, _, rfl, SqT.of h1, (fun z => absurd (show (1 : Nat) = 0 from z.1) (by decide)), fun _ r hr0 => ⟨_, _, rfl, ?_⟩⟩
      have s1 : Same H (upd H r (.tup [.int (pc : Nat), .ref t])) := Same.new hr0
      refine ⟨_, rfl, rfl, _, rfl, ?_⟩
      rw [show decide (V.str "exchange" = V.str "saw") = false by decide]
      refine iteF ⟨_, rfl, rfl, _, rfl, ?_⟩
      rw [decide_eq_true rfl]
      refine iteT ⟨_, rfl, b, dxb, _, rfl, s1 _ _ e1, rfl, _, rfl, r, _, _, _, rfl, rfl, SqT.of upd_same, atI_nat (j := 0) rfl, _, rfl, r, _, _, _, rfl, rfl, SqT.of upd_same, atI_nat (j := 1) rfl, ?_⟩
      exact ⟨M, b, st, dst, t, S, pc, od, rfl, hB.same s1, o, hn, s1 _ _ h2, hop, fun S' e x H' o' h' => k S' e x H' ((Off.of s1).trans o') h', fun e c H' hc o' => kE e c H' hc ((Off.of s1).trans o')⟩
    | glue =>
      have h1 : H a = some (.tup [.str "glue"]) := ha
      refine ⟨_, rfl, a, _, _, _, rfl, rfl, SqT.of h1, atI_nat (j := 0) rfl, _, rfl, 1, rfl, a, _, rfl, SqT.of h1, (fun z => absurd (show (1 : Nat) = 0 from z.1) (by decide)), fun _ r hr0 => ⟨_, _, rfl, ?_⟩⟩
      have s1 : Same H (upd H r (.tup [])) := Same.new hr0
      refine ⟨_, rfl, rfl, _, rfl, ?_⟩
      rw [show decide (V.str "glue" = V.str "saw") = false by decide]
      refine iteF ⟨_, rfl, rfl, _, rfl, ?_⟩
      rw [show decide (V.str "glue" = V.str "exchange") = false by decide]
      refine iteF ⟨_, rfl, rfl, _, rfl, ?_⟩
      rw [decide_eq_true rfl]
      refine iteT ⟨_, rfl, b, dxb, _, rfl, s1 _ _ e1, rfl, ?_⟩
      exact ⟨M, b, st, dst, S, rfl, hB.same s1, o, hn, fun H' o' h' => k (glueM S) rfl _ H' ((Off.of s1).trans o') h'⟩
    | over i =>
      have h1 : H a = some (.tup [.str "over", .int (i : Nat)]) := ha
      refine ⟨_, rfl, a, _, _, _, rfl, rfl, SqT.of h1, atI_nat (j := 0) rfl, _, rfl, 1, rfl, a, _, rfl, SqT.of h1, (fun z => absurd (show (1 : Nat) = 0 from z.1) (by decide)), fun _ r hr0 => ⟨_, _, rfl, ?_⟩⟩
      have s1 : Same H (upd H r (.tup [.int (i : Nat)])) := Same.new hr0
      refine ⟨_, rfl, rfl, _, rfl, ?_⟩
      rw [show decide (V.str "over" = V.str "saw") = false by decide]
      refine iteF ⟨_, rfl, rfl, _, rfl, ?_⟩
      rw [show decide (V.str "over" = V.str "exchange") = false by decide]
      refine iteF ⟨_, rfl, rfl, _, rfl, ?_⟩
      rw [show decide (V.str "over" = V.str "glue") = false by decide]
      refine iteF ⟨_, rfl, rfl, _, rfl, ?_⟩
      rw [decide_eq_true rfl]
      refine iteT ⟨_, rfl, b, dxb, _, rfl, s1 _ _ e1, rfl, _, rfl, r, _, _, _, rfl, rfl, SqT.of upd_same, atI_nat (j := 0) rfl, ?_⟩
      exact ⟨M, b, st, dst, S, i, rfl, hB.same s1, o, hn, fun S' e x H' o' h' => k S' e x H' ((Off.of s1).trans o') h', fun e c H' hc o' => kE e c H' hc ((Off.of s1).trans o')⟩
def trF (b o f c : Addr) : List (Str × V) := [("tested_bench", .ref b), ("origin", .ref o), ("fresh", .ref f), ("chosen", .ref c)]
def sp_Trial_init (K : Fr) : Sp := fun vs H Q _ => ∃ (t dx b dxb st : Addr), vs = [.ref t, .ref b] ∧ H t = some (.ins (C_Trial K) dx []) ∧ H b = some (.ins (C_Bench K) dxb [("held", .ref st)]) ∧ t ≠ b ∧ Q .non (upd H t (.ins (C_Trial K) dx (trF b st st st)))
theorem sc_Trial_init0 : FnScope ["self", "bench"] ["self", "bench"] (defScope s_Trial_init) := ⟨rfl, rfl, rfl, by decide +kernel, rfl, by decide +kernel, by decide +kernel⟩
theorem ok_Trial_init (T : Txt K mg w) : FnR P w K mg base CX0 1 (a_Trial_init K) (sp_Trial_init K) := by
  refine fnr0 (d_Trial_init T) sc_Trial_init0 (fun _ _ _ _ _ _ us hl => match us, hl with | [_, _], _ => rfl) (fun vs H Q E h => ?_) (fun cdv A outer s H vs Q E hr h => ?_)
  · obtain ⟨t, dx, b, dxb, st, rfl, _⟩ := h
    rfl
  · obtain ⟨t, dx, b, dxb, st, rfl, ht, hb, ne, k⟩ := h
    refine ⟨_, (pss_cons (ps_fld (pv 0) (pv 1) rfl)
    (pss_cons (ps_fld (pv 0) (pe_fld (pv 1) rfl) rfl)
    (pss_cons (ps_fld (pv 0) (pe_fld (pv 1) rfl) rfl)
    (pss_one (ps_fld (pv 0) (pe_fld (pv 1) rfl) rfl))))), ?_⟩
    refine ⟨_, rfl, _, rfl, t, _, _, _, rfl, ht, cl_Trial T, na_Trial_tested_bench T, (show (0 : Nat) < 1000 by decide), ?_⟩
    refine ⟨_, rfl, b, _, _, _, _, rfl, by rw [upd_ne (Ne.symm ne)]; exact hb, cl_Bench T, na_Bench_held T, rfl, _, rfl, t, _, _, _, rfl, upd_same, cl_Trial T, na_Trial_origin T, (show (1 : Nat) < 1000 by decide), ?_⟩
    rw [upd_upd]
    refine ⟨_, rfl, b, _, _, _, _, rfl, by rw [upd_ne (Ne.symm ne)]; exact hb, cl_Bench T, na_Bench_held T, rfl, _, rfl, t, _, _, _, rfl, upd_same, cl_Trial T, na_Trial_fresh T, (show (2 : Nat) < 1000 by decide), ?_⟩
    rw [upd_upd]
    refine ⟨_, rfl, b, _, _, _, _, rfl, by rw [upd_ne (Ne.symm ne)]; exact hb, cl_Bench T, na_Bench_held T, rfl, _, rfl, t, _, _, _, rfl, upd_same, cl_Trial T, na_Trial_chosen T, (show (3 : Nat) < 1000 by decide), ?_⟩
    rw [upd_upd]
    exact k
def sp_Trial_hold (K : Fr) : Sp := fun vs H Q _ => ∃ (t dx b o f c : Addr), vs = [.ref t] ∧ H t = some (.ins (C_Trial K) dx (trF b o f c)) ∧ Q .non (upd H t (.ins (C_Trial K) dx (trF b o f f)))
theorem sc_Trial_hold0 : FnScope ["self"] ["self"] (defScope s_Trial_hold) := ⟨rfl, rfl, rfl, by decide +kernel, rfl, by decide +kernel, by decide +kernel⟩
theorem ok_Trial_hold (T : Txt K mg w) : FnR P w K mg base CX0 1 (a_Trial_hold K) (sp_Trial_hold K) := by
  refine fnr0 (d_Trial_hold T) sc_Trial_hold0 (fun _ _ _ _ _ _ us hl => match us, hl with | [_], _ => rfl) (fun vs H Q E h => ?_) (fun cdv A outer s H vs Q E hr h => ?_)
  · obtain ⟨t, dx, b, o, f, c, rfl, _⟩ := h
    rfl
  · obtain ⟨t, dx, b, o, f, c, rfl, ht, k⟩ := h
    refine ⟨_, (pss_one (ps_fld (pv 0) (pe_fld (pv 0) rfl) rfl)), ?_⟩
    exact ⟨_, rfl, t, _, _, _, _, rfl, ht, cl_Trial T, na_Trial_fresh T, rfl, _, rfl, t, _, _, _, rfl, ht, cl_Trial T, na_Trial_chosen T, (show (4 : Nat) < 1000 by decide), k⟩
def sp_Trial_enter (K : Fr) : Sp := fun vs H Q _ => ∃ (t dx b dxb st dst f p o0 f0 c0 : Addr) (sh u : V), vs = [.ref t] ∧ H t = some (.ins (C_Trial K) dx (trF b o0 f0 c0)) ∧ H b = some (.ins (C_Bench K) dxb [("held", .ref st)]) ∧ t ≠ b ∧ StAt K H st dst f p sh u ∧
  ∀ H' ch dch fr dfr, Off [t, b] H H' → H ch = none → H fr = none → H' t = some (.ins (C_Trial K) dx (trF b st fr ch)) → H' b = some (.ins (C_Bench K) dxb [("held", .ref fr)]) → StAt K H' ch dch f p sh u → StAt K H' fr dfr f p sh u → Q (.ref t) H'
theorem sc_Trial_enter0 : FnScope ["self"] ["self"] (defScope s_Trial_enter) := ⟨rfl, rfl, rfl, by decide +kernel, rfl, by decide +kernel, by decide +kernel⟩
theorem ok_Trial_enter (T : Txt K mg w) : FnR P w K mg base CX0 4 (a_Trial_enter K) (sp_Trial_enter K) := by
  refine fnr0 (d_Trial_enter T) sc_Trial_enter0 (fun _ _ _ _ _ _ us hl => match us, hl with | [_], _ => rfl) (fun vs H Q E h => ?_) (fun cdv A outer s H vs Q E hr h => ?_)
  · obtain ⟨t, dx, b, dxb, st, dst, f, p, o0, f0, c0, sh, u, rfl, _⟩ := h
    rfl
  · obtain ⟨t, dx, b, dxb, st, dst, f, p, o0, f0, c0, sh, u, rfl, ht, hb, ne, hs, k⟩ := h
    refine ⟨_, (pss_cons (ps_fld (pv 0) (pe_fld (pe_fld (pv 0) rfl) rfl) rfl)
    (pss_cons (ps_fld (pv 0) (SlX.pe_methSl0 (pe_fld (pv 0) rfl) (sc_State T) (me_State_copied T) (ok_State_copied T) (hr.mono (by decide)) pass0) rfl)
    (pss_cons (ps_fld (pv 0) (SlX.pe_methSl0 (pe_fld (pv 0) rfl) (sc_State T) (me_State_copied T) (ok_State_copied T) (hr.mono (by decide)) pass0) rfl)
    (pss_cons (ps_fld (pe_fld (pv 0) rfl) (pe_fld (pv 0) rfl) rfl)
    (pss_one (ps_ret (pv 0))))))), ?_⟩
    have nbs : b ≠ st := fun z => by
      rw [z, hs.sl.1] at hb
      exact slO_ins (Option.some.inj hb)
    have nts : t ≠ st := fun z => by
      rw [z, hs.sl.1] at ht
      exact slO_ins (Option.some.inj ht)
    have insN : ∀ {M : List Addr} {H : Hp} {a A D : Addr} {fs : List (Str × V)} {o : HO}, a ∈ M → H a = some (.ins A D fs) → Off M H (upd H a o) := fun h e => Off.mut h e (fun _ z => by cases z) (fun z => by cases z)
    refine ⟨_, rfl, t, _, _, _, _, rfl, ht, cl_Trial T, na_Trial_tested_bench T, rfl, b, _, _, _, _, rfl, hb, cl_Bench T, na_Bench_held T, rfl, _, rfl, t, _, _, _, rfl, ht, cl_Trial T, na_Trial_origin T, (show (4 : Nat) < 1000 by decide), ?_⟩
    have o1 : Off [t, b] H (upd H t (.ins (C_Trial K) dx (trF b st f0 c0))) := insN (by simp) ht
    have ht1 : upd H t (.ins (C_Trial K) dx (trF b st f0 c0)) t = some (.ins (C_Trial K) dx (trF b st f0 c0)) := upd_same
    have hb1 : upd H t (.ins (C_Trial K) dx (trF b st f0 c0)) b = some (.ins (C_Bench K) dxb [("held", .ref st)]) := by rw [upd_ne (Ne.symm ne)]; exact hb
    have hs1 := hs.off o1 (by simp; exact ⟨Ne.symm nts, Ne.symm nbs⟩)
    show tSeq _ _ _ _ (upd H t (.ins (C_Trial K) dx (trF b st f0 c0)))
    generalize upd H t (.ins (C_Trial K) dx (trF b st f0 c0)) = H1 at *
    have fr1 : ∀ x, H1 x = none → H x = none := fun x e => by
      cases q : H x with
      | none => rfl
      | some u => obtain ⟨u', e'⟩ := o1.there _ _ q; rw [e] at e'; cases e'
    refine ⟨_, rfl, t, _, _, _, _, rfl, ht1, cl_Trial T, na_Trial_origin T, rfl, st, dst, _, rfl, hs1.1, st, dst, f, p, sh, u, rfl, hs1, fun ch dch H2 s2 hch _ hC => ?_⟩
    refine ⟨_, rfl, t, _, _, _, rfl, s2 _ _ ht1, cl_Trial T, na_Trial_chosen T, (show (4 : Nat) < 1000 by decide), ?_⟩
    have ntc : t ≠ ch := fun z => by rw [← z, ht1] at hch; cases hch
    have nbc : b ≠ ch := fun z => by rw [← z, hb1] at hch; cases hch
    have nsc : st ≠ ch := fun z => by
      have := hs1.sl.1
      rw [z, hch] at this
      cases this
    have o3 : Off [t, b] H2 (upd H2 t (.ins (C_Trial K) dx (trF b st f0 ch))) := insN (by simp) (s2 _ _ ht1)
    have ht3 : upd H2 t (.ins (C_Trial K) dx (trF b st f0 ch)) t = some (.ins (C_Trial K) dx (trF b st f0 ch)) := upd_same
    have hb3 : upd H2 t (.ins (C_Trial K) dx (trF b st f0 ch)) b = some (.ins (C_Bench K) dxb [("held", .ref st)]) := by rw [upd_ne (Ne.symm ne)]; exact s2 _ _ hb1
    have hs2 : StAt K H2 st dst f p sh u := hs1.off (Off.of s2) (M := []) (by simp)
    have hs3 := hs2.off o3 (by simp; exact ⟨Ne.symm nts, Ne.symm nbs⟩)
    have hC3 := hC.off o3 (by simp; exact ⟨Ne.symm ntc, Ne.symm nbc⟩)
    have o13 : Off [t, b] H (upd H2 t (.ins (C_Trial K) dx (trF b st f0 ch))) := o1.trans ((Off.of s2).trans o3)
    show tSeq _ _ _ _ (upd H2 t (.ins (C_Trial K) dx (trF b st f0 ch)))
    generalize upd H2 t (.ins (C_Trial K) dx (trF b st f0 ch)) = H3 at *
    have fr3 : ∀ x, H3 x = none → H x = none := fun x e => by
      cases q : H x with
      | none => rfl
      | some u => obtain ⟨u', e'⟩ := o13.there _ _ q; rw [e] at e'; cases e'
    refine ⟨_, rfl, t, _, _, _, _, rfl, ht3, cl_Trial T, na_Trial_origin T, rfl, st, dst, _, rfl, hs3.1, st, dst, f, p, sh, u, rfl, hs3, fun fr dfr H4 s4 hfr _ hF => ?_⟩
    refine ⟨_, rfl, t, _, _, _, rfl, s4 _ _ ht3, cl_Trial T, na_Trial_fresh T, (show (4 : Nat) < 1000 by decide), ?_⟩
    have ntf : t ≠ fr := fun z => by rw [← z, ht3] at hfr; cases hfr
    have nbf : b ≠ fr := fun z => by rw [← z, hb3] at hfr; cases hfr
    have o5 : Off [t, b] H4 (upd H4 t (.ins (C_Trial K) dx (trF b st fr ch))) := insN (by simp) (s4 _ _ ht3)
    have ht5 : upd H4 t (.ins (C_Trial K) dx (trF b st fr ch)) t = some (.ins (C_Trial K) dx (trF b st fr ch)) := upd_same
    have hb5 : upd H4 t (.ins (C_Trial K) dx (trF b st fr ch)) b = some (.ins (C_Bench K) dxb [("held", .ref st)]) := by rw [upd_ne (Ne.symm ne)]; exact s4 _ _ hb3
    have hC4 : StAt K H4 ch dch f p sh u := hC3.off (Off.of s4) (M := []) (by simp)
    have hC5 := hC4.off o5 (by simp; exact ⟨Ne.symm ntc, Ne.symm nbc⟩)
    have hF5 := hF.off o5 (by simp; exact ⟨Ne.symm ntf, Ne.symm nbf⟩)
    have o15 : Off [t, b] H (upd H4 t (.ins (C_Trial K) dx (trF b st fr ch))) := o13.trans ((Off.of s4).trans o5)
    show tSeq _ _ _ _ (upd H4 t (.ins (C_Trial K) dx (trF b st fr ch)))
    generalize upd H4 t (.ins (C_Trial K) dx (trF b st fr ch)) = H5 at *
    refine ⟨_, rfl, t, _, _, _, _, rfl, ht5, cl_Trial T, na_Trial_fresh T, rfl, _, rfl, t, _, _, _, _, rfl, ht5, cl_Trial T, na_Trial_tested_bench T, rfl, b, _, _, _, rfl, hb5, cl_Bench T, na_Bench_held T, (show (1 : Nat) < 1000 by decide), ?_⟩
    have o6 : Off [t, b] H5 (upd H5 b (.ins (C_Bench K) dxb [("held", .ref fr)])) := insN (by simp) hb5
    refine ⟨_, rfl, k _ ch dch fr dfr (o15.trans o6) (fr1 _ hch) (fr3 _ hfr) ?_ upd_same (hC5.off (M := [t, b]) o6 (by simp; exact ⟨Ne.symm ntc, Ne.symm nbc⟩)) (hF5.off (M := [t, b]) o6 (by simp; exact ⟨Ne.symm ntf, Ne.symm nbf⟩))⟩
    show upd H5 b _ t = _
    rw [upd_ne ne]
    exact ht5
def sp_Trial_exit (K : Fr) : Sp := fun vs H Q _ => ∃ (t dx b dxb st dst f p fr c dc f' p' : Addr) (x sh u sh' u' : V), vs = [.ref t, .non, .non, .non] ∧ H t = some (.ins (C_Trial K) dx (trF b st fr c)) ∧ H b = some (.ins (C_Bench K) dxb [("held", x)]) ∧ t ≠ b ∧ c ≠ st ∧ StAt K H st dst f p sh u ∧ StAt K H c dc f' p' sh' u' ∧
  ∀ H', Off [st, b] H H' → StAt K H' st dst f' p' sh' u' → H' b = some (.ins (C_Bench K) dxb [("held", .ref st)]) → Q .non H'
theorem sc_Trial_exit0 : FnScope ["self", "kind", "error", "trace"] ["self", "kind", "error", "trace"] (defScope s_Trial_exit) := ⟨rfl, rfl, rfl, by decide +kernel, rfl, by decide +kernel, by decide +kernel⟩
theorem ok_Trial_exit (T : Txt K mg w) : FnR P w K mg base CX0 4 (a_Trial_exit K) (sp_Trial_exit K) := by
  refine fnr0 (d_Trial_exit T) sc_Trial_exit0 (fun _ _ _ _ _ _ us hl => match us, hl with | [_, _, _, _], _ => rfl) (fun vs H Q E h => ?_) (fun cdv A outer s H vs Q E hr h => ?_)
  · obtain ⟨t, dx, b, dxb, st, dst, f, p, fr, c, dc, f', p', x, sh, u, sh', u', rfl, _⟩ := h
    rfl
  · obtain ⟨t, dx, b, dxb, st, dst, f, p, fr, c, dc, f', p', x, sh, u, sh', u', rfl, ht, hb, ne, ncs, hs, hc, k⟩ := h
    refine ⟨_, (pss_cons (SlX.ps_sl (pe_fld (pv 0) rfl) (SlX.pe_sl (pe_fld (pv 0) rfl)))
    (pss_cons (SlX.ps_sl (pe_fld (pv 0) rfl) (SlX.pe_sl (pe_fld (pv 0) rfl)))
    (pss_cons (SlX.ps_sl (pe_fld (pv 0) rfl) (SlX.pe_sl (pe_fld (pv 0) rfl)))
    (pss_cons (SlX.ps_sl (pe_fld (pv 0) rfl) (SlX.pe_sl (pe_fld (pv 0) rfl)))
    (pss_one (ps_fld (pe_fld (pv 0) rfl) (pe_fld (pv 0) rfl) rfl)))))), ?_⟩
    have nbs : b ≠ st := fun z => by
      rw [z, hs.sl.1] at hb
      exact slO_ins (Option.some.inj hb)
    have nts : t ≠ st := fun z => by
      rw [z, hs.sl.1] at ht
      exact slO_ins (Option.some.inj ht)
    obtain ⟨g1, g2⟩ := hs.sl
    have nd := hs.2
    have step : ∀ (H1 : Hp) (vs vs' : List (Option V)), Off [st] H H1 → H1 st = some (SlX.SlO st (C_State K) dst vs) → H1 dst = some (.xd []) → Off [st] H (SlX.slH H1 st (C_State K) dst vs') ∧ SlX.slH H1 st (C_State K) dst vs' st = some (SlX.SlO st (C_State K) dst vs') ∧ SlX.slH H1 st (C_State K) dst vs' dst = some (.xd []) := fun H1 vs vs' o e1 e2 =>
      ⟨o.trans (Off.sl e1 e2 (by simp)), upd_same, by unfold SlX.slH; rw [upd_ne nd, upd_same]⟩
    have hold : ∀ H1 : Hp, Off [st] H H1 → H1 t = some (.ins (C_Trial K) dx (trF b st fr c)) ∧ StAt K H1 c dc f' p' sh' u' := fun H1 o => by
      exact ⟨o.old _ _ (by simpa using nts) ht, hc.off o (by simpa using ncs)⟩
    refine ⟨_, rfl, t, _, _, _, _, rfl, ht, cl_Trial T, na_Trial_chosen T, rfl, c, _, dc, _, _, 0, _, rfl, hc.1, sc_State T, sl_State_facts T, rfl, ?_⟩
    refine ⟨_, rfl, t, _, _, _, _, rfl, ht, cl_Trial T, na_Trial_origin T, rfl, st, C_State K, dst, _, _, 0, rfl, hs.1, sc_State T, sl_State_facts T, ?_⟩
    obtain ⟨o1, s1, d1⟩ := step H _ (SlX.putS 0 (.ref f') [some (.ref f), some (.ref p), some sh, some u]) (Off.refl _ _) g1 g2
    generalize SlX.slH H st (C_State K) dst (SlX.putS 0 (.ref f') [some (.ref f), some (.ref p), some sh, some u]) = H1 at *
    obtain ⟨ht1, hc1⟩ := hold H1 o1
    refine ⟨_, rfl, t, _, _, _, _, rfl, ht1, cl_Trial T, na_Trial_chosen T, rfl, c, _, dc, _, _, 2, _, rfl, hc1.1, sc_State T, sl_State_shelf T, rfl, ?_⟩
    refine ⟨_, rfl, t, _, _, _, _, rfl, ht1, cl_Trial T, na_Trial_origin T, rfl, st, C_State K, dst, _, _, 2, rfl, .inr ⟨s1, d1⟩, sc_State T, sl_State_shelf T, ?_⟩
    obtain ⟨o2, s2, d2⟩ := step H1 _ (SlX.putS 2 sh' (SlX.putS 0 (.ref f') [some (.ref f), some (.ref p), some sh, some u])) o1 s1 d1
    generalize SlX.slH H1 st (C_State K) dst (SlX.putS 2 sh' (SlX.putS 0 (.ref f') [some (.ref f), some (.ref p), some sh, some u])) = H2 at *
    obtain ⟨ht2, hc2⟩ := hold H2 o2
    refine ⟨_, rfl, t, _, _, _, _, rfl, ht2, cl_Trial T, na_Trial_chosen T, rfl, c, _, dc, _, _, 1, _, rfl, hc2.1, sc_State T, sl_State_past T, rfl, ?_⟩
    refine ⟨_, rfl, t, _, _, _, _, rfl, ht2, cl_Trial T, na_Trial_origin T, rfl, st, C_State K, dst, _, _, 1, rfl, .inr ⟨s2, d2⟩, sc_State T, sl_State_past T, ?_⟩
    obtain ⟨o3, s3, d3⟩ := step H2 _ (SlX.putS 1 (.ref p') (SlX.putS 2 sh' (SlX.putS 0 (.ref f') [some (.ref f), some (.ref p), some sh, some u]))) o2 s2 d2
    generalize SlX.slH H2 st (C_State K) dst (SlX.putS 1 (.ref p') (SlX.putS 2 sh' (SlX.putS 0 (.ref f') [some (.ref f), some (.ref p), some sh, some u]))) = H3 at *
    obtain ⟨ht3, hc3⟩ := hold H3 o3
    refine ⟨_, rfl, t, _, _, _, _, rfl, ht3, cl_Trial T, na_Trial_chosen T, rfl, c, _, dc, _, _, 3, _, rfl, hc3.1, sc_State T, sl_State_undone T, rfl, ?_⟩
    refine ⟨_, rfl, t, _, _, _, _, rfl, ht3, cl_Trial T, na_Trial_origin T, rfl, st, C_State K, dst, _, _, 3, rfl, .inr ⟨s3, d3⟩, sc_State T, sl_State_undone T, ?_⟩
    obtain ⟨o4, s4, d4⟩ := step H3 _ (SlX.putS 3 u' (SlX.putS 1 (.ref p') (SlX.putS 2 sh' (SlX.putS 0 (.ref f') [some (.ref f), some (.ref p), some sh, some u])))) o3 s3 d3
    have hb4 : SlX.slH H3 st (C_State K) dst (SlX.putS 3 u' (SlX.putS 1 (.ref p') (SlX.putS 2 sh' (SlX.putS 0 (.ref f') [some (.ref f), some (.ref p), some sh, some u])))) b = some (.ins (C_Bench K) dxb [("held", x)]) := by
      exact o4.old _ _ (by simpa using nbs) hb
    generalize SlX.slH H3 st (C_State K) dst (SlX.putS 3 u' (SlX.putS 1 (.ref p') (SlX.putS 2 sh' (SlX.putS 0 (.ref f') [some (.ref f), some (.ref p), some sh, some u])))) = H4 at *
    obtain ⟨ht4, hc4⟩ := hold H4 o4
    refine ⟨_, rfl, t, _, _, _, _, rfl, ht4, cl_Trial T, na_Trial_origin T, rfl, _, rfl, t, _, _, _, _, rfl, ht4, cl_Trial T, na_Trial_tested_bench T, rfl, b, _, _, _, rfl, hb4, cl_Bench T, na_Bench_held T, (show (1 : Nat) < 1000 by decide), ?_⟩
    have o5 : Off [st, b] H4 (upd H4 b (.ins (C_Bench K) dxb [("held", .ref st)])) := Off.mut (by simp) hb4 (fun _ z => by cases z) (fun z => by cases z)
    refine k _ ((o4.mono (by simp)).trans o5) ⟨.inr ⟨?_, o5.xd _ d4⟩, nd⟩ upd_same
    show upd H4 b _ st = _
    rw [upd_ne (Ne.symm nbs)]
    exact s4
end
end S57


set_option Elab.async false
set_option linter.all false
set_option maxRecDepth 100000
set_option maxHeartbeats 4000000
namespace S57
open PySem PySem.Spec PyProof.Rows L2 TL
def foldOps : BS → List Op → Option BS
  | S, [] => some S
  | S, op :: r => (opM S op).bind fun S' => foldOps S' r
theorem foldOps_snoc : ∀ (S : BS) (l : List Op) (op : Op), foldOps S (l ++ [op]) = (foldOps S l).bind fun S' => opM S' op
  | S, [], op => by
    show (opM S op).bind (fun S' => foldOps S' []) = opM S op
    cases opM S op <;> rfl
  | S, a :: r, op => by
    show (opM S a).bind (fun S' => foldOps S' (r ++ [op])) = ((opM S a).bind fun S' => foldOps S' r).bind fun S' => opM S' op
    cases opM S a with
    | none => rfl
    | some S' => exact foldOps_snoc S' r op
theorem foldOps_app (S : BS) : ∀ (l r : List Op), foldOps S (l ++ r) = (foldOps S l).bind fun S' => foldOps S' r := by
  intro l
  induction l generalizing S with
  | nil => intro r; rfl
  | cons a l ih =>
    intro r
    show (opM S a).bind (fun S' => foldOps S' (l ++ r)) = ((opM S a).bind fun S' => foldOps S' l).bind fun S' => foldOps S' r
    cases opM S a with
    | none => rfl
    | some S' => exact ih S' r
theorem Op.ok_same {D D' : PkS} {op : Op} (h : op.ok D) (h1 : D'.w = D.w) (h2 : D'.h = D.h) (h3 : D'.sh.length = D.sh.length) : op.ok D' := by
  cases op with
  | saw ws => exact ⟨by rw [h1, h2]; exact h.1, h.2⟩
  | exchange p o => exact ⟨by rw [h3]; exact h.1, h.2.1, by rw [h3]; exact h.2.2⟩
  | glue => trivial
  | over i => trivial
theorem foldOps_ok : ∀ {l : List Op} {S S' : BS}, S.ok → (∀ op ∈ l, op.ok S.D) → foldOps S l = some S' → S'.ok ∧ S'.D.w = S.D.w ∧ S'.D.h = S.D.h ∧ S'.D.sh.length = S.D.sh.length ∧ S'.past = S.past ++ l
  | [], S, S', o, _, e => by
    cases e
    exact ⟨o, rfl, rfl, rfl, by simp⟩
  | op :: r, S, S', o, h, e => by
    have e : (opM S op).bind (fun S' => foldOps S' r) = some S' := e
    cases q : opM S op with
    | none => rw [q] at e; cases e
    | some S1 =>
      rw [q] at e
      obtain ⟨a1, a2, a3, a4, a5⟩ := opM_ok o (h op List.mem_cons_self) q
      obtain ⟨b1, b2, b3, b4, b5⟩ := foldOps_ok (l := r) a1 (fun x hx => Op.ok_same (h x (List.mem_cons_of_mem _ hx)) a2 a3 a4) e
      exact ⟨b1, b2.trans a2, b3.trans a3, b4.trans a4, by rw [b5, a5, List.append_assoc]; rfl⟩
section
variable {P : Program} {w : World} {K : Fr} {mg : Str → Option Value} {base : Heap}
def sp_Bench_apply_all (K : Fr) : Sp := fun vs H Q _ => ∃ (M : List Addr) (b st dst l : Addr) (os : List Addr) (S S' : BS) (ops : List Op), vs = [.ref b, .ref l] ∧ BnAt K H M b st dst S ∧ S.ok ∧ S.past.length + ops.length < 900 ∧ H l = some (.lst (os.map V.ref)) ∧ Paired (OpAt H) os ops ∧ (∀ op ∈ ops, op.ok S.D) ∧ foldOps S ops = some S' ∧
  ∀ M' x H', Off [st, b] H H' → BnAt K H' M' b st dst S' → Q x H'
theorem sc_Bench_apply_all0 : FnScope ["self", "operations", "index", "operation", "trial", "found"] ["self", "operations"] (defScope s_Bench_apply_all) := ⟨rfl, rfl, rfl, by decide +kernel, rfl, by decide +kernel, by decide +kernel⟩
theorem ok_Bench_apply_all (T : Txt K mg w) : FnR P w K mg base CX0 8 (a_Bench_apply_all K) (sp_Bench_apply_all K) := by
  refine fnr0 (d_Bench_apply_all T) sc_Bench_apply_all0 (fun _ _ _ _ _ _ us hl => match us, hl with | [_, _], _ => rfl) (fun vs H Q E h => ?_) (fun cdv A outer s H vs Q E hr h => ?_)
  · obtain ⟨M, b, st, dst, l, os, S, S', ops, rfl, _⟩ := h
    rfl
  · obtain ⟨M, b, st, dst, l, os, S, S', ops, rfl, hB, o, hn, hl, hO, hok, hf, k⟩ := h
    refine ⟨_, (pss_cons (ps_for PassesOwn.never rfl (pi_enum (by rfl) (n_enumerate T) (pa_cons (pv 1) pa_nil)) (pg_tup rfl (pgs_cons (pg_name (i := 2) sc_Bench_apply_all0.nd rfl (by first | exact Or.inl rfl | exact Or.inr rfl)) (pgs_cons (pg_name (i := 3) sc_Bench_apply_all0.nd rfl (by first | exact Or.inl rfl | exact Or.inr rfl)) pgs_nil)))
    (pss_one (ps_if (pt_not (pt_val (pe_g (ok_is_operation T) (hr.mono (by decide)) (g_is_operation T) (kp_is_operation T) pass0 (pa_cons (pv 3) pa_nil)))) pss_never pss_nil)))
    (pss_cons (ps_with (i := 4) (fun _ _ h => h) sc_Bench_apply_all0.nd rfl (by first | exact Or.inl rfl | exact Or.inr rfl) (by first | exact Or.inl rfl | exact Or.inr rfl) (fs_Trial_enter T).1 (fs_Trial_enter T).2 (fs_Trial_exit T).1 (fs_Trial_exit T).2 (ok_Trial_enter T) (ok_Trial_exit T) (hr.mono (by decide)) pass0 (StX.pe_makeR (mk_Trial T) (ok_Trial_init T) (hr.mono (by decide)) rfl (g_Trial T) pass0 (pa_cons (pv 0) pa_nil)) (pss_cons (ps_setLc (i := 5) (own := [("operation", 3)]) (g := gName 3) (tt := tYes) rfl sc_Bench_apply_all0.nd rfl rfl (sw_true rfl rfl rfl (by decide +kernel)) (pi_list (pv 1)) (blkOk_by (own := [("operation", 3)]) (N := ["self", "operations", "index", "operation", "trial", "found"]) (sc := defScope s_Bench_apply_all) (by decide +kernel)) (fun _ _ _ _ _ => (pg_name (i := 3) sc_Bench_apply_all0.nd rfl (by first | exact Or.inl rfl | exact Or.inr rfl))) (fun _ _ _ _ _ => pts_nil) (fun _ _ _ _ _ => (pe_methR (pv 0) (cl_Bench T) (me_Bench_execute T) (ok_Bench_execute T) (hr.mono (by decide)) (passN0 rfl rfl) (pa_cons (pv 3) pa_nil))))
    (pss_one (ps_expr (pe_methR0 (pv 4) (cl_Trial T) (me_Trial_hold T) (ok_Trial_hold T) (hr.mono (by decide)) pass0)))))
    (pss_one (ps_ret (pv 5))))), ?_⟩
    obtain ⟨dxb, f, p, sh, u, e1, e2, ⟨pk, v, f1, f2, f3, f4⟩, e4, hstM, hMs⟩ := id hB
    have hol : os.length = ops.length := Paired.length hO
    refine ⟨_, rfl, l, _, rfl, SqL.of hl, ?_⟩
    refine for_it (walk_enum (xs := os.map V.ref)) (fun i σ H' => ∃ v2 v3, σ = [some (.ref b), some (.ref l), v2, v3, none, none] ∧ Same H H') ⟨none, none, rfl, Same.refl _⟩ ?_ ?_ ?_
    · rintro i σ H' hi ⟨v2, v3, _, s⟩
      exact SqL.of (s _ _ hl)
    · rintro i x σ H1 H2 hi ⟨v2, v3, rfl, s1⟩ ⟨T1, x1, y1, rfl, hT, rfl, hx1, hy1⟩
      have hy1 : (os.map V.ref)[i]? = some y1 := hy1
      rw [List.getElem?_map] at hy1
      obtain ⟨a, ha, rfl⟩ := Option.map_eq_some_iff.mp hy1
      obtain ⟨op, hop, hOp⟩ := Paired.get hO ha
      have s2 : Same H (upd H1 T1 (.tup [x1, .ref a])) := s1.new' hT
      refine ⟨T1, _, rfl, SqT.of upd_same, rfl, _, _, rfl, _, _, rfl, rfl, ?_⟩
      refine ⟨_, rfl, a, op, rfl, hOp.off (Off.of s2) (M := []), fun H3 s3 => ⟨true, rfl, iteF ⟨_, _, rfl, s2.trans s3⟩⟩⟩
    rintro σ H1 ⟨v2, v3, rfl, s1⟩
    refine ⟨_, rfl, fun t dx ht hdx hne => ?_⟩
    have hb1 := s1 _ _ e1
    have ntb : t ≠ b := fun z => by rw [z, hb1] at ht; cases ht
    have sA : Same H1 (upd (upd H1 dx (.own t)) t (.ins (C_Trial K) dx (trF b st st st))) := (Same.new hdx).new' (by rw [upd_ne (Ne.symm hne)]; exact ht)
    refine ⟨t, dx, b, dxb, st, rfl, upd_same, by rw [upd_ne (Ne.symm ntb), upd_ne (ne_of_none hb1 hdx)]; exact hb1, ntb, ?_⟩
    rw [upd_upd]
    have htA : upd (upd H1 dx (.own t)) t (.ins (C_Trial K) dx (trF b st st st)) t = some (.ins (C_Trial K) dx (trF b st st st)) := upd_same
    refine ⟨rfl, t, dx, _, rfl, htA, ?_⟩
    show sp_Trial_enter K [.ref t] (upd (upd H1 dx (.own t)) t (.ins (C_Trial K) dx (trF b st st st))) _ _
    generalize upd (upd H1 dx (.own t)) t (.ins (C_Trial K) dx (trF b st st st)) = HA at *
    have s0A := s1.trans sA
    have hbA := s0A _ _ e1
    refine ⟨t, dx, b, dxb, st, dst, f, p, st, st, st, sh, u, rfl, htA, hbA, ntb, ⟨s0A.slt e2.1, e2.2⟩, fun Hw ch dch fr dfr oW hch hfr htW hbW hCW hFW => ?_⟩
    have hN : ∀ x ∈ [t, b], x ∈ M ∨ (∃ A D fs, HA x = some (.ins A D fs)) ∨ ∃ xs, HA x = some (.lst xs) := fun x hx => by
      simp at hx
      rcases hx with rfl | rfl
      · exact .inr (.inl ⟨_, _, _, htA⟩)
      · exact .inr (.inl ⟨_, _, _, hbA⟩)
    have hFA : FcAt K HA M f S := ⟨pk, v, s0A _ _ f1, f2, f3.mono s0A, s0A _ _ f4⟩
    obtain ⟨pk', v', w1, w2, w3, w4⟩ := hFA.off oW hN
    have hpkA : ∃ u, HA pk' = some u := by
      obtain ⟨q1, q2, q3, q4, q5, q6⟩ := hFA
      have e := oW.tup _ _ q3
      rw [w1] at e
      have e := Option.some.inj e
      injection e with e
      injection e with e _
      injection e with e
      obtain ⟨u, hu⟩ := q5.some
      exact ⟨u, by rw [e]; exact hu⟩
    have nst : st ≠ t ∧ st ≠ b := ⟨fun z => by
      have := s0A _ _ e2.sl.1
      rw [z, htA] at this
      exact slO_ins (Option.some.inj this).symm, fun z => by
      have := s0A _ _ e2.sl.1
      rw [z, hbA] at this
      exact slO_ins (Option.some.inj this).symm⟩
    have hStW : StAt K Hw st dst f p sh u := StAt.off (M := [t, b]) ⟨s0A.slt e2.1, e2.2⟩ oW (by simp; exact nst)
    have hBW : BnAt K Hw [fr, ch, st] b fr dfr S := by
      refine ⟨dxb, f, p, sh, u, hbW, hFW, ⟨pk', v', w1, ?_, w3, w4⟩, (e4.off (Off.of s0A) (M := [])).off oW, by simp, fun x hx => ?_⟩
      · simp
        obtain ⟨u, hu⟩ := hpkA
        refine ⟨(fun z => by rw [z, hfr] at hu; cases hu), (fun z => by rw [z, hch] at hu; cases hu), fun z => w2 (by rw [z]; exact hstM)⟩
      · simp at hx
        rcases hx with rfl | rfl | rfl
        · exact ⟨_, hFW.sl.1⟩
        · exact ⟨_, hCW.sl.1⟩
        · exact ⟨_, hStW.sl.1⟩
    have frn : fr ≠ st ∧ fr ≠ t ∧ fr ≠ b := by
      refine ⟨fun z => ?_, (fun z => by rw [z, htA] at hfr; cases hfr), (fun z => by rw [z, hbA] at hfr; cases hfr)⟩
      have := s0A _ _ e2.sl.1
      rw [← z, hfr] at this
      cases this
    have hlW : Hw l = some (.lst (os.map V.ref)) := oW.old _ _ (by
      simp
      refine ⟨fun z => ?_, fun z => ?_⟩
      · have := s0A _ _ hl
        rw [z, htA] at this
        cases this
      · have := s0A _ _ hl
        rw [z, hbA] at this
        cases this) (s0A _ _ hl)
    have hOW : Paired (OpAt Hw) os ops := Paired.mapP hO fun _ _ z => (z.off (Off.of s0A) (M := [])).off oW
    refine ⟨_, rfl, l, rfl, ⟨_, SqL.of hlW⟩, fun L hL => ?_⟩
    have hfold : ∀ i, i ≤ ops.length → ∃ Si, foldOps S (ops.take i) = some Si := fun i hi => by
      have e : ops.take i ++ ops.drop i = ops := List.take_append_drop i ops
      rw [← e, foldOps_app] at hf
      cases q : foldOps S (ops.take i) with
      | none => rw [q] at hf; cases hf
      | some Si => exact ⟨Si, rfl⟩
    refine lc_it (walk_list (xs := os.map V.ref)) (fun i H' => Off [fr] Hw H' ∧ (∃ Si, foldOps S (ops.take i) = some Si ∧ BnAt K H' [fr, ch, st] b fr dfr Si) ∧ ∃ acc, H' L = some (.lst acc) ∧ acc.length = i) ⟨Off.of (Same.new hL), ⟨S, rfl, hBW.same (Same.new hL)⟩, [], upd_same, rfl⟩ (fun i H' _ q => SqL.of (q.1.old _ _ (fun z => by
      have := List.mem_singleton.mp z
      rw [this, hFW.sl.1] at hlW
      exact slO_lst (Option.some.inj hlW)) hlW)) (fun i x H2' H2 hi q y => ?_) (fun H2 q => ?_)
    · obtain ⟨oH, ⟨Si, hSi, hBi⟩, acc, hacc, hal⟩ := q
      obtain ⟨rfl, hx⟩ := y
      rw [List.length_map] at hi
      rw [List.getElem?_map] at hx
      obtain ⟨a, ha, rfl⟩ := Option.map_eq_some_iff.mp hx
      obtain ⟨op, hop, hOp⟩ := Paired.get hOW ha
      have hil : i < ops.length := by omega
      obtain ⟨S1, hS1⟩ := hfold (i + 1) hil
      have hst : opM Si op = some S1 := by
        rw [List.take_add_one, hop] at hS1
        show opM Si op = _
        have := foldOps_snoc S (ops.take i) op
        rw [hSi] at this
        rw [show ops.take i ++ (some op).toList = ops.take i ++ [op] from rfl, this] at hS1
        exact hS1
      obtain ⟨so, d1, d2, d3, d4⟩ := foldOps_ok (l := ops.take i) o (fun x hx => hok x (List.mem_of_mem_take hx)) hSi
      have hopk : op.ok Si.D := Op.ok_same (hok op (List.mem_of_getElem? hop)) d1 d2 d3
      refine ⟨rfl, ?_⟩
      unfold tYes
      dsimp only
      rw [if_pos rfl]
      obtain ⟨dxb2, f2', p2', sh2, u2, b1, _⟩ := id hBi
      refine ⟨_, rfl, b, dxb2, _, rfl, b1, rfl, _, rfl, [fr, ch, st], b, fr, dfr, a, Si, op, rfl, hBi, so, by rw [d4, List.length_append, List.length_take]; omega, hOp.off oH, hopk, fun S2 e2' x H3 o3 hB3 => ?_, fun e => by rw [hst] at e; cases e⟩
      rw [hst] at e2'
      cases e2'
      have hLn : L ∉ [fr] := fun z => by
        obtain ⟨_, _, _, _, _, _, g, _⟩ := hBi
        have := List.mem_singleton.mp z
        rw [this, g.sl.1] at hacc
        exact slO_lst (Option.some.inj hacc)
      have hacc3 := o3.old _ _ hLn hacc
      have oL : ∀ oo : HO, Off [L] H3 (upd H3 L oo) := fun oo => Off.mut (by simp) hacc3 (fun _ z => by cases z) (fun z => by cases z)
      refine ⟨acc, hacc3, by rw [hal]; exact small1000 (by omega), (oH.trans o3).updN hL, ⟨S1, hS1, hB3.off (N := [L]) (oL _) (fun x hx => ⟨acc, by rw [List.mem_singleton.mp hx]; exact hacc3⟩)⟩, _, upd_same, by rw [List.length_append, hal]; rfl⟩
    · obtain ⟨oH, ⟨Si, hSi, hBi⟩, acc, hacc, hal⟩ := q
      rw [List.length_map, hol, List.take_length, hf] at hSi
      cases hSi
      obtain ⟨dxb2, f2', p2', sh2, u2, b1, b2, ⟨pkz, vz, z1, z2, z3, z4⟩, b4, b5, b6⟩ := id hBi
      have ht2 := oH.old _ _ (by simp; exact Ne.symm frn.2.1) htW
      have hSt2 : StAt K H2 st dst f p sh u := hStW.off oH (by simp; exact Ne.symm frn.1)
      refine ⟨_, rfl, t, dx, _, rfl, ht2, rfl, t, dx, b, st, fr, ch, rfl, ht2, ?_⟩
      have o3 : Off [t] H2 (upd H2 t (.ins (C_Trial K) dx (trF b st fr fr))) := Off.mut (by simp) ht2 (fun _ z => by cases z) (fun z => by cases z)
      have hb3 : upd H2 t (.ins (C_Trial K) dx (trF b st fr fr)) b = some (.ins (C_Bench K) dxb2 [("held", .ref fr)]) := by rw [upd_ne (Ne.symm ntb)]; exact b1
      have ht3 : upd H2 t (.ins (C_Trial K) dx (trF b st fr fr)) t = some (.ins (C_Trial K) dx (trF b st fr fr)) := upd_same
      have hSt3 := hSt2.off o3 (by simp; exact nst.1)
      have hFr3 := b2.off o3 (by simp; exact frn.2.1)
      have hFc3 : FcAt K (upd H2 t (.ins (C_Trial K) dx (trF b st fr fr))) [fr, ch, st] f2' S' := FcAt.off ⟨pkz, vz, z1, z2, z3, z4⟩ o3 (fun x hx => .inr (.inl ⟨C_Trial K, dx, trF b st fr ch, by rw [List.mem_singleton.mp hx]; exact ht2⟩))
      have hP3 := b4.off o3
      have hx3 : ∀ x ∈ [fr, ch, st], ∃ u, upd H2 t (.ins (C_Trial K) dx (trF b st fr fr)) x = some u := fun x hx => let ⟨u, hu⟩ := b6 x hx; o3.there _ _ hu
      refine ⟨t, dx, b, dxb2, st, dst, f, p, fr, fr, dfr, f2', p2', .ref fr, sh, u, sh2, u2, rfl, ht3, hb3, ntb, frn.1, hSt3, hFr3, fun H4 o4 hSt4 hb4 => ?_⟩
      refine ⟨_, rfl, k [fr, ch, st] _ H4 ?_ ⟨dxb2, f2', p2', sh2, u2, hb4, hSt4, hFc3.off o4 (fun x hx => ?_), hP3.off o4, by simp, fun x hx => let ⟨u, hu⟩ := hx3 x hx; o4.there _ _ hu⟩⟩
      · have oa : Off [t, b, fr, st] HA H4 := (oW.mono (by simp)).trans ((oH.mono (by simp)).trans ((o3.mono (by simp)).trans (o4.mono (by simp))))
        refine ⟨fun c y hc e => ?_, fun c xs e => oa.tup _ _ (s0A _ _ e), fun c e => oa.xd _ (s0A _ _ e), fun c y e => oa.there _ _ (s0A _ _ e)⟩
        refine oa.old _ _ ?_ (s0A _ _ e)
        simp at hc ⊢
        refine ⟨fun z => ?_, hc.2, fun z => ?_, hc.1⟩
        · have := s1 _ _ e
          rw [z, ht] at this
          cases this
        · have := s0A _ _ e
          rw [z, hfr] at this
          cases this
      · simp at hx
        rcases hx with rfl | rfl
        · exact .inl (by simp)
        · exact .inr (.inl ⟨_, _, _, hb3⟩)
def sp_Bench_replay (K : Fr) : Sp := fun vs H Q _ => ∃ (p l : Addr) (os : List Addr) (D : PkS) (S' : BS) (ops : List Op), vs = [.ref (C_Bench K), .ref p, .ref l] ∧ PkAt K H p D ∧ D.ok ∧ ops.length < 800 ∧ H l = some (.lst (os.map V.ref)) ∧ Paired (OpAt H) os ops ∧ (∀ op ∈ ops, op.ok D) ∧ foldOps ⟨D, List.replicate (D.w * D.h) 0, 0, []⟩ ops = some S' ∧
  ∀ M b st dst H', Same H H' → BnAt K H' M b st dst S' → Q (.ref b) H'
theorem sc_Bench_replay0 : FnScope ["cls", "packet", "operations", "bench"] ["cls", "packet", "operations"] (defScope s_Bench_replay) := ⟨rfl, rfl, rfl, by decide +kernel, rfl, by decide +kernel, by decide +kernel⟩
theorem ok_Bench_replay (T : Txt K mg w) : FnR P w K mg base CX0 9 (a_Bench_replay K) (sp_Bench_replay K) := by
  refine fnr0 (d_Bench_replay T) sc_Bench_replay0 (fun _ _ _ _ _ _ us hl => match us, hl with | [_, _, _], _ => rfl) (fun vs H Q E h => ?_) (fun cdv A outer s H vs Q E hr h => ?_)
  · obtain ⟨p, l, os, D, S', ops, rfl, _⟩ := h
    rfl
  · obtain ⟨p, l, os, D, S', ops, rfl, hp, o, hn, hl, hO, hok, hf, k⟩ := h
    refine ⟨_, (pss_cons (ps_set (i := 3) sc_Bench_replay0.nd rfl (by first | exact Or.inl rfl | exact Or.inr rfl) (pe_makeV (mk_Bench T) (ok_Bench_init T) (hr.mono (by decide)) (pv 0) pass0 (pa_cons (pv 1) pa_nil)))
    (pss_cons (ps_expr (pe_methR (pv 3) (cl_Bench T) (me_Bench_apply_all T) (ok_Bench_apply_all T) (hr.mono (by decide)) pass0 (pa_cons (pv 2) pa_nil)))
    (pss_one (ps_ret (pv 3))))), ?_⟩
    refine ⟨_, rfl, rfl, _, rfl, fun b dx hb hdx hne => ?_⟩
    refine ⟨H, b, dx, p, D, rfl, hb, hdx, hne, fun c u e => by rw [upd_ne (ne_of_none e hb), upd_ne (ne_of_none e hdx)]; exact e, upd_same, by rw [upd_ne hne, upd_same], hp, o, fun st dst H1 s1 hst hB => ⟨rfl, ?_⟩⟩
    obtain ⟨dxb, f, ps, sh, u, e1, _⟩ := id hB
    refine ⟨_, rfl, b, dxb, _, rfl, e1, rfl, _, rfl, [st], b, st, dst, l, os, _, S', ops, rfl, hB, ⟨o, by simp, fun x hx => by rw [List.eq_of_mem_replicate hx]; exact Nat.zero_le _⟩, by show 0 + _ < _; omega, s1 _ _ hl, Paired.mapP hO fun _ _ z => z.off (Off.of s1) (M := []), hok, hf, fun M' x H2 o2 hB2 => ?_⟩
    refine ⟨_, rfl, k M' b st dst H2 (fun c u e => o2.old _ _ ?_ (s1 _ _ e)) hB2⟩
    simp
    exact ⟨(fun z => by rw [z, hst] at e; cases e), (fun z => by rw [z, hb] at e; cases e)⟩
end
end S57


set_option Elab.async false
set_option linter.all false
set_option maxRecDepth 100000
set_option maxHeartbeats 4000000
namespace S57
open PySem PySem.Spec PyProof.Rows L2 TL
/-- a number as a text -/
def numT (n : Nat) : Str := Str.ofString (toString ((n : Nat) : Int))
def cntM (D : PkS) : List (Str × Nat) := [("saw", D.w * D.h), ("exchange", 1 + D.sh.length), ("glue", 0), ("over", 1), ("show", 1), ("repeat", 1), ("when", 2), ("end", 0)]
/-- the words of a line -/
structure Wd where
  head : Str
  nums : List Nat
  lt : Option Nat
def Wd.words (x : Wd) : List Str := x.head :: (x.nums.map numT ++ (x.lt.map chr1).toList)
structure Wd.okW (x : Wd) : Prop where
  lt : (x.head = "when" ∧ ∃ c, x.lt = some c ∧ okLet c) ∨ (x.head ≠ "when" ∧ x.lt = none)
  sm : ∀ n ∈ x.nums, n < 100
  ln : x.nums.length ≤ 10
theorem cut_tail (x : V) (ys : List V) : cutV (x :: ys) (some 1) none = ys := by
  unfold cutV
  rw [show HT.sIx (x :: ys).length 0 (some 1) = 1 from HT.sIx_nat _ _ 1 |>.trans (by rw [List.length_cons]; omega), HT.sIx_none]
  simp
theorem cut_mid (x z : V) (ys : List V) : cutV (x :: (ys ++ [z])) (some 1) (some (-1)) = ys := by
  unfold cutV
  have e1 : HT.sIx (x :: (ys ++ [z])).length 0 (some 1) = 1 := HT.sIx_nat _ _ 1 |>.trans (by rw [List.length_cons]; omega)
  have e2 : HT.sIx (x :: (ys ++ [z])).length (x :: (ys ++ [z])).length (some (-1)) = ys.length + 1 := by
    show (if (-1 : Int) < 0 then ((-1 : Int) + (((x :: (ys ++ [z])).length : Nat) : Int)).toNat else 0) = _
    rw [if_pos (by decide), List.length_cons, List.length_append, List.length_singleton]
    omega
  rw [e1, e2]
  simp
theorem cut_init (z : V) (ys : List V) : cutV (ys ++ [z]) none (some (-1)) = ys := by
  unfold cutV
  have e2 : HT.sIx (ys ++ [z]).length (ys ++ [z]).length (some (-1)) = ys.length := by
    show (if (-1 : Int) < 0 then ((-1 : Int) + (((ys ++ [z]).length : Nat) : Int)).toNat else 0) = _
    rw [if_pos (by decide), List.length_append, List.length_singleton]
    omega
  rw [e2, HT.sIx_none]
  simp
theorem small_facts : ∀ n, n < 100 → 1 ≤ (numT n).cps.toList.length ∧ (numT n).cps.toList.length ≤ 2 ∧ (∀ c ∈ (numT n).cps.toList, decide (c ∈ ("0123456789" : Str).cps.toList) = true) ∧ (numT n = "0" ∨ (numT n).cps.toList.head? ≠ some 48) ∧ intText? (numT n) = some (n : Int) ∧ (32 ∉ (numT n).cps.toList ∧ 10 ∉ (numT n).cps.toList) := by decide +kernel
section
variable {P : Program} {w : World} {K : Fr} {mg : Str → Option Value} {base : Heap}
def sp_is_small : Sp := fun vs H Q _ => ∃ n : Nat, vs = [.str (numT n)] ∧ n < 100 ∧ ∀ H', Same H H' → Q (.bl true) H'
theorem sc_is_small0 : FnScope ["word", "sign"] ["word"] (defScope s_is_small) := ⟨rfl, rfl, rfl, by decide +kernel, rfl, by decide +kernel, by decide +kernel⟩
theorem ok_is_small (T : Txt K mg w) : FnR P w K mg base CX0 1 (a_is_small K) (sp_is_small) := by
  refine fnr0 (d_is_small T) sc_is_small0 (fun _ _ _ _ _ _ us hl => match us, hl with | [_], _ => rfl) (fun vs H Q E h => ?_) (fun cdv A outer s H vs Q E hr h => ?_)
  · obtain ⟨n, rfl, _⟩ := h
    rfl
  · obtain ⟨n, rfl, hn, k⟩ := h
    refine ⟨_, (pss_cons (ps_if (PW.pt (pw_or (pt_not (pt_chain op_le op_le pe_int (pe_callB call_len_str (by rfl) (n_len T) boot_len (pa_cons (pv 0) pa_nil)) (pe_glob rfl (Classical.choose_spec (c_MOST_DIGITS T)).1 (Classical.choose_spec (c_MOST_DIGITS T)).2))) (pw_or1 (pt_not (pt_val (pe_callB (cr_all rfl) (by rfl) (n_all T) (by decide +kernel) (pa_cons (pe_lc (own := [("sign", 1)]) (g := gName 1) (tt := tYes) rfl sc_is_small0.nd (pi_str (pv 0)) (blkOk_by (own := [("sign", 1)]) (N := ["word", "sign"]) (sc := defScope s_is_small) (by decide +kernel)) (fun _ _ _ _ _ => (pg_name (i := 1) sc_is_small0.nd rfl (by first | exact Or.inl rfl | exact Or.inr rfl))) (fun _ _ _ _ _ => pts_nil) (fun _ _ _ _ _ => (pe_cmpR op_in_sign (pv 1) (pe_glob rfl (Classical.choose_spec (c_DIGITS T)).1 (Classical.choose_spec (c_DIGITS T)).2) rfl))) pa_nil))))))) (pss_one (ps_ret pe_bl)) pss_nil)
    (pss_one (ps_ret (pe_or (pe_cmpR op_eq (pv 0) pe_str (nomark _)) (pe_one (pe_cmpR op_ne (pe_ix ix_str (pv 0) pe_int (fun _ _ => rfl)) pe_str (nomark _))))))), ?_⟩
    obtain ⟨f1, f2, f3, f4, f5, f6⟩ := small_facts n hn
    have e : (numT n).length = (numT n).cps.toList.length := by rw [Array.length_toList]; rfl
    have hz : (numT n).length ≤ sizeLine := Nat.le_of_lt (small1000 (by omega))
    refine ⟨_, rfl, _, rfl, hz, _, _, rfl, rfl, _, rfl, ?_⟩
    rw [show decide ((1 : Int) ≤ ((numT n).length : Nat)) = true by simp; omega]
    refine iteT ⟨_, _, rfl, rfl, _, rfl, ?_⟩
    rw [show decide ((((numT n).length : Nat) : Int) ≤ 2) = true by simp; omega]
    refine iteF ?_
    refine ⟨_, rfl, numT n, rfl, fun D hD => ?_⟩
    refine lc_map walk_str ((List.replicate (numT n).cps.size true).map V.bl) (by simp) (by show (numT n).length < _; exact small1000 (by omega)) hD (fun _ _ => trivial) (fun i x H1 H' C hi s y kk => ?_) mono_gName (fun H1 s hH => ?_)
    · obtain ⟨rfl, c, hc1, rfl⟩ := y
      refine ⟨rfl, _, rfl, c, _, rfl, rfl, ?_⟩
      have hm : c ∈ (numT n).cps.toList := by
        have := Array.mem_of_getElem? hc1
        simpa using this
      rw [f3 c hm]
      exact kk _ _ (Same.refl _) (by rw [List.getElem?_map, List.getElem?_replicate, if_pos hi]; rfl)
    · refine ⟨D, _, rfl, SqL.of hH, ?_⟩
      rw [all_rep]
      refine ⟨true, rfl, iteF ?_⟩
      have hc0 : ∃ c, (numT n).cps.toList.head? = some c := by
        cases q : (numT n).cps.toList with
        | nil => rw [q] at f1; simp at f1
        | cons c r => exact ⟨c, rfl⟩
      obtain ⟨c, hc⟩ := hc0
      have hat : (numT n).cps.toList[0]? = some c := by rw [← List.head?_eq_getElem?]; exact hc
      refine ⟨_, rfl, rfl, ?_⟩
      cases hd : decide (V.str (numT n) = V.str "0") with
      | true => exact ⟨true, rfl, iteT (k _ s)⟩
      | false =>
        refine ⟨false, rfl, iteF ⟨_, rfl, numT n, _, c, rfl, rfl, hz, atI_nat (j := 0) hat, rfl, ?_⟩⟩
        have hn48 : c ≠ 48 := fun z => by
          rcases f4 with f4 | f4
          · rw [f4] at hd
            exact absurd hd (by simp)
          · exact f4 (by rw [hc, z])
        rw [show (!decide (V.str ⟨#[c]⟩ = V.str "0")) = true by
          rw [Bool.not_eq_true', decide_eq_false_iff_not]
          intro z
          injection z with z
          injection z with z
          have : (#[c] : Array Nat) = #[48] := z
          simp at this
          exact hn48 this]
        exact k _ s
def sp_numbers_in (K : Fr) : Sp := fun vs H Q _ => ∃ (p : Addr) (D : PkS) (h : Str) (c : Nat), vs = [.ref p, .str h] ∧ PkAt K H p D ∧ D.ok ∧ (h, c) ∈ cntM D ∧ ∀ H', Same H H' → Q (.int (c : Nat)) H'
theorem sc_numbers_in0 : FnScope ["packet", "head", "counts"] ["packet", "head"] (defScope s_numbers_in) := ⟨rfl, rfl, rfl, by decide +kernel, rfl, by decide +kernel, by decide +kernel⟩
theorem ok_numbers_in (T : Txt K mg w) : FnR P w K mg base CX0 3 (a_numbers_in K) (sp_numbers_in K) := by
  refine fnr0 (d_numbers_in T) sc_numbers_in0 (fun _ _ _ _ _ _ us hl => match us, hl with | [_, _], _ => rfl) (fun vs H Q E h => ?_) (fun cdv A outer s H vs Q E hr h => ?_)
  · obtain ⟨p, D, h, c, rfl, _⟩ := h
    rfl
  · obtain ⟨p, D, h, c, rfl, hp, o, hm, k⟩ := h
    refine ⟨_, (pss_cons (ps_set (i := 2) sc_numbers_in0.nd rfl (by first | exact Or.inl rfl | exact Or.inr rfl) (pe_disp (pps_cons (pe_glob rfl (Classical.choose_spec (c_SAW T)).1 (Classical.choose_spec (c_SAW T)).2) (SlX.pe_propSl (pv 0) (sc_Packet T) (pr_Packet_cells T).at_ (pr_Packet_cells T).get (pr_Packet_cells T).tak (pr_Packet_cells T).rec_ (ok_Packet_cells T) (hr.mono (by decide)) pass0p) (pps_cons (pe_glob rfl (Classical.choose_spec (c_EXCHANGE T)).1 (Classical.choose_spec (c_EXCHANGE T)).2) (pe_op op_add pe_int (pe_callB (call_lenO (fs_Packet_len T).1 (fs_Packet_len T).2 (ok_Packet_len T) (hr.mono (by decide)) pass0) (by rfl) (n_len T) boot_len (pa_cons (pv 0) pa_nil))) (pps_cons (pe_glob rfl (Classical.choose_spec (c_GLUE T)).1 (Classical.choose_spec (c_GLUE T)).2) pe_int (pps_cons (pe_glob rfl (Classical.choose_spec (c_OVER T)).1 (Classical.choose_spec (c_OVER T)).2) pe_int (pps_cons (pe_glob rfl (Classical.choose_spec (c_SHOW T)).1 (Classical.choose_spec (c_SHOW T)).2) pe_int (pps_cons (pe_glob rfl (Classical.choose_spec (c_REPEAT T)).1 (Classical.choose_spec (c_REPEAT T)).2) pe_int (pps_cons (pe_glob rfl (Classical.choose_spec (c_WHEN T)).1 (Classical.choose_spec (c_WHEN T)).2) pe_int (pps_cons (pe_glob rfl (Classical.choose_spec (c_END T)).1 (Classical.choose_spec (c_END T)).2) pe_int pps_nil)))))))) (by rfl) (by rfl) (fun z => by cases z) (by decide)))
    (pss_one (ps_ret (pe_dget2 (hu_of hr) (pv 2) (pv 1) pe_non ⟨rfl, rfl, rfl, rfl⟩)))), ?_⟩
    obtain ⟨dx, t, s', e1, e2, e3⟩ := hp.parts
    have hn3 := o.n3
    intro d hd
    have s1 : Same H (upd H d (.dK [])) := Same.new hd
    refine ⟨_, rfl, p, dx, _, rfl, s1.slt e1, p, D, rfl, hp.mono s1, o, ?_⟩
    refine ⟨_, rfl, p, dx, _, rfl, s1.slt e1, p, D, rfl, hp.mono s1, _, rfl, by omega, _, _, rfl, rfl, ?_⟩
    refine ⟨upd_same, [(.inr "saw", .int (D.w * D.h : Nat)), (.inr "exchange", .int (1 + (D.sh.length : Nat))), (.inr "glue", .int 0), (.inr "over", .int 1), (.inr "show", .int 1), (.inr "repeat", .int 1), (.inr "when", .int 2), (.inr "end", .int 0)], rfl, (show (8 : Nat) ≤ 15 by decide), ?_⟩
    rw [upd_upd]
    have s2 : Same H (upd H d (.dK (mergeK [] [(.inr "saw", .int (D.w * D.h : Nat)), (.inr "exchange", .int (1 + (D.sh.length : Nat))), (.inr "glue", .int 0), (.inr "over", .int 1), (.inr "show", .int 1), (.inr "repeat", .int 1), (.inr "when", .int 2), (.inr "end", .int 0)]))) := Same.new hd
    refine ⟨_, rfl, d, rfl, .inl ⟨_, .inl upd_same⟩, _, rfl, ?_⟩
    have hg := DGet.k (H := upd H d (.dK (mergeK [] [(.inr "saw", .int (D.w * D.h : Nat)), (.inr "exchange", .int (1 + (D.sh.length : Nat))), (.inr "glue", .int 0), (.inr "over", .int 1), (.inr "show", .int 1), (.inr "repeat", .int 1), (.inr "when", .int 2), (.inr "end", .int 0)]))) (a := d) (k := .inr h) upd_same
    refine ⟨_, hg, ?_⟩
    have : (valV (mergeK [] [(.inr "saw", .int (D.w * D.h : Nat)), (.inr "exchange", .int (1 + (D.sh.length : Nat))), (.inr "glue", .int 0), (.inr "over", .int 1), (.inr "show", .int 1), (.inr "repeat", .int 1), (.inr "when", .int 2), (.inr "end", .int 0)]) (.inr h)) = some (.int (c : Nat)) := by
      unfold cntM at hm
      simp only [List.mem_cons, Prod.mk.injEq, List.not_mem_nil, or_false] at hm
      rcases hm with ⟨rfl, rfl⟩ | ⟨rfl, rfl⟩ | ⟨rfl, rfl⟩ | ⟨rfl, rfl⟩ | ⟨rfl, rfl⟩ | ⟨rfl, rfl⟩ | ⟨rfl, rfl⟩ | ⟨rfl, rfl⟩ <;> rfl
    rw [this]
    exact k _ s2
def sp_Line_init (K : Fr) : Sp := fun vs H Q _ => ∃ (H0 : Hp) (a dx l : Addr) (i : Int) (x : Wd), vs = [.ref a, .int i, .ref l] ∧ H0 a = none ∧ H0 dx = none ∧ dx ≠ a ∧ Same H0 H ∧ H a = some (.ins (C_Line K) dx []) ∧ H dx = some (.own a) ∧ H0 l = some (.lst (x.words.map V.str)) ∧ x.okW ∧
  ∀ H' bl t z, Same H0 H' → H0 bl = none → H' bl = some (.lst []) → dx ≠ a → SlX.Slt H' a (C_Line K) dx [some (.ref bl), some (.str x.head), some (.str z), some (.int i), some (.ref t)] → H' t = some (.tup (natsV x.nums)) → (∀ c, x.lt = some c → z = chr1 c) → Q .non H'
theorem sc_Line_init0 : FnScope ["self", "number", "words", "word"] ["self", "number", "words"] (defScope s_Line_init) := ⟨rfl, rfl, rfl, by decide +kernel, rfl, by decide +kernel, by decide +kernel⟩
theorem ok_Line_init (T : Txt K mg w) : FnR P w K mg base CX0 1 (a_Line_init K) (sp_Line_init K) := by
  refine fnr0 (d_Line_init T) sc_Line_init0 (fun _ _ _ _ _ _ us hl => match us, hl with | [_, _, _], _ => rfl) (fun vs H Q E h => ?_) (fun cdv A outer s H vs Q E hr h => ?_)
  · obtain ⟨H0, a, dx, l, i, x, rfl, _⟩ := h
    rfl
  · obtain ⟨H0, a, dx, l, i, x, rfl, a0, d0, ne, s0, ha, hd, hl, hx, k⟩ := h
    refine ⟨_, (pss_cons (SlX.ps_sl (pv 0) (pv 1))
    (pss_cons (SlX.ps_sl (pv 0) (pe_ix ix_list (pv 2) pe_int (fun _ _ => rfl)))
    (pss_cons (SlX.ps_sl (pv 0) (pe_ix ix_list (pv 2) (pe_un un_neg pe_int) (fun _ _ => rfl)))
    (pss_cons (SlX.ps_sl (pv 0) (pe_callTy call_tuple_of (by rfl) (n_tuple T) (by decide +kernel) (pa_cons (pe_lc (own := [("word", 3)]) (g := gName 3) (tt := tYes) rfl sc_Line_init0.nd (pi_list (pe_ifExp (pt_cmpR op_eq (pe_ix ix_list (pv 2) pe_int (fun _ _ => rfl)) (pe_glob rfl (Classical.choose_spec (c_WHEN T)).1 (Classical.choose_spec (c_WHEN T)).2) (nomark _)) (pe_slice sl_list (pv 2) (po_some pe_int) (po_some (pe_un un_neg pe_int))) (pe_slice sl_list (pv 2) (po_some pe_int) po_none))) (blkOk_by (own := [("word", 3)]) (N := ["self", "number", "words", "word"]) (sc := defScope s_Line_init) (by decide +kernel)) (fun _ _ _ _ _ => (pg_name (i := 3) sc_Line_init0.nd rfl (by first | exact Or.inl rfl | exact Or.inr rfl))) (fun _ _ _ _ _ => pts_nil) (fun _ _ _ _ _ => (pe_callTy call_int_str (by rfl) (n_int T) (by decide +kernel) (pa_cons (pv 3) pa_nil)))) pa_nil)))
    (pss_one (SlX.ps_sl (pv 0) (pe_lst pa_nil))))))), ?_⟩
    have hnl := hx.ln
    obtain ⟨zl, ini, hw, hzl⟩ : ∃ (zl : Str) (ini : List Str), x.words = ini ++ [zl] ∧ ∀ c, x.lt = some c → zl = chr1 c := by
      unfold Wd.words
      cases e : x.lt with
      | some c => exact ⟨chr1 c, x.head :: x.nums.map numT, by simp, fun c' h => by cases h; rfl⟩
      | none =>
        have hne : x.head :: (x.nums.map numT ++ (Option.map chr1 none).toList) ≠ [] := by simp
        exact ⟨_, _, (List.dropLast_concat_getLast hne).symm, fun c' h => by cases h⟩
    have hlast : atI (x.words.map V.str) (-1) = some (.str zl) := by
      rw [hw, List.map_append]
      exact atI_last _ _
    have hat0 : (x.words.map V.str)[0]? = some (.str x.head) := rfl
    have keep : ∀ (H1 : Hp) (vs : List (Option V)), Same H0 H1 → Same H0 (SlX.slH H1 a (C_Line K) dx vs) := fun H1 vs s b u e => by
      rw [SlX.slH_ne (ne_of_none e a0) (ne_of_none e d0)]
      exact s _ _ e
    refine ⟨_, rfl, _, rfl, a, C_Line K, dx, _, [], 3, rfl, .inl ⟨ha, rfl⟩, sc_Line T, sl_Line_number T, ?_⟩
    refine ⟨_, rfl, l, _, _, _, rfl, rfl, SqL.of (keep _ _ s0 _ _ hl), atI_nat (j := 0) hat0, _, rfl, a, C_Line K, dx, _, _, 1, rfl, SlX.slH_slt ne, sc_Line T, sl_Line_head T, ?_⟩
    rw [SlX.slH_twice ne]
    refine ⟨_, rfl, 1, rfl, l, _, _, _, rfl, rfl, SqL.of (keep _ _ s0 _ _ hl), hlast, _, rfl, a, C_Line K, dx, _, _, 2, rfl, SlX.slH_slt ne, sc_Line T, sl_Line_letter T, ?_⟩
    rw [SlX.slH_twice ne]
    have s3 := keep H (SlX.putS 2 (.str zl) (SlX.putS 1 (.str x.head) (SlX.putS 3 (.int i) []))) s0
    have l3 := SlX.slH_slt (H := H) (C := C_Line K) (vs := SlX.putS 2 (.str zl) (SlX.putS 1 (.str x.head) (SlX.putS 3 (.int i) []))) ne
    show tSeq _ _ _ _ (SlX.slH H a (C_Line K) dx (SlX.putS 2 (.str zl) (SlX.putS 1 (.str x.head) (SlX.putS 3 (.int i) []))))
    generalize SlX.slH H a (C_Line K) dx (SlX.putS 2 (.str zl) (SlX.putS 1 (.str x.head) (SlX.putS 3 (.int i) []))) = H3 at *
    have hl3 := s3 _ _ hl
    have hcut : (x.head = "when" → cutV (x.words.map V.str) (some 1) (some (-1)) = (x.nums.map numT).map V.str) ∧ (x.head ≠ "when" → cutV (x.words.map V.str) (some 1) none = (x.nums.map numT).map V.str) := by
      constructor
      · intro hw
        rcases hx.lt with ⟨_, c, hc, _⟩ | ⟨h, _⟩
        · have e : x.words.map V.str = .str x.head :: ((x.nums.map numT).map V.str ++ [.str (chr1 c)]) := by
            unfold Wd.words
            rw [hc]
            simp
          rw [e, cut_mid]
        · exact absurd hw h
      · intro hw
        rcases hx.lt with ⟨h, _⟩ | ⟨_, hc⟩
        · exact absurd h hw
        · have e : x.words.map V.str = .str x.head :: (x.nums.map numT).map V.str := by
            unfold Wd.words
            rw [hc]
            simp
          rw [e, cut_tail]
    refine ⟨_, rfl, l, _, _, _, rfl, rfl, SqL.of hl3, atI_nat (j := 0) hat0, rfl, _, rfl, ?_⟩
    cases hd : decide (V.str x.head = V.str "when") with
    | true =>
      have hw' : x.head = "when" := by
        have := of_decide_eq_true hd
        injection this
      refine iteT ⟨_, rfl, _, rfl, 1, rfl, _, rfl, l, _, rfl, SqL.of hl3, fun r hr0 => ?_⟩
      rw [hcut.1 hw']
      have s4 := s3.new' (o := .lst ((x.nums.map numT).map V.str)) hr0
      have l4 := (Same.new (o := .lst ((x.nums.map numT).map V.str)) hr0).slt l3
      have hr4 : upd H3 r (.lst ((x.nums.map numT).map V.str)) r = some (.lst ((x.nums.map numT).map V.str)) := upd_same
      refine ⟨r, rfl, ⟨_, SqL.of hr4⟩, fun L hL => ?_⟩
      refine lc_map (walk_list (xs := (x.nums.map numT).map V.str)) (natsV x.nums) (by simp [natsV_len]) (by simp; exact small1000 (by omega)) hL (fun _ s5 => s5.sq (SqL.of hr4)) (fun j y H5' H5 C hj s5 yy kk => ?_) mono_gName (fun H5 s5 hH => ?_)
      · obtain ⟨rfl, hy⟩ := yy
        rw [List.getElem?_map, List.getElem?_map] at hy
        cases hn : x.nums[j]? with
        | none => rw [hn] at hy; cases hy
        | some n =>
          rw [hn] at hy
          cases hy
          obtain ⟨f1, f2, f3, f4, f5, f6⟩ := small_facts n (hx.sm n (List.mem_of_getElem? hn))
          refine ⟨rfl, _, rfl, numT n, _, rfl, f5, by show (numT n).cps.size ≤ 640; rw [← Array.length_toList]; omega, kk _ _ (Same.refl _) ?_⟩
          unfold natsV
          rw [List.getElem?_map, hn]
          rfl
      · refine ⟨L, _, rfl, .inl ⟨SqL.of hH, fun t ht => ?_⟩⟩
        have s45 := s5.new' (o := .tup (natsV x.nums)) ht
        have l6 := s45.slt l4
        have s6 := s4.trans s45
        have ht6 : upd H5 t (.tup (natsV x.nums)) t = some (.tup (natsV x.nums)) := upd_same
        generalize upd H5 t (.tup (natsV x.nums)) = H6 at *
        refine ⟨_, rfl, a, C_Line K, dx, _, _, 4, rfl, l6, sc_Line T, sl_Line_rest T, ?_⟩
        have nta : t ≠ a ∧ t ≠ dx := by
          rcases l6 with ⟨_, e⟩ | ⟨e1, e2⟩
          · cases e
          · exact ⟨fun z => by rw [← z, ht6] at e1; exact slO_tup (Option.some.inj e1).symm, fun z => by rw [← z, ht6] at e2; cases e2⟩
        have s7 := keep H6 (SlX.putS 4 (.ref t) (SlX.putS 2 (.str zl) (SlX.putS 1 (.str x.head) (SlX.putS 3 (.int i) [])))) s6
        have l7 := SlX.slH_slt (H := H6) (C := C_Line K) (vs := SlX.putS 4 (.ref t) (SlX.putS 2 (.str zl) (SlX.putS 1 (.str x.head) (SlX.putS 3 (.int i) [])))) ne
        have ht7 : SlX.slH H6 a (C_Line K) dx (SlX.putS 4 (.ref t) (SlX.putS 2 (.str zl) (SlX.putS 1 (.str x.head) (SlX.putS 3 (.int i) [])))) t = some (.tup (natsV x.nums)) := by rw [SlX.slH_ne nta.1 nta.2]; exact ht6
        generalize SlX.slH H6 a (C_Line K) dx (SlX.putS 4 (.ref t) (SlX.putS 2 (.str zl) (SlX.putS 1 (.str x.head) (SlX.putS 3 (.int i) [])))) = H7 at *
        refine ⟨Nat.zero_le _, fun bl hbl => ?_⟩
        have s8 := s7.new' (o := .lst []) hbl
        have l8 := (Same.new (o := .lst []) hbl).slt l7
        refine ⟨_, rfl, a, C_Line K, dx, _, _, 0, rfl, l8, sc_Line T, sl_Line_block T, ?_⟩
        have nbl : bl ≠ a ∧ bl ≠ dx := by
          rcases l7 with ⟨_, e⟩ | ⟨e1, e2⟩
          · cases e
          · exact ⟨(fun z => by rw [← z, hbl] at e1; cases e1), (fun z => by rw [← z, hbl] at e2; cases e2)⟩
        refine k _ bl t zl (keep _ _ s8) (s7.free hbl) ?_ ne (SlX.slH_slt ne) ?_ hzl
        · rw [SlX.slH_ne nbl.1 nbl.2, upd_same]
        · rw [SlX.slH_ne nta.1 nta.2, upd_ne (ne_of_none ht7 hbl)]
          exact ht7
    | false =>
      have hw' : x.head ≠ "when" := fun z => by
        have := of_decide_eq_false hd
        exact this (by rw [z])
      refine iteF ⟨_, rfl, _, rfl, l, _, rfl, SqL.of hl3, fun r hr0 => ?_⟩
      rw [hcut.2 hw']
      have s4 := s3.new' (o := .lst ((x.nums.map numT).map V.str)) hr0
      have l4 := (Same.new (o := .lst ((x.nums.map numT).map V.str)) hr0).slt l3
      have hr4 : upd H3 r (.lst ((x.nums.map numT).map V.str)) r = some (.lst ((x.nums.map numT).map V.str)) := upd_same
      refine ⟨r, rfl, ⟨_, SqL.of hr4⟩, fun L hL => ?_⟩
      refine lc_map (walk_list (xs := (x.nums.map numT).map V.str)) (natsV x.nums) (by simp [natsV_len]) (by simp; exact small1000 (by omega)) hL (fun _ s5 => s5.sq (SqL.of hr4)) (fun j y H5' H5 C hj s5 yy kk => ?_) mono_gName (fun H5 s5 hH => ?_)
      · obtain ⟨rfl, hy⟩ := yy
        rw [List.getElem?_map, List.getElem?_map] at hy
        cases hn : x.nums[j]? with
        | none => rw [hn] at hy; cases hy
        | some n =>
          rw [hn] at hy
          cases hy
          obtain ⟨f1, f2, f3, f4, f5, f6⟩ := small_facts n (hx.sm n (List.mem_of_getElem? hn))
          refine ⟨rfl, _, rfl, numT n, _, rfl, f5, by show (numT n).cps.size ≤ 640; rw [← Array.length_toList]; omega, kk _ _ (Same.refl _) ?_⟩
          unfold natsV
          rw [List.getElem?_map, hn]
          rfl
      · refine ⟨L, _, rfl, .inl ⟨SqL.of hH, fun t ht => ?_⟩⟩
        have s45 := s5.new' (o := .tup (natsV x.nums)) ht
        have l6 := s45.slt l4
        have s6 := s4.trans s45
        have ht6 : upd H5 t (.tup (natsV x.nums)) t = some (.tup (natsV x.nums)) := upd_same
        generalize upd H5 t (.tup (natsV x.nums)) = H6 at *
        refine ⟨_, rfl, a, C_Line K, dx, _, _, 4, rfl, l6, sc_Line T, sl_Line_rest T, ?_⟩
        have nta : t ≠ a ∧ t ≠ dx := by
          rcases l6 with ⟨_, e⟩ | ⟨e1, e2⟩
          · cases e
          · exact ⟨fun z => by rw [← z, ht6] at e1; exact slO_tup (Option.some.inj e1).symm, fun z => by rw [← z, ht6] at e2; cases e2⟩
        have s7 := keep H6 (SlX.putS 4 (.ref t) (SlX.putS 2 (.str zl) (SlX.putS 1 (.str x.head) (SlX.putS 3 (.int i) [])))) s6
        have l7 := SlX.slH_slt (H := H6) (C := C_Line K) (vs := SlX.putS 4 (.ref t) (SlX.putS 2 (.str zl) (SlX.putS 1 (.str x.head) (SlX.putS 3 (.int i) [])))) ne
        have ht7 : SlX.slH H6 a (C_Line K) dx (SlX.putS 4 (.ref t) (SlX.putS 2 (.str zl) (SlX.putS 1 (.str x.head) (SlX.putS 3 (.int i) [])))) t = some (.tup (natsV x.nums)) := by rw [SlX.slH_ne nta.1 nta.2]; exact ht6
        generalize SlX.slH H6 a (C_Line K) dx (SlX.putS 4 (.ref t) (SlX.putS 2 (.str zl) (SlX.putS 1 (.str x.head) (SlX.putS 3 (.int i) [])))) = H7 at *
        refine ⟨Nat.zero_le _, fun bl hbl => ?_⟩
        have s8 := s7.new' (o := .lst []) hbl
        have l8 := (Same.new (o := .lst []) hbl).slt l7
        refine ⟨_, rfl, a, C_Line K, dx, _, _, 0, rfl, l8, sc_Line T, sl_Line_block T, ?_⟩
        have nbl : bl ≠ a ∧ bl ≠ dx := by
          rcases l7 with ⟨_, e⟩ | ⟨e1, e2⟩
          · cases e
          · exact ⟨(fun z => by rw [← z, hbl] at e1; cases e1), (fun z => by rw [← z, hbl] at e2; cases e2)⟩
        refine k _ bl t zl (keep _ _ s8) (s7.free hbl) ?_ ne (SlX.slH_slt ne) ?_ hzl
        · rw [SlX.slH_ne nbl.1 nbl.2, upd_same]
        · rw [SlX.slH_ne nta.1 nta.2, upd_ne (ne_of_none ht7 hbl)]
          exact ht7
def sp_is_row (K : Fr) : Sp := fun vs H Q _ => ∃ (p l : Addr) (D : PkS) (x : Wd), vs = [.ref p, .ref l] ∧ PkAt K H p D ∧ D.ok ∧ H l = some (.lst (x.words.map V.str)) ∧ x.okW ∧ (x.head, x.nums.length) ∈ cntM D ∧ ∀ H', Same H H' → Q (.bl true) H'
theorem sc_is_row0 : FnScope ["packet", "words", "count", "word"] ["packet", "words"] (defScope s_is_row) := ⟨rfl, rfl, rfl, by decide +kernel, rfl, by decide +kernel, by decide +kernel⟩
theorem ok_is_row (T : Txt K mg w) : FnR P w K mg base CX0 4 (a_is_row K) (sp_is_row K) := by
  refine fnr0 (d_is_row T) sc_is_row0 (fun _ _ _ _ _ _ us hl => match us, hl with | [_, _], _ => rfl) (fun vs H Q E h => ?_) (fun cdv A outer s H vs Q E hr h => ?_)
  · obtain ⟨p, l, D, x, rfl, _⟩ := h
    rfl
  · obtain ⟨p, l, D, x, rfl, hp, o, hl, hx, hm, k⟩ := h
    refine ⟨_, (pss_cons (ps_set (i := 2) sc_is_row0.nd rfl (by first | exact Or.inl rfl | exact Or.inr rfl) (pe_g (ok_numbers_in T) (hr.mono (by decide)) (g_numbers_in T) (kp_numbers_in T) pass0 (pa_cons (pv 0) (pa_cons (pe_ix ix_list (pv 1) pe_int (fun _ _ => rfl)) pa_nil))))
    (pss_cons (ps_if (pt_cmpR op_isN (pv 2) pe_non (nomark _)) (pss_one (ps_ret pe_bl)) pss_nil)
    (pss_cons (ps_if (pt_cmpR op_eq (pe_ix ix_list (pv 1) pe_int (fun _ _ => rfl)) (pe_glob rfl (Classical.choose_spec (c_WHEN T)).1 (Classical.choose_spec (c_WHEN T)).2) (nomark _)) (pss_cons (ps_if (PW.pt (pw_or (pt_cmpR op_ne (pe_callB call_len_str (by rfl) (n_len T) boot_len (pa_cons (pe_ix ix_list (pv 1) (pe_un un_neg pe_int) (fun _ _ => rfl)) pa_nil)) pe_int (nomark _)) (pw_or1 (pt_cmpR op_notIn_sign (pe_ix ix_list (pv 1) (pe_un un_neg pe_int) (fun _ _ => rfl)) (pe_glob rfl (Classical.choose_spec (c_LETTERS T)).1 (Classical.choose_spec (c_LETTERS T)).2) rfl)))) (pss_one (ps_ret pe_bl)) pss_nil)
    (pss_one (ps_set (i := 1) sc_is_row0.nd rfl (by first | exact Or.inl rfl | exact Or.inr rfl) (pe_slice sl_list (pv 1) po_none (po_some (pe_un un_neg pe_int)))))) pss_nil)
    (pss_one (ps_ret (pe_and (pe_cmpR op_eq (pe_callB call_len_seq (by rfl) (n_len T) boot_len (pa_cons (pv 1) pa_nil)) (pe_op op_add (pv 2) pe_int) (nomark _)) (pe_one (pe_callB (cr_all rfl) (by rfl) (n_all T) (by decide +kernel) (pa_cons (pe_lc (own := [("word", 3)]) (g := gName 3) (tt := tYes) rfl sc_is_row0.nd (pi_list (pe_slice sl_list (pv 1) (po_some pe_int) po_none)) (blkOk_by (own := [("word", 3)]) (N := ["packet", "words", "count", "word"]) (sc := defScope s_is_row) (by decide +kernel)) (fun _ _ _ _ _ => (pg_name (i := 3) sc_is_row0.nd rfl (by first | exact Or.inl rfl | exact Or.inr rfl))) (fun _ _ _ _ _ => pts_nil) (fun _ _ _ _ _ => (pe_g (ok_is_small T) (hr.mono (by decide)) (g_is_small T) (kp_is_small T) pass0 (pa_cons (pv 3) pa_nil)))) pa_nil))))))))), ?_⟩
    have hnl := hx.ln
    refine ⟨_, rfl, _, rfl, l, _, _, _, rfl, rfl, SqL.of hl, atI_nat (j := 0) rfl, p, D, x.head, _, rfl, hp, o, hm, fun H1 s1 => ?_⟩
    have hl1 := s1 _ _ hl
    refine ⟨_, rfl, rfl, _, rfl, ?_⟩
    rw [show decide (V.int (x.nums.length : Nat) = V.non) = false from decide_eq_false (fun z => by cases z)]
    refine iteF ?_
    refine ⟨_, rfl, l, _, _, _, rfl, rfl, SqL.of hl1, atI_nat (j := 0) rfl, rfl, _, rfl, ?_⟩
    rcases hx.lt with ⟨hw, c, hc, hcl⟩ | ⟨hw, hc⟩
    · have ew : x.words.map V.str = (x.head :: x.nums.map numT).map V.str ++ [.str (chr1 c)] := by
        unfold Wd.words
        rw [hc]
        simp
      have hlast : atI (x.words.map V.str) (-1) = some (.str (chr1 c)) := by rw [ew]; exact atI_last _ _
      rw [show decide (V.str x.head = V.str "when") = true from decide_eq_true (by rw [hw])]
      refine iteT ?_
      refine ⟨_, rfl, 1, rfl, l, _, _, _, rfl, rfl, SqL.of hl1, hlast, chr1 c, rfl, (show (1 : Nat) ≤ sizeLine by decide), rfl, _, rfl, ?_⟩
      refine iteF ⟨_, rfl, 1, rfl, l, _, _, _, rfl, rfl, SqL.of hl1, hlast, c, _, rfl, rfl, _, rfl, ?_⟩
      rw [show decide (c ∈ ("abcdefghijklmnopqrstuvwxyz" : Str).cps.toList) = true from let_in hcl]
      refine iteF ⟨_, rfl, 1, rfl, _, rfl, l, _, rfl, SqL.of hl1, fun r hr0 => ?_⟩
      have hci : cutV (x.words.map V.str) none (some (-1)) = (x.head :: x.nums.map numT).map V.str := by rw [ew, cut_init]
      rw [hci]
      have hR : upd H1 r (.lst ((x.head :: x.nums.map numT).map V.str)) r = some (.lst ((x.head :: x.nums.map numT).map V.str)) := upd_same
      have sHH := s1.new' (o := .lst ((x.head :: x.nums.map numT).map V.str)) hr0
      generalize upd H1 r (.lst ((x.head :: x.nums.map numT).map V.str)) = HH at *
      refine ⟨_, rfl, r, _, rfl, .inl (SqL.of hR), _, rfl, _, _, rfl, rfl, rfl, ?_⟩
      have hlen : (((x.head :: x.nums.map numT).map V.str).length : Nat) = x.nums.length + 1 := by simp
      rw [hlen, show decide (V.int ((x.nums.length + 1 : Nat) : Int) = V.int ((x.nums.length : Nat) + 1)) = true from decide_eq_true (by rw [Int.natCast_add]; rfl)]
      refine ⟨true, rfl, iteT ?_⟩
      refine ⟨_, rfl, 1, rfl, r, _, rfl, SqL.of hR, fun r2 hr2 => ?_⟩
      have hct : cutV ((x.head :: x.nums.map numT).map V.str) (some 1) none = (x.nums.map numT).map V.str := cut_tail _ _
      rw [hct]
      have sr2 : Same HH (upd HH r2 (.lst ((x.nums.map numT).map V.str))) := Same.new hr2
      refine ⟨r2, rfl, ⟨_, SqL.of upd_same⟩, fun L hL => ?_⟩
      refine lc_map (walk_list (xs := (x.nums.map numT).map V.str)) ((List.replicate x.nums.length true).map V.bl) (by simp) (by simp; exact small1000 (by omega)) hL (fun _ s5 => s5.sq (SqL.of upd_same)) (fun j y H5' H5 C hj s5 yy kk => ?_) mono_gName (fun H5 s5 hH => ?_)
      · obtain ⟨rfl, hy⟩ := yy
        rw [List.getElem?_map, List.getElem?_map] at hy
        cases hn : x.nums[j]? with
        | none => rw [hn] at hy; cases hy
        | some n =>
          rw [hn] at hy
          cases hy
          have hjl : j < x.nums.length := by
            rcases Nat.lt_or_ge j x.nums.length with q | q
            · exact q
            · rw [List.getElem?_eq_none q] at hn; cases hn
          refine ⟨rfl, _, rfl, n, rfl, hx.sm n (List.mem_of_getElem? hn), fun H6 s6 => kk _ _ s6 ?_⟩
          rw [List.getElem?_map, List.getElem?_replicate, if_pos hjl]
          rfl
      · refine ⟨L, _, rfl, SqL.of hH, ?_⟩
        rw [all_rep]
        exact k _ (sHH.trans (sr2.trans s5))
    · have ew : x.words = x.head :: x.nums.map numT := by
        unfold Wd.words
        rw [hc]
        simp
      rw [show decide (V.str x.head = V.str "when") = false from decide_eq_false (fun z => hw (by injection z))]
      refine iteF ?_
      have hR : H1 l = some (.lst ((x.head :: x.nums.map numT).map V.str)) := by rw [← ew]; exact hl1
      refine ⟨_, rfl, l, _, rfl, .inl (SqL.of hR), _, rfl, _, _, rfl, rfl, rfl, ?_⟩
      have hlen : (((x.head :: x.nums.map numT).map V.str).length : Nat) = x.nums.length + 1 := by simp
      rw [hlen, show decide (V.int ((x.nums.length + 1 : Nat) : Int) = V.int ((x.nums.length : Nat) + 1)) = true from decide_eq_true (by rw [Int.natCast_add]; rfl)]
      refine ⟨true, rfl, iteT ?_⟩
      refine ⟨_, rfl, 1, rfl, l, _, rfl, SqL.of hR, fun r2 hr2 => ?_⟩
      have hct : cutV ((x.head :: x.nums.map numT).map V.str) (some 1) none = (x.nums.map numT).map V.str := cut_tail _ _
      rw [hct]
      have sr2 : Same H1 (upd H1 r2 (.lst ((x.nums.map numT).map V.str))) := Same.new hr2
      refine ⟨r2, rfl, ⟨_, SqL.of upd_same⟩, fun L hL => ?_⟩
      refine lc_map (walk_list (xs := (x.nums.map numT).map V.str)) ((List.replicate x.nums.length true).map V.bl) (by simp) (by simp; exact small1000 (by omega)) hL (fun _ s5 => s5.sq (SqL.of upd_same)) (fun j y H5' H5 C hj s5 yy kk => ?_) mono_gName (fun H5 s5 hH => ?_)
      · obtain ⟨rfl, hy⟩ := yy
        rw [List.getElem?_map, List.getElem?_map] at hy
        cases hn : x.nums[j]? with
        | none => rw [hn] at hy; cases hy
        | some n =>
          rw [hn] at hy
          cases hy
          have hjl : j < x.nums.length := by
            rcases Nat.lt_or_ge j x.nums.length with q | q
            · exact q
            · rw [List.getElem?_eq_none q] at hn; cases hn
          refine ⟨rfl, _, rfl, n, rfl, hx.sm n (List.mem_of_getElem? hn), fun H6 s6 => kk _ _ s6 ?_⟩
          rw [List.getElem?_map, List.getElem?_replicate, if_pos hjl]
          rfl
      · refine ⟨L, _, rfl, SqL.of hH, ?_⟩
        rw [all_rep]
        exact k _ (s1.trans (sr2.trans s5))
end
end S57


set_option Elab.async false
set_option linter.all false
set_option maxRecDepth 100000
set_option maxHeartbeats 4000000
namespace S57
open PySem PySem.Spec PyProof.Rows PySem.SeqAt L2
section
variable {X : Cx}
/-- a list beside an empty one -/
def rEqE (K : Fr) (ne : Bool) : R2 := fun x y H Q => ∃ (a b : Addr) (xs : List V), x = .ref a ∧ y = .ref b ∧ SqL K H a xs ∧ SqL K H b [] ∧ Q (.bl (xs.isEmpty != ne)) H
theorem op_eqE (hu : X.A.units < cLine) : OpR X (compareOp .Eq) (rEqE X.K false) := by
  intro pins s σ H x y v u Q I rx ry h
  obtain ⟨a, b, xs, rfl, rfl, ha, hb, q⟩ := h
  cases (show v = Value.ref a from rx)
  cases (show u = Value.ref b from ry)
  obtain ⟨us, r1, p1, _⟩ := I.list ha
  obtain ⟨ws, r2, p2, _⟩ := I.list hb
  have hw : ws = [] := by
    have := r2.length
    simpa using this.symm
  subst hw
  cases xs with
  | nil =>
    have hus : us = [] := by
      have := r1.length
      simpa using this.symm
    subst hus
    exact eq_listAt (e := fun _ => true) p1.isList p2.isList rfl hu (fun j h1 h2 => absurd h1 (by simp)) ⟨.bl true, H, I, rfl, q⟩
  | cons x r =>
    refine eq_list_lengthsAt p1.isList p2.isList ?_ hu ⟨.bl false, H, I, rfl, q⟩
    have := r1.length
    rw [List.size_toArray, List.size_toArray, ← this]
    rfl
theorem op_neE (hu : X.A.units < cLine) : OpR X (compareOp .NotEq) (rEqE X.K true) := by
  intro pins s σ H x y v u Q I rx ry h
  obtain ⟨a, b, xs, rfl, rfl, ha, hb, q⟩ := h
  cases (show v = Value.ref a from rx)
  cases (show u = Value.ref b from ry)
  obtain ⟨us, r1, p1, _⟩ := I.list ha
  obtain ⟨ws, r2, p2, _⟩ := I.list hb
  have hw : ws = [] := by
    have := r2.length
    simpa using this.symm
  subst hw
  cases xs with
  | nil =>
    have hus : us = [] := by
      have := r1.length
      simpa using this.symm
    subst hus
    exact RcNeAt.lists (e := fun _ => true) p1.isList p2.isList rfl hu (fun j h1 h2 => absurd h1 (by simp)) _ _ _ _ ⟨.bl false, H, I, rfl, q⟩
  | cons x r =>
    refine RcNeAt.lists_lengths p1.isList p2.isList ?_ hu _ _ _ _ ⟨.bl true, H, I, rfl, q⟩
    have := r1.length
    rw [List.size_toArray, List.size_toArray, ← this]
    rfl
end
end S57

set_option Elab.async false
set_option linter.all false
set_option maxRecDepth 100000
set_option maxHeartbeats 4000000
namespace S57
open PySem PySem.Spec PyProof.Rows L2 TL
/-! ### scripts -/
inductive Row
  | saw (ws : List Nat)
  | exchange (p : Nat) (o : List Nat)
  | glue
  | over (n : Nat)
  | shw (n : Nat)
inductive Hdr
  | rep (n : Nat)
  | whn (s c l : Nat)
inductive Tree
  | nil
  | row (r : Row) (t : Tree)
  | blk (h : Hdr) (b t : Tree)
inductive Tok
  | row (r : Row)
  | hdr (h : Hdr)
  | fin
def Row.wd : Row → Wd
  | .saw ws => ⟨"saw", ws, none⟩
  | .exchange p o => ⟨"exchange", p :: o, none⟩
  | .glue => ⟨"glue", [], none⟩
  | .over n => ⟨"over", [n], none⟩
  | .shw n => ⟨"show", [n], none⟩
def Hdr.wd : Hdr → Wd
  | .rep n => ⟨"repeat", [n], none⟩
  | .whn s c l => ⟨"when", [s, c], some l⟩
def Tok.wd : Tok → Wd
  | .row r => r.wd
  | .hdr h => h.wd
  | .fin => ⟨"end", [], none⟩
def toks : Tree → List Tok
  | .nil => []
  | .row r t => .row r :: toks t
  | .blk h b t => .hdr h :: (toks b ++ .fin :: toks t)
def Tree.depth : Tree → Nat
  | .nil => 0
  | .row _ t => t.depth
  | .blk _ b t => max (b.depth + 1) t.depth
def Tree.app : Tree → Tree → Tree
  | .nil, u => u
  | .row r t, u => .row r (t.app u)
  | .blk h b t, u => .blk h b (t.app u)
theorem Tree.app_nil : ∀ t : Tree, t.app .nil = t
  | .nil => rfl
  | .row r t => by show Tree.row r (t.app .nil) = _; rw [Tree.app_nil t]
  | .blk h b t => by show Tree.blk h b (t.app .nil) = _; rw [Tree.app_nil t]
theorem Tree.app_assoc : ∀ a b c : Tree, (a.app b).app c = a.app (b.app c)
  | .nil, _, _ => rfl
  | .row r t, b, c => by show Tree.row r ((t.app b).app c) = Tree.row r (t.app (b.app c)); rw [Tree.app_assoc t]
  | .blk h x t, b, c => by show Tree.blk h x ((t.app b).app c) = Tree.blk h x (t.app (b.app c)); rw [Tree.app_assoc t]
theorem toks_app : ∀ a b : Tree, toks (a.app b) = toks a ++ toks b
  | .nil, _ => rfl
  | .row r t, b => by show Tok.row r :: toks (t.app b) = _; rw [toks_app t]; rfl
  | .blk h x t, b => by
    show Tok.hdr h :: (toks x ++ Tok.fin :: toks (t.app b)) = _
    rw [toks_app t]
    show _ = (Tok.hdr h :: (toks x ++ Tok.fin :: toks t)) ++ toks b
    simp
/-- what has been read, the open blocks last -/
inductive OF
  | leaf (t : Tree)
  | opn (t : Tree) (h : Hdr) (b : OF)
def OF.depth : OF → Nat
  | .leaf _ => 0
  | .opn _ _ b => b.depth + 1
def OF.addT : OF → Tree → OF
  | .leaf t, u => .leaf (t.app u)
  | .opn t h b, u => .opn t h (b.addT u)
def OF.addH : OF → Hdr → OF
  | .leaf t, h => .opn t h (.leaf .nil)
  | .opn t h b, k => .opn t h (b.addH k)
def OF.fin : OF → OF
  | .leaf t => .leaf t
  | .opn t h (.leaf b) => .leaf (t.app (.blk h b .nil))
  | .opn t h (.opn u k c) => .opn t h (OF.fin (.opn u k c))
theorem OF.addT_depth : ∀ (s : OF) (t : Tree), (s.addT t).depth = s.depth
  | .leaf _, _ => rfl
  | .opn _ _ b, t => by show (b.addT t).depth + 1 = _; rw [OF.addT_depth b t]; rfl
theorem OF.addH_depth : ∀ (s : OF) (h : Hdr), (s.addH h).depth = s.depth + 1
  | .leaf _, _ => rfl
  | .opn _ _ b, h => by show (b.addH h).depth + 1 = _; rw [OF.addH_depth b h]; rfl
theorem OF.addT_addT : ∀ (s : OF) (a b : Tree), (s.addT a).addT b = s.addT (a.app b)
  | .leaf t, a, b => by show OF.leaf ((t.app a).app b) = _; rw [Tree.app_assoc]; rfl
  | .opn t h x, a, b => by show OF.opn t h ((x.addT a).addT b) = _; rw [OF.addT_addT x]; rfl
theorem OF.addH_fin : ∀ (s : OF) (h : Hdr) (b : Tree), ((s.addH h).addT b).fin = s.addT (.blk h b .nil)
  | .leaf t, h, b => rfl
  | .opn t k (.leaf u), h, b => rfl
  | .opn t k (.opn u j c), h, b => by
    show OF.opn t k ((((OF.opn u j c).addH h).addT b).fin) = _
    rw [OF.addH_fin (.opn u j c) h b]
    rfl
theorem OF.addT_nil : ∀ s : OF, s.addT .nil = s
  | .leaf t => by show OF.leaf (t.app .nil) = _; rw [Tree.app_nil]
  | .opn t h b => by show OF.opn t h (b.addT .nil) = _; rw [OF.addT_nil b]
/-- the lines to come, read on from s, give T -/
def Good : OF → List Tok → Tree → Prop
  | s, [], T => s = .leaf T
  | s, .row r :: ts, T => Good (s.addT (.row r .nil)) ts T
  | s, .hdr h :: ts, T => s.depth < 4 ∧ Good (s.addH h) ts T
  | s, .fin :: ts, T => 0 < s.depth ∧ Good s.fin ts T
theorem good_toks : ∀ (t : Tree) (s : OF) (ts : List Tok) (T : Tree), s.depth + t.depth ≤ 4 → Good (s.addT t) ts T → Good s (toks t ++ ts) T
  | .nil, s, ts, T, _, g => by rw [OF.addT_nil] at g; exact g
  | .row r t, s, ts, T, hd, g => by
    show Good (s.addT (.row r .nil)) (toks t ++ ts) T
    refine good_toks t _ ts T (by rw [OF.addT_depth]; exact hd) ?_
    rw [OF.addT_addT]
    exact g
  | .blk h b t, s, ts, T, hd, g => by
    have hd' : s.depth + max (b.depth + 1) t.depth ≤ 4 := hd
    have e : toks (.blk h b t) ++ ts = .hdr h :: (toks b ++ (.fin :: (toks t ++ ts))) := by
      show (Tok.hdr h :: (toks b ++ .fin :: toks t)) ++ ts = _
      simp
    rw [e]
    refine ⟨by omega, good_toks b _ _ T (by rw [OF.addH_depth]; omega) ⟨?_, ?_⟩⟩
    · rw [OF.addT_depth, OF.addH_depth]
      omega
    · rw [OF.addH_fin]
      refine good_toks t _ ts T (by rw [OF.addT_depth]; omega) ?_
      rw [OF.addT_addT]
      exact g
theorem good_all {t : Tree} (h : t.depth ≤ 4) : Good (.leaf .nil) (toks t) t := by
  have := good_toks t (.leaf .nil) [] t (by show 0 + _ ≤ 4; omega) rfl
  rwa [List.append_nil] at this
/-! ### what a row must be -/
def Row.ok (D : PkS) : Row → Prop
  | .saw ws => (Op.saw ws).ok D
  | .exchange p o => p < 100 ∧ (Op.exchange p o).ok D
  | .glue => True
  | .over n => n < 100
  | .shw n => n < 100
def Hdr.ok : Hdr → Prop
  | .rep n => n < 100
  | .whn s c l => s < 100 ∧ c < 100 ∧ okLet l
def Tok.ok (D : PkS) : Tok → Prop
  | .row r => r.ok D
  | .hdr h => h.ok
  | .fin => True
def Tree.ok (D : PkS) : Tree → Prop
  | .nil => True
  | .row r t => r.ok D ∧ t.ok D
  | .blk h b t => h.ok ∧ b.ok D ∧ t.ok D
theorem toks_ok {D : PkS} : ∀ {t : Tree}, t.ok D → ∀ k ∈ toks t, k.ok D
  | .nil, _, k, h => by cases h
  | .row r t, o, k, h => by
    rcases List.mem_cons.mp h with rfl | h
    · exact o.1
    · exact toks_ok o.2 k h
  | .blk hh b t, o, k, h => by
    rcases List.mem_cons.mp h with rfl | h
    · exact o.1
    · rcases List.mem_append.mp h with h | h
      · exact toks_ok o.2.1 k h
      · rcases List.mem_cons.mp h with rfl | h
        · trivial
        · exact toks_ok o.2.2 k h
theorem tok_okW {D : PkS} (o : D.ok) {k : Tok} (h : k.ok D) : k.wd.okW ∧ (k.wd.head, k.wd.nums.length) ∈ cntM D := by
  have h6 := o.cells.2
  have h3 := o.n3
  cases k with
  | row r =>
    cases r with
    | saw ws =>
      obtain ⟨h1, h2⟩ := h
      refine ⟨⟨.inr ⟨(show ("saw" : Str) ≠ "when" by decide), rfl⟩, fun n hn => Nat.lt_of_le_of_lt (h2 n hn) (show 9 < 100 by decide), by show ws.length ≤ 10; omega⟩, ?_⟩
      show (("saw" : Str), ws.length) ∈ cntM D
      rw [h1]
      simp [cntM]
    | exchange p od =>
      obtain ⟨h1, h2, h4, h5⟩ := h
      refine ⟨⟨.inr ⟨(show ("exchange" : Str) ≠ "when" by decide), rfl⟩, fun n hn => ?_, by show od.length + 1 ≤ 10; omega⟩, ?_⟩
      · rcases List.mem_cons.mp hn with rfl | hn
        · exact h1
        · have := h5 n hn
          omega
      · show (("exchange" : Str), od.length + 1) ∈ cntM D
        rw [h2, Nat.add_comm]
        simp [cntM]
    | glue => exact ⟨⟨.inr ⟨(show ("glue" : Str) ≠ "when" by decide), rfl⟩, (fun n hn => by cases hn), (show 0 ≤ 10 by decide)⟩, by simp [cntM, Tok.wd, Row.wd]⟩
    | over n => exact ⟨⟨.inr ⟨(show ("over" : Str) ≠ "when" by decide), rfl⟩, (fun m hm => by rw [List.mem_singleton.mp hm]; exact h), (show 1 ≤ 10 by decide)⟩, by simp [cntM, Tok.wd, Row.wd]⟩
    | shw n => exact ⟨⟨.inr ⟨(show ("show" : Str) ≠ "when" by decide), rfl⟩, (fun m hm => by rw [List.mem_singleton.mp hm]; exact h), (show 1 ≤ 10 by decide)⟩, by simp [cntM, Tok.wd, Row.wd]⟩
  | hdr hd =>
    cases hd with
    | rep n => exact ⟨⟨.inr ⟨(show ("repeat" : Str) ≠ "when" by decide), rfl⟩, (fun m hm => by rw [List.mem_singleton.mp hm]; exact h), (show 1 ≤ 10 by decide)⟩, by simp [cntM, Tok.wd, Hdr.wd]⟩
    | whn s c l =>
      obtain ⟨h1, h2, h4⟩ := h
      refine ⟨⟨.inl ⟨rfl, l, rfl, h4⟩, fun m hm => ?_, (show 2 ≤ 10 by decide)⟩, by simp [cntM, Tok.wd, Hdr.wd]⟩
      have hm : m ∈ [s, c] := hm
      simp at hm
      rcases hm with rfl | rfl
      · exact h1
      · exact h2
  | fin => exact ⟨⟨.inr ⟨(show ("end" : Str) ≠ "when" by decide), rfl⟩, (fun n hn => by cases hn), (show 0 ≤ 10 by decide)⟩, by simp [cntM, Tok.wd]⟩
end S57

set_option Elab.async false
set_option linter.all false
set_option maxRecDepth 100000
set_option maxHeartbeats 4000000
namespace S57
open PySem PySem.Spec PyProof.Rows L2 TL
/-- a row of a script, read -/
def LnAt (K : Fr) (H : Hp) (N : Addr → Prop) (a : Addr) (x : Wd) (bl : Addr) : Prop :=
  ¬ N a ∧ ∃ (dx t : Addr) (z : Str) (i : Int), H a = some (SlX.SlO a (C_Line K) dx [some (.ref bl), some (.str x.head), some (.str z), some (.int i), some (.ref t)]) ∧ H dx = some (.xd []) ∧ H t = some (.tup (natsV x.nums)) ∧ ∀ c, x.lt = some c → z = chr1 c
def BlR (K : Fr) (H : Hp) (N : Addr → Prop) : Tree → List Addr → Prop
  | .nil, l => l = []
  | .row r t, l => ∃ a l', l = a :: l' ∧ (∃ bl, LnAt K H N a r.wd bl) ∧ BlR K H N t l'
  | .blk h b t, l => ∃ a l' bl lb, l = a :: l' ∧ LnAt K H N a h.wd bl ∧ ¬ N bl ∧ H bl = some (.lst (lb.map V.ref)) ∧ BlR K H N b lb ∧ BlR K H N t l'
theorem LnAt.go {K : Fr} {H H' : Hp} {N N' : Addr → Prop} {a bl : Addr} {x : Wd} {M : List Addr} (h : LnAt K H N a x bl) (o : Off M H H') (hM : ∀ y ∈ M, N y) (hN : ∀ y, N' y → N y ∨ H y = none) : LnAt K H' N' a x bl := by
  obtain ⟨h1, dx, t, z, i, e1, e2, e3, e4⟩ := h
  refine ⟨fun q => ?_, dx, t, z, i, o.old _ _ (fun q => h1 (hM _ q)) e1, o.xd _ e2, o.tup _ _ e3, e4⟩
  rcases hN _ q with q | q
  · exact h1 q
  · rw [q] at e1; cases e1
theorem BlR.go {K : Fr} {H H' : Hp} {N N' : Addr → Prop} {M : List Addr} (o : Off M H H') (hM : ∀ y ∈ M, N y) (hN : ∀ y, N' y → N y ∨ H y = none) : ∀ {t : Tree} {l : List Addr}, BlR K H N t l → BlR K H' N' t l
  | .nil, _, h => h
  | .row r t, _, ⟨a, l', e, ⟨bl, h1⟩, h2⟩ => ⟨a, l', e, ⟨bl, h1.go o hM hN⟩, BlR.go o hM hN h2⟩
  | .blk h b t, _, ⟨a, l', bl, lb, e, h1, h2, h3, h4, h5⟩ => ⟨a, l', bl, lb, e, h1.go o hM hN, (fun q => by
      rcases hN _ q with q | q
      · exact h2 q
      · rw [q] at h3; cases h3), o.old _ _ (fun q => h2 (hM _ q)) h3, BlR.go o hM hN h4, BlR.go o hM hN h5⟩
theorem BlR.app {K : Fr} {H : Hp} {N : Addr → Prop} {u : Tree} {m : List Addr} (hu : BlR K H N u m) : ∀ {t : Tree} {l : List Addr}, BlR K H N t l → BlR K H N (t.app u) (l ++ m)
  | .nil, _, h => by
    have h : _ = [] := h
    rw [h]
    exact hu
  | .row r t, _, ⟨a, l', e, h1, h2⟩ => by rw [e]; exact ⟨a, l' ++ m, rfl, h1, BlR.app hu h2⟩
  | .blk h b t, _, ⟨a, l', bl, lb, e, h1, h2, h3, h4, h5⟩ => by rw [e]; exact ⟨a, l' ++ m, bl, lb, rfl, h1, h2, h3, h4, BlR.app hu h5⟩
/-- the open blocks -/
def OFR (K : Fr) (H : Hp) (N : Addr → Prop) : OF → Addr → List Addr → List Addr → Prop
  | .leaf t, fl, st, ls => st = [] ∧ ls = [fl] ∧ ∃ l : List Addr, H fl = some (.lst (l.map V.ref)) ∧ BlR K H N t l
  | .opn t h b, fl, st, ls => ∃ (a : Addr) (st' ls' l : List Addr) (bl : Addr), st = a :: st' ∧ ls = fl :: ls' ∧ H fl = some (.lst ((l ++ [a]).map V.ref)) ∧ BlR K H N t l ∧ LnAt K H N a h.wd bl ∧ OFR K H N b bl st' ls'
theorem OFR.len {K : Fr} {H : Hp} {N : Addr → Prop} : ∀ {s : OF} {fl : Addr} {st ls : List Addr}, OFR K H N s fl st ls → st.length = s.depth ∧ ls.length = s.depth + 1
  | .leaf t, _, _, _, ⟨e1, e2, _⟩ => by rw [e1, e2]; exact ⟨rfl, rfl⟩
  | .opn t h b, _, _, _, ⟨a, st', ls', l, bl, e1, e2, _, _, _, h5⟩ => by
    have := OFR.len h5
    rw [e1, e2]
    exact ⟨congrArg (· + 1) this.1, congrArg (· + 1) this.2⟩
theorem OFR.go {K : Fr} {H H' : Hp} {N N' : Addr → Prop} {M : List Addr} (o : Off M H H') (hM : ∀ y ∈ M, N y) (hN : ∀ y, N' y → N y ∨ H y = none) : ∀ {s : OF} {fl : Addr} {st ls : List Addr}, (∀ y ∈ ls, y ∉ M) → OFR K H N s fl st ls → OFR K H' N' s fl st ls
  | .leaf t, _, _, _, hl, ⟨e1, e2, l, e3, e4⟩ => ⟨e1, e2, l, o.old _ _ (hl _ (by rw [e2]; exact List.mem_singleton.mpr rfl)) e3, e4.go o hM hN⟩
  | .opn t h b, _, _, _, hl, ⟨a, st', ls', l, bl, e1, e2, e3, e4, e5, h5⟩ => ⟨a, st', ls', l, bl, e1, e2, o.old _ _ (hl _ (by rw [e2]; exact List.mem_cons_self ..)) e3, e4.go o hM hN, e5.go o hM hN, OFR.go o hM hN (fun y hy => hl y (by rw [e2]; exact List.mem_cons_of_mem _ hy)) h5⟩
theorem OFR.head {K : Fr} {H : Hp} {N : Addr → Prop} : ∀ {s : OF} {fl : Addr} {st ls : List Addr}, OFR K H N s fl st ls → ∃ r, ls = fl :: r
  | .leaf t, _, _, _, ⟨e1, e2, _⟩ => ⟨[], e2⟩
  | .opn t h b, _, _, _, ⟨a, st', ls', l, bl, e1, e2, _⟩ => ⟨ls', e2⟩
/-- the list that the next row goes to -/
structure Tail (K : Fr) (H : Hp) (N : Addr → Prop) (s : OF) (fl : Addr) (st ls : List Addr) (blk : Addr) (l : List Addr) : Prop where
  last : ∃ r, ls = r ++ [blk]
  at' : H blk = some (.lst (l.map V.ref))
  fld : (st = [] ∧ blk = fl) ∨ ∃ st' a x, st = st' ++ [a] ∧ LnAt K H N a x blk
  row : ∀ {H' : Hp} {a : Addr} {t : Tree}, Off [blk] H H' → H' blk = some (.lst ((l ++ [a]).map V.ref)) → BlR K H' N t [a] → OFR K H' N (s.addT t) fl st ls
  hdr : ∀ {H' : Hp} {a bl : Addr} {h : Hdr}, Off [blk] H H' → H' blk = some (.lst ((l ++ [a]).map V.ref)) → LnAt K H' N a h.wd bl → H' bl = some (.lst []) → OFR K H' N (s.addH h) fl (st ++ [a]) (ls ++ [bl])
  fin : 0 < s.depth → OFR K H (fun x => N x ∧ x ≠ blk) s.fin fl st.dropLast ls.dropLast
theorem OFR.tail {K : Fr} {H : Hp} {N : Addr → Prop} : ∀ {s : OF} {fl : Addr} {st ls : List Addr}, OFR K H N s fl st ls → ls.Nodup → (∀ y ∈ ls, N y) → ∃ blk l, Tail K H N s fl st ls blk l
  | .leaf t, fl, st, ls, ⟨e1, e2, l, e3, e4⟩, nd, hN => by
    subst e1 e2
    have hM : ∀ y ∈ [fl], N y := hN
    refine ⟨fl, l, ⟨[], rfl⟩, e3, .inl ⟨rfl, rfl⟩, fun {H' a u} o hb hu => ⟨rfl, rfl, l ++ [a], hb, ?_⟩, fun {H' a bl h} o hb hu hz => ?_, fun z => absurd z (Nat.lt_irrefl 0)⟩
    · exact BlR.app hu (e4.go o hM fun y q => .inl q)
    · exact ⟨a, [], [bl], l, bl, rfl, rfl, hb, e4.go o hM (fun y q => .inl q), hu, rfl, rfl, [], hz, rfl⟩
  | .opn t h b, fl, st, ls, ⟨a, st', ls', l, bl, e1, e2, e3, e4, e5, h5⟩, nd, hN => by
    subst e1 e2
    obtain ⟨nd1, nd2⟩ := List.nodup_cons.mp nd
    have hN' : ∀ y ∈ ls', N y := fun y hy => hN y (List.mem_cons_of_mem _ hy)
    obtain ⟨blk, m, T⟩ := OFR.tail h5 nd2 hN'
    obtain ⟨r, er⟩ := T.last
    have hbl : blk ∈ ls' := by rw [er]; simp
    have nfl : fl ≠ blk := fun z => nd1 (by rw [z]; exact hbl)
    have nfl' : fl ∉ [blk] := fun z => nfl (List.mem_singleton.mp z)
    have hM : ∀ y ∈ [blk], N y := fun y hy => by rw [List.mem_singleton.mp hy]; exact hN' _ hbl
    refine ⟨blk, m, ⟨fl :: r, by rw [er]; rfl⟩, T.at', .inr ?_, fun {H' c u} o hb hu => ?_, fun {H' c bl' hh} o hb hu hz => ?_, fun _ => ?_⟩
    · rcases T.fld with ⟨q1, q2⟩ | ⟨st'', c, x, q1, q2⟩
      · subst q1
        exact ⟨[], a, h.wd, rfl, by rw [q2]; exact e5⟩
      · exact ⟨a :: st'', c, x, by rw [q1]; rfl, q2⟩
    · exact ⟨a, st', ls', l, bl, rfl, rfl, o.old _ _ nfl' e3, e4.go o hM (fun y q => .inl q), e5.go o hM (fun y q => .inl q), T.row o hb hu⟩
    · exact ⟨a, st' ++ [c], ls' ++ [bl'], l, bl, rfl, rfl, o.old _ _ nfl' e3, e4.go o hM (fun y q => .inl q), e5.go o hM (fun y q => .inl q), T.hdr o hb hu hz⟩
    · have rf : Off [] H H := Off.refl [] H
      have hN2 : ∀ y, (N y ∧ y ≠ blk) → N y ∨ H y = none := fun y q => .inl q.1
      cases b with
      | leaf u =>
        obtain ⟨q1, q2, l2, q3, q4⟩ := h5
        subst q1 q2
        have eb : blk = bl := by
          have : [bl] = r ++ [blk] := er
          cases r with
          | nil => injection this with z; exact z.symm
          | cons y r => cases r <;> cases this
        subst eb
        refine ⟨rfl, rfl, l ++ [a], e3, BlR.app (u := .blk h u .nil) (show BlR K H _ (.blk h u .nil) [a] from ⟨a, [], blk, l2, rfl, e5.go rf (by simp) hN2, fun z => z.2 rfl, q3, q4.go rf (by simp) hN2, rfl⟩) (e4.go rf (by simp) hN2)⟩
      | opn u k c =>
        obtain ⟨a2, st2, ls2, l2, bl2, q1, q2, q3, q4, q5, q6⟩ := h5
        have f := T.fin (Nat.succ_pos _)
        have e6 : st' ≠ [] := by rw [q1]; simp
        have e7 : ls' ≠ [] := by rw [q2]; simp
        refine ⟨a, st'.dropLast, ls'.dropLast, l, bl, ?_, ?_, e3, e4.go rf (by simp) hN2, e5.go rf (by simp) hN2, f⟩
        · cases st' with
          | nil => exact absurd rfl e6
          | cons _ _ => rfl
        · cases ls' with
          | nil => exact absurd rfl e7
          | cons _ _ => rfl
end S57

set_option Elab.async false
set_option linter.all false
set_option maxRecDepth 100000
set_option maxHeartbeats 4000000
namespace S57
open PySem PySem.Spec PyProof.Rows L2 TL
def lineT (x : Wd) : Str := Txt.join " " x.words
def scriptT (ts : List Tok) : Str := Txt.join "\n" (ts.map fun k => lineT k.wd)
theorem joinL_len (S : List Nat) (B : Nat) : ∀ l : List (List Nat), (∀ z ∈ l, z.length ≤ B) → (joinL S l).length ≤ l.length * (B + S.length)
  | [], _ => by simp [joinL]
  | [p], h => by
    have := h p (by simp)
    show p.length ≤ 1 * _
    omega
  | p :: q :: r, h => by
    show (p ++ (S ++ joinL S (q :: r))).length ≤ (r.length + 1 + 1) * (B + S.length)
    have h1 := h p (by simp)
    have h2 := joinL_len S B (q :: r) (fun z hz => h z (by simp at hz ⊢; exact .inr hz))
    rw [List.length_append, List.length_append, Nat.add_mul]
    have h2 : _ ≤ (r.length + 1) * (B + S.length) := h2
    omega
theorem joinL_mem {c : Nat} (S : List Nat) : ∀ l : List (List Nat), c ∈ joinL S l → c ∈ S ∨ ∃ z ∈ l, c ∈ z
  | [], h => by simp [joinL] at h
  | [p], h => .inr ⟨p, by simp, h⟩
  | p :: q :: r, h => by
    have h : c ∈ p ++ (S ++ joinL S (q :: r)) := h
    rcases List.mem_append.mp h with h | h
    · exact .inr ⟨p, by simp, h⟩
    · rcases List.mem_append.mp h with h | h
      · exact .inl h
      · rcases joinL_mem S (q :: r) h with h | ⟨z, hz, h⟩
        · exact .inl h
        · exact .inr ⟨z, List.mem_cons_of_mem _ hz, h⟩
theorem join_tl (y : Str) (l : List Str) : tl (Txt.join y l) = joinL (tl y) (l.map tl) := by rw [join_eq, tl_join]
structure WdF (z : Str) : Prop where
  sp : 32 ∉ tl z
  nl : 10 ∉ tl z
  ln : (tl z).length ≤ 8
theorem wd_facts {D : PkS} {x : Wd} (h : x.okW) (hm : (x.head, x.nums.length) ∈ cntM D) : (∀ z ∈ x.words, WdF z) ∧ x.words.length ≤ 12 ∧ tl x.head ≠ [] := by
  have hh : WdF x.head ∧ tl x.head ≠ [] := by
    unfold cntM at hm
    simp only [List.mem_cons, Prod.mk.injEq, List.not_mem_nil, or_false] at hm
    rcases hm with ⟨e, _⟩ | ⟨e, _⟩ | ⟨e, _⟩ | ⟨e, _⟩ | ⟨e, _⟩ | ⟨e, _⟩ | ⟨e, _⟩ | ⟨e, _⟩ <;> rw [e] <;> exact ⟨⟨by decide, by decide, by decide⟩, by decide⟩
  refine ⟨fun z hz => ?_, ?_, hh.2⟩
  · unfold Wd.words at hz
    rcases List.mem_cons.mp hz with rfl | hz
    · exact hh.1
    · rcases List.mem_append.mp hz with hz | hz
      · obtain ⟨n, hn, rfl⟩ := List.mem_map.mp hz
        obtain ⟨f1, f2, f3, f4, f5, f6, f7⟩ := small_facts n (h.sm n hn)
        exact ⟨f6, f7, Nat.le_trans f2 (by decide)⟩
      · rcases h.lt with ⟨_, c, e, hc⟩ | ⟨_, e⟩
        · rw [e] at hz
          have hz : z ∈ [chr1 c] := hz
          rw [List.mem_singleton.mp hz]
          have e2 : tl (chr1 c) = [c] := rfl
          have e3 : 97 ≤ c := hc.1
          exact ⟨by rw [e2]; simp; omega, by rw [e2]; simp; omega, by rw [e2]; exact (show (1 : Nat) ≤ 8 by decide)⟩
        · rw [e] at hz
          cases hz
  · unfold Wd.words
    have := h.ln
    have h2 : (Option.map chr1 x.lt).toList.length ≤ 1 := by cases x.lt <;> simp
    rw [List.length_cons, List.length_append, List.length_map]
    omega
theorem words_ne (x : Wd) : x.words ≠ [] := by unfold Wd.words; simp
theorem line_facts {D : PkS} {x : Wd} (h : x.okW) (hm : (x.head, x.nums.length) ∈ cntM D) : Txt.split (lineT x) " " = x.words ∧ (lineT x).length ≤ 108 ∧ 10 ∉ tl (lineT x) ∧ tl (lineT x) ≠ [] := by
  obtain ⟨h1, h2, h3⟩ := wd_facts h hm
  have e1 : tl (" " : Str) = [32] := by decide
  refine ⟨split_join e1 (by decide +kernel) (words_ne x) fun z hz => (h1 z hz).sp, ?_, ?_, ?_⟩
  · rw [len_tl]
    unfold lineT
    rw [join_tl, e1]
    have := joinL_len [32] 8 (x.words.map tl) (fun z hz => by
      obtain ⟨y, hy, rfl⟩ := List.mem_map.mp hz
      exact (h1 y hy).ln)
    rw [List.length_map] at this
    have h9 : x.words.length * (8 + [32].length) ≤ 12 * 9 := Nat.mul_le_mul h2 (Nat.le_refl _)
    omega
  · unfold lineT
    rw [join_tl, e1]
    intro q
    rcases joinL_mem _ _ q with q | ⟨z, hz, q⟩
    · revert q; decide
    · obtain ⟨y, hy, rfl⟩ := List.mem_map.mp hz
      exact (h1 y hy).nl q
  · unfold lineT
    rw [join_tl, e1]
    show joinL [32] (tl x.head :: (x.nums.map numT ++ (x.lt.map chr1).toList).map tl) ≠ []
    cases q : ((x.nums.map numT ++ (x.lt.map chr1).toList).map tl) with
    | nil => exact h3
    | cons a r =>
      show tl x.head ++ _ ≠ []
      exact fun z => h3 (List.append_eq_nil_iff.mp z).1
theorem script_facts {D : PkS} (o : D.ok) {ts : List Tok} (h : ∀ k ∈ ts, k.ok D) (hl : ts.length < 60) : (scriptT ts).length ≤ 6540 ∧ (ts = [] → scriptT ts = "") ∧ (ts ≠ [] → scriptT ts ≠ "" ∧ Txt.split (scriptT ts) "\n" = ts.map fun k => lineT k.wd) := by
  have e1 : tl ("\n" : Str) = [10] := by decide
  have hx : ∀ k ∈ ts, _ := fun k hk => line_facts (tok_okW o (h k hk)).1 (tok_okW o (h k hk)).2
  refine ⟨?_, fun e => by rw [e]; decide, fun hne => ⟨fun z => ?_, ?_⟩⟩
  · rw [len_tl]
    unfold scriptT
    rw [join_tl, e1]
    have := joinL_len [10] 108 ((ts.map fun k => lineT k.wd).map tl) (fun z hz => by
      obtain ⟨y, hy, rfl⟩ := List.mem_map.mp hz
      obtain ⟨k, hk, rfl⟩ := List.mem_map.mp hy
      rw [← len_tl]
      exact (hx k hk).2.1)
    rw [List.length_map, List.length_map] at this
    have h9 : ts.length * (108 + [10].length) ≤ 60 * 109 := Nat.mul_le_mul (by omega) (Nat.le_refl _)
    omega
  · have z : tl (scriptT ts) = [] := by rw [z]; decide
    unfold scriptT at z
    rw [join_tl, e1] at z
    cases ts with
    | nil => exact hne rfl
    | cons k r =>
      have := (hx k (by simp)).2.2.2
      cases q : r with
      | nil => rw [q] at z; exact this z
      | cons a b =>
        rw [q] at z
        have z : tl (lineT k.wd) ++ ([10] ++ joinL [10] ((((a :: b).map fun k => lineT k.wd)).map tl)) = [] := z
        exact this (List.append_eq_nil_iff.mp z).1
  · refine split_join e1 (by decide +kernel) (fun z => hne (List.map_eq_nil_iff.mp z)) fun z hz => ?_
    obtain ⟨k, hk, rfl⟩ := List.mem_map.mp hz
    exact (hx k hk).2.2.1
end S57

set_option Elab.async false
set_option linter.all false
set_option maxRecDepth 100000
set_option maxHeartbeats 4000000
namespace S57
open PySem PySem.Spec PyProof.Rows L2 TL
theorem if_lst {σ : L2.St} {H : Hp} {c : Bool} {ta tb : TE} {kont : VK} (l : List V) (h1 : c = true → (∀ ll, H ll = none → kont (.ref ll) (upd H ll (.lst l))) → ta σ H kont) (h2 : c = false → (∀ ll, H ll = none → kont (.ref ll) (upd H ll (.lst l))) → tb σ H kont) (h : ∀ ll, H ll = none → kont (.ref ll) (upd H ll (.lst l))) : if c = true then ta σ H kont else tb σ H kont := by
  cases c
  · exact h2 rfl h
  · exact h1 rfl h
theorem if_val {σ : L2.St} {H : Hp} {c : Bool} {ta tb : TE} {kont : VK} (v : V) (h1 : c = true → kont v H → ta σ H kont) (h2 : c = false → kont v H → tb σ H kont) (h : kont v H) : if c = true then ta σ H kont else tb σ H kont := by
  cases c
  · exact h2 rfl h
  · exact h1 rfl h
theorem OFR.ex {K : Fr} {H : Hp} {N : Addr → Prop} : ∀ {s : OF} {fl : Addr} {st ls : List Addr}, OFR K H N s fl st ls → ∀ y ∈ ls, ∃ xs, H y = some (.lst xs)
  | .leaf t, _, _, _, ⟨e1, e2, l, e3, e4⟩, y, hy => by
    rw [e2] at hy
    rw [List.mem_singleton.mp hy]
    exact ⟨_, e3⟩
  | .opn t h b, _, _, _, ⟨a, st', ls', l, bl, e1, e2, e3, e4, e5, h5⟩, y, hy => by
    rw [e2] at hy
    rcases List.mem_cons.mp hy with rfl | hy
    · exact ⟨_, e3⟩
    · exact OFR.ex h5 y hy
theorem head_end : ∀ {k : Tok}, k ≠ .fin → k.wd.head ≠ "end"
  | .row (.saw _), _ => (show ("saw" : Str) ≠ "end" by decide)
  | .row (.exchange _ _), _ => (show ("exchange" : Str) ≠ "end" by decide)
  | .row .glue, _ => (show ("glue" : Str) ≠ "end" by decide)
  | .row (.over _), _ => (show ("over" : Str) ≠ "end" by decide)
  | .row (.shw _), _ => (show ("show" : Str) ≠ "end" by decide)
  | .hdr (.rep _), _ => (show ("repeat" : Str) ≠ "end" by decide)
  | .hdr (.whn _ _ _), _ => (show ("when" : Str) ≠ "end" by decide)
  | .fin, h => absurd rfl h
theorem head_row : ∀ r : Row, inV (V.str r.wd.head) [.str "repeat", .str "when"] = false
  | .saw _ => (show inV (V.str "saw") [.str "repeat", .str "when"] = false by decide)
  | .exchange _ _ => (show inV (V.str "exchange") [.str "repeat", .str "when"] = false by decide)
  | .glue => (show inV (V.str "glue") [.str "repeat", .str "when"] = false by decide)
  | .over _ => (show inV (V.str "over") [.str "repeat", .str "when"] = false by decide)
  | .shw _ => (show inV (V.str "show") [.str "repeat", .str "when"] = false by decide)
theorem head_hdr : ∀ h : Hdr, inV (V.str h.wd.head) [.str "repeat", .str "when"] = true
  | .rep _ => (show inV (V.str "repeat") [.str "repeat", .str "when"] = true by decide)
  | .whn _ _ _ => (show inV (V.str "when") [.str "repeat", .str "when"] = true by decide)
/-- what holds ahead of line i -/
structure Rd (K : Fr) (Hc : Hp) (fl op : Addr) (t : Tree) (i : Nat) (H : Hp) (N : Addr → Prop) (s : OF) (st ls : List Addr) : Prop where
  sm : Same Hc H
  of : OFR K H N s fl st ls
  op' : H op = some (.lst (st.map V.ref))
  nd : ls.Nodup
  no : op ∉ ls
  new : ∀ x, x = op ∨ x ∈ ls → Hc x = none
  old : ∀ x u, Hc x = some u → N x
  nn : ∀ x, x = op ∨ x ∈ ls → N x
  sz : ∀ y ∈ ls, ∀ xs, H y = some (.lst xs) → xs.length ≤ i
  good : Good s ((toks t).drop i) t
section
variable {P : Program} {w : World} {K : Fr} {mg : Str → Option Value} {base : Heap}
def sp_read_script (K : Fr) : Sp := fun vs H Q _ => ∃ (p : Addr) (D : PkS) (t : Tree), vs = [.ref p, .str (scriptT (toks t))] ∧ PkAt K H p D ∧ D.ok ∧ t.ok D ∧ t.depth ≤ 4 ∧ (toks t).length < 60 ∧ 
  ∀ H' fl l, Same H H' → H fl = none → H' fl = some (.lst (l.map V.ref)) → BlR K H' (fun x => ∃ u, H x = some u) t l → Q (.ref fl) H'
theorem sc_read_script0 : FnScope ["packet", "text", "lines", "found", "opened", "number", "line", "words", "row", "block"] ["packet", "text"] (defScope s_read_script) := ⟨rfl, rfl, rfl, by decide +kernel, rfl, by decide +kernel, by decide +kernel⟩
theorem ok_read_script (T : Txt K mg w) : FnR P w K mg base CX0 6 (a_read_script K) (sp_read_script K) := by
  refine fnr0 (d_read_script T) sc_read_script0 (fun _ _ _ _ _ _ us hl => match us, hl with | [_, _], _ => rfl) (fun vs H Q E h => ?_) (fun cdv A outer s H vs Q E hr h => ?_)
  · obtain ⟨p, D, t, rfl, _⟩ := h
    rfl
  · obtain ⟨p, D, t, rfl, hp, o, ht, hd, hlen, k⟩ := h
    refine ⟨_, (pss_cons (ps_set (i := 2) sc_read_script0.nd rfl (by first | exact Or.inl rfl | exact Or.inr rfl) (pe_ifExp (pt_cmpR op_ne (pv 1) pe_str (nomark _)) (pe_split (pv 1) pe_str) (pe_lst pa_nil)))
    (pss_cons (ps_par (i := 3) (j := 4) rfl sc_read_script0.nd rfl rfl (by decide) rfl rfl (pa_cons (pe_lst pa_nil) (pa_cons (pe_lst pa_nil) pa_nil)) (by rfl))
    (pss_cons (ps_for PassesOwn.never rfl (pi_enum (by rfl) (n_enumerate T) (pa_cons (pv 2) pa_nil)) (pg_tup rfl (pgs_cons (pg_name (i := 5) sc_read_script0.nd rfl (by first | exact Or.inl rfl | exact Or.inr rfl)) (pgs_cons (pg_name (i := 6) sc_read_script0.nd rfl (by first | exact Or.inl rfl | exact Or.inr rfl)) pgs_nil)))
    (pss_cons (ps_set (i := 7) sc_read_script0.nd rfl (by first | exact Or.inl rfl | exact Or.inr rfl) (pe_split (pv 6) pe_str))
    (pss_cons (ps_if (PW.pt (pw_or (pt_cmpR op_eq (pv 5) (pe_glob rfl (Classical.choose_spec (c_MOST_ROWS T)).1 (Classical.choose_spec (c_MOST_ROWS T)).2) (nomark _)) (pw_or (pt_not (pt_val (pe_g (ok_is_row T) (hr.mono (by decide)) (g_is_row T) (kp_is_row T) pass0 (pa_cons (pv 0) (pa_cons (pv 7) pa_nil))))) (pw_or1 (PW.pt (pw_and (pt_cmpR op_eq (pe_ix ix_list (pv 7) pe_int (fun _ _ => rfl)) (pe_glob rfl (Classical.choose_spec (c_END T)).1 (Classical.choose_spec (c_END T)).2) (nomark _)) (pw_and1 (pt_cmpR (op_eqE hr.units0) (pv 4) (pe_lst pa_nil) (nomark _))))))))) pss_never pss_nil)
    (pss_cons (ps_if (pt_cmpR op_eq (pe_ix ix_list (pv 7) pe_int (fun _ _ => rfl)) (pe_glob rfl (Classical.choose_spec (c_END T)).1 (Classical.choose_spec (c_END T)).2) (nomark _)) (pss_cons (ps_expr (pe_bm0 PySem.F.plainAttrs_list PySem.F.slot_list_pop PySem.F.type_list_pop mt_pop (pv 4)))
    (pss_one ps_continue)) pss_nil)
    (pss_cons (ps_set (i := 8) sc_read_script0.nd rfl (by first | exact Or.inl rfl | exact Or.inr rfl) (StX.pe_makeR (mk_Line T) (ok_Line_init T) (hr.mono (by decide)) rfl (g_Line T) pass0 (pa_cons (pv 5) (pa_cons (pv 7) pa_nil))))
    (pss_cons (ps_set (i := 9) sc_read_script0.nd rfl (by first | exact Or.inl rfl | exact Or.inr rfl) (pe_ifExp (pt_cmpR (op_neE hr.units0) (pv 4) (pe_lst pa_nil) (nomark _)) (SlX.pe_sl (pe_ix ix_list (pv 4) (pe_un un_neg pe_int) (fun _ _ => rfl))) (pv 3)))
    (pss_cons (ps_expr (pe_bm PySem.F.plainAttrs_list PySem.F.slot_list_append PySem.F.type_list_append mt_append (pv 9) (pa_cons (pv 8) pa_nil)))
    (pss_one (ps_if (pt_cmpR op_in_seq (pe_ix ix_list (pv 7) pe_int (fun _ _ => rfl)) (pe_glob (v := .ref _) rfl (g_BLOCKS T) rfl) rfl) (pss_cons (ps_if (pt_cmpR op_eq (pe_callB call_len_seq (by rfl) (n_len T) boot_len (pa_cons (pv 4) pa_nil)) (pe_glob rfl (Classical.choose_spec (c_MOST_DEPTH T)).1 (Classical.choose_spec (c_MOST_DEPTH T)).2) (nomark _)) pss_never pss_nil)
    (pss_one (ps_expr (pe_bm PySem.F.plainAttrs_list PySem.F.slot_list_append PySem.F.type_list_append mt_append (pv 4) (pa_cons (pv 8) pa_nil))))) pss_nil)))))))))
    (pss_cons (ps_if (pt_cmpR (op_neE hr.units0) (pv 4) (pe_lst pa_nil) (nomark _)) pss_never pss_nil)
    (pss_one (ps_ret (pv 3))))))), ?_⟩
    have hk := toks_ok ht
    obtain ⟨t1, t2, t3⟩ := script_facts o hk hlen
    have hsl : sizeLine = 16777216 := sizeLine_eq
    refine ⟨_, rfl, rfl, _, rfl, ?_⟩
    refine if_lst ((toks t).map fun k => V.str (lineT k.wd)) (fun hc h => ?_) (fun hc h => ?_) ?_
    · have hc' : toks t ≠ [] := fun z => by
        rw [t2 z] at hc
        exact absurd hc (by decide)
      refine ⟨_, rfl, ⟨_, rfl⟩, scriptT (toks t), "\n", rfl, rfl, by decide, by rw [hsl]; omega, fun ll hll => ?_⟩
      rw [(t3 hc').2, List.map_map]
      exact h ll hll
    · have hc' : toks t = [] := Classical.byContradiction fun z => by
        have := (t3 z).1
        have : decide (V.str (scriptT (toks t)) = V.str "") = false := decide_eq_false fun q => this (by injection q)
        rw [this] at hc
        cases hc
      have e : ((toks t).map fun k => V.str (lineT k.wd)) = [] := by rw [hc']; rfl
      rw [e] at h
      exact ⟨Nat.zero_le _, h⟩
    intro ll hll
    have sc : Same H (upd H ll (.lst ((toks t).map fun k => V.str (lineT k.wd)))) := Same.new hll
    have hLL : upd H ll (.lst ((toks t).map fun k => V.str (lineT k.wd))) ll = _ := upd_same
    show gName 2 _ _ (upd H ll (.lst ((toks t).map fun k => V.str (lineT k.wd)))) _
    generalize upd H ll (.lst ((toks t).map fun k => V.str (lineT k.wd))) = Hc at *
    refine ⟨Nat.zero_le _, fun fl hfl => ⟨Nat.zero_le _, fun op hop => ?_⟩⟩
    refine ⟨_, _, rfl, ?_⟩
    have nfo : op ≠ fl := fun z => by rw [z, upd_same] at hop; cases hop
    have hop' : Hc op = none := by rw [upd_ne nfo] at hop; exact hop
    have s0 : Same Hc (upd (upd Hc fl (.lst [])) op (.lst [])) := (Same.new hfl).new' hop
    refine ⟨_, rfl, ll, (toks t).map fun k => V.str (lineT k.wd), rfl, SqL.of (s0 _ _ hLL), ?_⟩
    refine for_it (walk_enum (xs := (toks t).map fun k => V.str (lineT k.wd))) (fun i σ H' => ∃ v5 v6 v7 v8 v9 N s st ls, σ = [some (.ref p), some (.str (scriptT (toks t))), some (.ref ll), some (.ref fl), some (.ref op), v5, v6, v7, v8, v9] ∧ Rd K Hc fl op t i H' N s st ls) ⟨none, none, none, none, none, (fun x => (∃ u, Hc x = some u) ∨ x = op ∨ x = fl), .leaf .nil, [], [fl], rfl, ?_⟩ ?_ ?_ ?_
    · exact ⟨s0, ⟨rfl, rfl, [], by rw [upd_ne (Ne.symm nfo), upd_same]; rfl, rfl⟩, upd_same, by simp, by simpa using nfo, fun x hx => by
        simp at hx
        rcases hx with rfl | rfl
        · exact hop'
        · exact hfl, fun x u hx => .inl ⟨u, hx⟩, fun x hx => by
        simp at hx
        exact .inr hx, fun y hy xs e => by
        rw [List.mem_singleton.mp hy, upd_ne (Ne.symm nfo), upd_same] at e
        cases e
        exact Nat.zero_le _, good_all hd⟩
    · rintro i σ H' hi ⟨v5, v6, v7, v8, v9, N, s, st, ls, rfl, R⟩
      exact SqL.of (R.sm _ _ hLL)
    · rintro i x σ H1 H2 hi ⟨v5, v6, v7, v8, v9, N, s, st, ls, rfl, R⟩ ⟨T1, x1, y1, rfl, hT, rfl, hx1, hy1⟩
      have hy1 : ((toks t).map fun k => V.str (lineT k.wd))[i]? = some y1 := hy1
      rw [List.getElem?_map] at hy1
      obtain ⟨tk, htk, rfl⟩ := Option.map_eq_some_iff.mp hy1
      have hx1' : x1 = .int (i : Nat) := (Option.some.inj hx1).symm
      subst hx1'
      have hi60 : i < 60 := by rw [List.length_map] at hi; omega
      have hmem : tk ∈ toks t := List.mem_of_getElem? htk
      obtain ⟨okw, inM⟩ := tok_okW o (hk tk hmem)
      obtain ⟨l1, l2, l3, l4⟩ := line_facts okw inM
      have hdrop : (toks t).drop i = tk :: (toks t).drop (i + 1) := by
        rw [List.length_map] at hi
        rw [List.drop_eq_getElem_cons hi]
        rw [List.getElem?_eq_getElem hi] at htk
        rw [Option.some.inj htk]
      have hgood := R.good
      rw [hdrop] at hgood
      refine ⟨T1, _, rfl, SqT.of upd_same, rfl, _, _, rfl, _, _, rfl, rfl, ?_⟩
      have s2 : Same H1 (upd H1 T1 (.tup [.int (i : Nat), .str (lineT tk.wd)])) := Same.new hT
      refine ⟨_, rfl, ⟨_, rfl⟩, lineT tk.wd, " ", rfl, rfl, by decide, by rw [hsl]; omega, fun wl hwl => ?_⟩
      have hwl1 : H1 wl = none := s2.free hwl
      have s3 := s2.new' (o := .lst ((Txt.split (lineT tk.wd) " ").map V.str)) hwl
      have hWL : upd (upd H1 T1 (.tup [.int (i : Nat), .str (lineT tk.wd)])) wl (.lst ((Txt.split (lineT tk.wd) " ").map V.str)) wl = some (.lst (tk.wd.words.map V.str)) := by rw [upd_same, l1]
      generalize upd (upd H1 T1 (.tup [.int (i : Nat), .str (lineT tk.wd)])) wl (.lst ((Txt.split (lineT tk.wd) " ").map V.str)) = H3 at *
      refine ⟨_, rfl, rfl, _, rfl, ?_⟩
      rw [show decide (V.int (i : Nat) = V.int 60) = false from decide_eq_false (fun z => by injection z; omega)]
      refine iteF ⟨_, rfl, _, rfl, p, wl, D, tk.wd, rfl, hp.mono (sc.trans (R.sm.trans s3)), o, hWL, okw, inM, fun H4 s4 => ⟨true, rfl, iteF ?_⟩⟩
      have s14 := s3.trans s4
      have hWL4 := s4 _ _ hWL
      clear s3 hWL s2
      have hlen2 := R.of.len
      have hop4 : H4 op = some (.lst (st.map V.ref)) := s14 _ _ R.op'
      by_cases hf : tk = .fin
      · subst hf
        obtain ⟨hd0, hg1⟩ := hgood
        obtain ⟨sa, stl, hst⟩ : ∃ sa stl, st = stl ++ [sa] := by
          have : st ≠ [] := fun z => by rw [z] at hlen2; have := hlen2.1; simp at this; omega
          exact ⟨_, _, (List.dropLast_concat_getLast this).symm⟩
        refine ⟨_, rfl, wl, _, _, _, rfl, rfl, SqL.of hWL4, atI_nat (j := 0) rfl, rfl, _, rfl, iteT ?_⟩
        refine ⟨_, rfl, Nat.zero_le _, fun e he => ⟨op, e, st.map V.ref, rfl, rfl, SqL.of (by rw [upd_ne (ne_of_none hop4 he)]; exact hop4), SqL.of upd_same, _, rfl, ?_⟩⟩
        rw [show ((st.map V.ref).isEmpty != false) = false by rw [hst]; simp]
        refine iteF ?_
        have s5 := s14.new' (o := .lst []) he
        have hop5 : upd H4 e (.lst []) op = some (.lst (st.map V.ref)) := by rw [upd_ne (ne_of_none hop4 he)]; exact hop4
        have hWL5 : upd H4 e (.lst []) wl = some (.lst ((Tok.fin.wd.words).map V.str)) := by rw [upd_ne (ne_of_none hWL4 he)]; exact hWL4
        show tNext _ _ (upd H4 e (.lst []))
        generalize upd H4 e (.lst []) = H5 at *
        refine ⟨_, rfl, wl, _, _, _, rfl, rfl, SqL.of hWL5, atI_nat (j := 0) rfl, rfl, _, rfl, iteT ?_⟩
        refine ⟨_, rfl, .inl ⟨rfl, _, SqL.of hop5⟩, op, st.map V.ref, .ref sa, rfl, rfl, hop5, by rw [hst]; simp, ?_⟩
        have edl : (st.map V.ref).dropLast = stl.map V.ref := by rw [hst]; simp
        rw [edl]
        obtain ⟨blk, l, TLx⟩ := R.of.tail R.nd (fun y hy => R.nn y (.inr hy))
        obtain ⟨r, er⟩ := TLx.last
        have hblk : blk ∈ ls := by rw [er]; simp
        have edr : ls.dropLast = r := by rw [er]; simp
        have hnd := R.nd
        rw [er] at hnd
        have hnr : blk ∉ r := fun z => (List.nodup_append.mp hnd).2.2 blk z blk (by simp) rfl
        have hF := TLx.fin hd0
        have edst : st.dropLast = stl := by rw [hst]; simp
        rw [edr, edst] at hF
        have oH : Off [op] H1 (upd H5 op (.lst (stl.map V.ref))) := ((Off.of (M := []) s5).mono (by simp)).trans (Off.mut (by simp) hop5 (fun _ z => by cases z) (by intro z; cases z))
        have hopb : op ≠ blk := fun z => R.no (by rw [z]; exact hblk)
        refine ⟨_, _, _, _, _, (fun x => N x ∧ x ≠ blk), s.fin, stl, r, rfl, ?_⟩
        refine ⟨(R.sm.trans s5).upd hop', hF.go oH (fun y hy => by rw [List.mem_singleton.mp hy]; exact ⟨R.nn _ (.inl rfl), hopb⟩) (fun y hy => .inl hy) (fun y hy z => R.no (by rw [← List.mem_singleton.mp z, er]; exact List.mem_append_left _ hy)), upd_same, (List.nodup_append.mp hnd).1, fun z => R.no (by rw [er]; exact List.mem_append_left _ z), fun x hx => R.new x (hx.imp id fun z => by rw [er]; exact List.mem_append_left _ z), fun x u hx => ⟨R.old x u hx, fun z => by rw [z, R.new blk (.inr hblk)] at hx; cases hx⟩, fun x hx => ?_, fun y hy xs e => ?_, hg1⟩
        rotate_left
        · have hy' : y ∈ ls := by rw [er]; exact List.mem_append_left _ hy
          obtain ⟨ys, hys⟩ := R.of.ex y hy'
          rw [upd_ne (fun z => R.no (by rw [← z]; exact hy')), s5 _ _ hys] at e
          cases e
          exact Nat.le_succ_of_le (R.sz y hy' _ hys)
        rcases hx with rfl | hx
        · exact ⟨R.nn _ (.inl rfl), hopb⟩
        · exact ⟨R.nn _ (.inr (by rw [er]; exact List.mem_append_left _ hx)), fun z => hnr (by rw [← z]; exact hx)⟩
      · have hne : tk.wd.head ≠ "end" := head_end hf
        have hdec : decide (V.str tk.wd.head = V.str "end") = false := decide_eq_false fun z => hne (by injection z)
        refine ⟨_, rfl, wl, _, _, _, rfl, rfl, SqL.of hWL4, atI_nat (j := 0) rfl, rfl, _, rfl, ?_⟩
        rw [hdec]
        refine iteF (iteF ?_)
        refine ⟨_, rfl, wl, _, _, _, rfl, rfl, SqL.of hWL4, atI_nat (j := 0) rfl, rfl, _, rfl, ?_⟩
        rw [hdec]
        refine iteF ?_
        refine ⟨_, rfl, _, rfl, fun a dx ha hdx hne2 => ?_⟩
        have sN : Same H4 (upd (upd H4 dx (.own a)) a (.ins (C_Line K) dx [])) := (Same.new hdx).new' (by rw [upd_ne (Ne.symm hne2)]; exact ha)
        refine ⟨H4, a, dx, wl, (i : Nat), tk.wd, rfl, ha, hdx, hne2, sN, upd_same, by rw [upd_ne hne2, upd_same], hWL4, okw, fun H5 bl t5 z s5 hbl0 hbl _ hslt ht5 hz => ⟨rfl, ?_⟩⟩
        obtain ⟨ea, edx⟩ : H5 a = some (SlX.SlO a (C_Line K) dx [some (.ref bl), some (.str tk.wd.head), some (.str z), some (.int (i : Nat)), some (.ref t5)]) ∧ H5 dx = some (.xd []) := by
          rcases hslt with ⟨_, q⟩ | q
          · cases q
          · exact q
        have hop5 : H5 op = some (.lst (st.map V.ref)) := s5 _ _ hop4
        have s15 := s14.trans s5
        refine ⟨_, rfl, Nat.zero_le _, fun e he => ⟨op, e, st.map V.ref, rfl, rfl, SqL.of (by rw [upd_ne (ne_of_none hop5 he)]; exact hop5), SqL.of upd_same, _, rfl, ?_⟩⟩
        have s56 : Same H5 (upd H5 e (.lst [])) := Same.new he
        generalize upd H5 e (.lst []) = H6 at *
        have s16 := s15.trans s56
        have hop6 := s56 _ _ hop5
        have hls : ∀ y ∈ ls, ∃ xs, H6 y = some (.lst xs) := fun y hy => let ⟨xs, e⟩ := R.of.ex y hy; ⟨xs, s16 _ _ e⟩
        have sc1 := R.sm.trans s14
        have hN' : ∀ y, ((∃ u, Hc y = some u) ∨ y = op ∨ y ∈ ls ∨ y = bl) → N y ∨ H1 y = none := fun y hy => by
          rcases hy with ⟨u, hu⟩ | rfl | hy | rfl
          · exact .inl (R.old _ _ hu)
          · exact .inl (R.nn _ (.inl rfl))
          · exact .inl (R.nn _ (.inr hy))
          · exact .inr (s14.free hbl0)
        have hOF : OFR K H6 (fun y => (∃ u, Hc y = some u) ∨ y = op ∨ y ∈ ls ∨ y = bl) s fl st ls := R.of.go (Off.of (M := []) s16) (by simp) hN' (by simp)
        obtain ⟨blk, l, TLx⟩ := hOF.tail R.nd (fun y hy => .inr (.inr (.inl hy)))
        obtain ⟨r, er⟩ := TLx.last
        have hblk : blk ∈ ls := by rw [er]; simp
        have hopb : op ≠ blk := fun z => R.no (by rw [z]; exact hblk)
        have hlz : l.length ≤ i := by
          obtain ⟨ys, hys⟩ := R.of.ex blk hblk
          have e1 := TLx.at'
          rw [s16 _ _ hys] at e1
          have e2 := R.sz blk hblk ys hys
          injection e1 with e1
          injection e1 with e1
          rw [e1, List.length_map] at e2
          exact e2
        refine if_val (.ref blk) (fun hc h => ?_) (fun hc h => ?_) ?_
        · rcases TLx.fld with ⟨q, _⟩ | ⟨st', a0, x0, q, _, dx0, t0, z0, i0, q1, q2, _⟩
          · rw [q] at hc; cases hc
          · have hl0 : atI (st.map V.ref) (-1) = some (.ref a0) := by rw [q, List.map_append]; exact atI_last _ _
            exact ⟨_, rfl, 1, rfl, op, _, _, _, rfl, rfl, SqL.of hop6, hl0, a0, _, dx0, _, _, 0, _, rfl, .inr ⟨q1, q2⟩, sc_Line T, sl_Line_block T, rfl, h⟩
        · rcases TLx.fld with ⟨_, q⟩ | ⟨st', a0, x0, q, _⟩
          · rw [q] at h
            exact ⟨_, rfl, h⟩
          · rw [q] at hc; simp at hc
        refine ⟨_, rfl, .inl ⟨rfl, _, SqL.of TLx.at'⟩, _, rfl, blk, l.map V.ref, .ref a, rfl, rfl, TLx.at', by rw [List.length_map]; exact small1000 (by omega), ?_⟩
        have nab : a ≠ bl := fun z => by rw [z, hbl] at ea; exact slO_lst (Option.some.inj ea).symm
        have hbl6 := s56 _ _ hbl
        have nbb : bl ≠ blk := fun z => by
          obtain ⟨xs, e⟩ := R.of.ex blk hblk
          rw [z, s14 _ _ e] at hbl0
          cases hbl0
        have ln6 : LnAt K H6 (fun y => (∃ u, Hc y = some u) ∨ y = op ∨ y ∈ ls ∨ y = bl) a tk.wd bl := ⟨fun q => by
          rcases q with ⟨u, hu⟩ | q | q | q
          · rw [sc1 _ _ hu] at ha; cases ha
          · rw [q, hop4] at ha; cases ha
          · obtain ⟨xs, e⟩ := R.of.ex a q
            rw [s14 _ _ e] at ha; cases ha
          · exact nab q, dx, t5, z, i, s56 _ _ ea, s56 _ _ edx, s56 _ _ ht5, hz⟩
        have o67 : Off [blk] H6 (upd H6 blk (.lst (l.map V.ref ++ [.ref a]))) := Off.mut (by simp) TLx.at' (fun _ z => by cases z) (by intro z; cases z)
        have hb7 : upd H6 blk (.lst (l.map V.ref ++ [.ref a])) blk = some (.lst ((l ++ [a]).map V.ref)) := by rw [upd_same, List.map_append]; rfl
        have s17 : Same Hc (upd H6 blk (.lst (l.map V.ref ++ [.ref a]))) := (R.sm.trans s16).upd (R.new _ (.inr hblk))
        have hop7 : upd H6 blk (.lst (l.map V.ref ++ [.ref a])) op = some (.lst (st.map V.ref)) := by rw [upd_ne hopb]; exact hop6
        have hbl7 : upd H6 blk (.lst (l.map V.ref ++ [.ref a])) bl = some (.lst []) := by rw [upd_ne nbb]; exact hbl6
        have hWL7 : upd H6 blk (.lst (l.map V.ref ++ [.ref a])) wl = some (.lst (tk.wd.words.map V.str)) := by
          have : wl ≠ blk := fun q => by
            obtain ⟨xs, e⟩ := R.of.ex blk hblk
            rw [q, e] at hwl1
            cases hwl1
          rw [upd_ne this]
          exact s56 _ _ (s5 _ _ hWL4)
        have ln7 := ln6.go (N' := (fun y => (∃ u, Hc y = some u) ∨ y = op ∨ y ∈ ls ∨ y = bl)) o67 (fun y hy => by rw [List.mem_singleton.mp hy]; exact .inr (.inr (.inl hblk))) (fun y hy => .inl hy)
        have sz7 : ∀ y ∈ ls, ∀ xs, upd H6 blk (.lst (l.map V.ref ++ [.ref a])) y = some (.lst xs) → xs.length ≤ i + 1 := fun y hy xs e => by
          by_cases q : y = blk
          · rw [q, upd_same] at e
            cases e
            simp
            omega
          · obtain ⟨ys, hys⟩ := R.of.ex y hy
            rw [upd_ne q, s16 _ _ hys] at e
            cases e
            exact Nat.le_succ_of_le (R.sz y hy _ hys)
        generalize upd H6 blk (.lst (l.map V.ref ++ [.ref a])) = H7 at *
        refine ⟨_, rfl, wl, _, _, _, rfl, rfl, SqL.of hWL7, atI_nat (j := 0) rfl, ga K "BLOCKS", [.str "repeat", .str "when"], rfl, .inr (He.tupB_ok T.blocks _), rfl, rfl, _, rfl, ?_⟩
        cases tk with
        | fin => exact absurd rfl hf
        | row r =>
          have hr' : inV (V.str (Tok.row r).wd.head) [.str "repeat", .str "when"] = false := head_row r
          have hOF7 := TLx.row (a := a) (t := .row r .nil) o67 hb7 ⟨a, [], rfl, ⟨bl, ln7⟩, rfl⟩
          rw [show (if false = true then !inV (V.str (Tok.row r).wd.head) [.str "repeat", .str "when"] else inV (V.str (Tok.row r).wd.head) [.str "repeat", .str "when"]) = false from hr']
          refine iteF ⟨_, _, _, _, _, (fun y => (∃ u, Hc y = some u) ∨ y = op ∨ y ∈ ls ∨ y = bl), s.addT (.row r .nil), st, ls, rfl, ?_⟩
          exact ⟨s17, hOF7, hop7, R.nd, R.no, R.new, fun x u hx => .inl ⟨u, hx⟩, fun x hx => by
            rcases hx with rfl | hx
            · exact .inr (.inl rfl)
            · exact .inr (.inr (.inl hx)), sz7, hgood⟩
        | hdr h =>
          have hr' : inV (V.str (Tok.hdr h).wd.head) [.str "repeat", .str "when"] = true := head_hdr h
          have hOF7 := TLx.hdr (a := a) (bl := bl) (h := h) o67 hb7 ln7 hbl7
          rw [show (if false = true then !inV (V.str (Tok.hdr h).wd.head) [.str "repeat", .str "when"] else inV (V.str (Tok.hdr h).wd.head) [.str "repeat", .str "when"]) = true from hr']
          refine iteT ?_
          obtain ⟨g1, g2⟩ := hgood
          refine ⟨_, rfl, op, _, rfl, .inl (SqL.of hop7), rfl, _, rfl, ?_⟩
          rw [show decide (V.int ((st.map V.ref).length : Nat) = V.int 4) = false from decide_eq_false (fun z => by
            injection z with z
            rw [List.length_map] at z
            omega)]
          refine iteF ⟨_, rfl, .inl ⟨rfl, _, SqL.of hop7⟩, _, rfl, op, st.map V.ref, .ref a, rfl, rfl, hop7, by rw [List.length_map]; exact small1000 (by omega), ?_⟩
          have hblH : Hc bl = none := R.sm.free (s14.free hbl0)
          have hnb : bl ∉ ls := fun z => by
            obtain ⟨xs, e⟩ := R.of.ex bl z
            rw [s14 _ _ e] at hbl0
            cases hbl0
          have nbo : bl ≠ op := fun z => by rw [z, hop4] at hbl0; cases hbl0
          have o78 : Off [op] H7 (upd H7 op (.lst (st.map V.ref ++ [.ref a]))) := Off.mut (by simp) hop7 (fun _ z => by cases z) (by intro z; cases z)
          have hno : ∀ y ∈ ls ++ [bl], y ≠ op := fun y hy z => by
            rcases List.mem_append.mp hy with hy | hy
            · exact R.no (by rw [← z]; exact hy)
            · exact nbo (by rw [← List.mem_singleton.mp hy]; exact z)
          refine ⟨_, _, _, _, _, (fun y => (∃ u, Hc y = some u) ∨ y = op ∨ y ∈ ls ∨ y = bl), s.addH h, st ++ [a], ls ++ [bl], rfl, ?_⟩
          refine ⟨s17.upd hop', hOF7.go o78 (fun y hy => by rw [List.mem_singleton.mp hy]; exact .inr (.inl rfl)) (fun y hy => .inl hy) (fun y hy z => hno y hy (List.mem_singleton.mp z)), by rw [upd_same, List.map_append]; rfl, ?_, fun z => hno _ z rfl, ?_, fun x u hx => .inl ⟨u, hx⟩, ?_, ?_, g2⟩
          · exact List.nodup_append.mpr ⟨R.nd, by simp, fun x hx y hy z => hnb (by rw [← List.mem_singleton.mp hy, ← z]; exact hx)⟩
          · rintro x (rfl | hx)
            · exact hop'
            · rcases List.mem_append.mp hx with hx | hx
              · exact R.new x (.inr hx)
              · rw [List.mem_singleton.mp hx]; exact hblH
          · rintro x (rfl | hx)
            · exact .inr (.inl rfl)
            · rcases List.mem_append.mp hx with hx | hx
              · exact .inr (.inr (.inl hx))
              · exact .inr (.inr (.inr (List.mem_singleton.mp hx)))
          · intro y hy xs e
            rw [upd_ne (hno y hy)] at e
            rcases List.mem_append.mp hy with hy | hy
            · exact sz7 y hy xs e
            · rw [List.mem_singleton.mp hy, hbl7] at e
              cases e
              exact Nat.zero_le _
    · rintro σ H1 ⟨v5, v6, v7, v8, v9, N, s, st, ls, rfl, R⟩
      have hg := R.good
      rw [List.length_map, List.drop_length] at hg
      have hs : s = .leaf t := hg
      subst hs
      have of := R.of
      obtain ⟨e1, e2, l, e3, e4⟩ := of
      subst e1 e2
      have hop1 : H1 op = some (.lst []) := R.op'
      refine ⟨_, rfl, Nat.zero_le _, fun e he => ⟨op, e, [], rfl, rfl, SqL.of (by rw [upd_ne (ne_of_none hop1 he)]; exact hop1), SqL.of upd_same, _, rfl, iteF ⟨_, rfl, ?_⟩⟩⟩
      have s9 := (sc.trans R.sm).new' (o := .lst []) he
      refine k _ fl l s9 (sc.free hfl) (by rw [upd_ne (ne_of_none e3 he)]; exact e3) ?_
      have oo : Off [] H1 (upd H1 e (.lst [])) := Off.of (Same.new he)
      exact e4.go oo (by simp) fun y hy => .inl (by
        obtain ⟨u, hu⟩ := hy
        exact R.old y u (sc _ _ hu))
end
end S57


set_option Elab.async false
set_option linter.all false
set_option maxRecDepth 100000
set_option maxHeartbeats 4000000
namespace S57
open PySem PySem.Spec PyProof.Rows L2 TL
/-- the machine -/
def maF (b o : Addr) (n : Nat) : List (Str × V) := [("bench", .ref b), ("output", .ref o), ("step_count", .int n)]
section
variable {P : Program} {w : World} {K : Fr} {mg : Str → Option Value} {base : Heap}
def sp_Bench_pattern_now (K : Fr) : Sp := fun vs H Q _ => ∃ (M : List Addr) (b st dst : Addr) (S : BS), vs = [.ref b] ∧ BnAt K H M b st dst S ∧ ∀ v, H v = some (.tup (natsV S.ws)) → Q (.ref v) H
theorem sc_Bench_pattern_now0 : FnScope ["self"] ["self"] (defScope s_Bench_pattern_now) := ⟨rfl, rfl, rfl, by decide +kernel, rfl, by decide +kernel, by decide +kernel⟩
theorem ok_Bench_pattern_now (T : Txt K mg w) : FnR P w K mg base CX0 1 (a_Bench_pattern_now K) (sp_Bench_pattern_now K) := by
  refine fnr0 (d_Bench_pattern_now T) sc_Bench_pattern_now0 (fun _ _ _ _ _ _ us hl => match us, hl with | [_], _ => rfl) (fun vs H Q E h => ?_) (fun cdv A outer s H vs Q E hr h => ?_)
  · obtain ⟨M, b, st, dst, S, rfl, _⟩ := h
    rfl
  · obtain ⟨M, b, st, dst, S, rfl, ⟨dxb, f, p, sh, u, e1, e2, ⟨pk, v, f1, f2, f3, f4⟩, e4, hstM, hMs⟩, k⟩ := h
    refine ⟨_, (pss_one (ps_ret (pe_ix ix_tup (SlX.pe_sl (pe_fld (pv 0) rfl)) pe_int (fun _ _ => rfl)))), ?_⟩
    exact ⟨_, rfl, b, _, _, _, _, rfl, e1, cl_Bench T, na_Bench_held T, rfl, st, _, dst, _, _, 0, _, rfl, e2.1, sc_State T, sl_State_facts T, rfl, f, _, _, _, rfl, rfl, SqT.of f1, atI_nat (j := 1) rfl, k v f4⟩
def sp_Bench_length_now (K : Fr) : Sp := fun vs H Q _ => ∃ (M : List Addr) (b st dst : Addr) (S : BS), vs = [.ref b] ∧ BnAt K H M b st dst S ∧ Q (.int S.len) H
theorem sc_Bench_length_now0 : FnScope ["self"] ["self"] (defScope s_Bench_length_now) := ⟨rfl, rfl, rfl, by decide +kernel, rfl, by decide +kernel, by decide +kernel⟩
theorem ok_Bench_length_now (T : Txt K mg w) : FnR P w K mg base CX0 1 (a_Bench_length_now K) (sp_Bench_length_now K) := by
  refine fnr0 (d_Bench_length_now T) sc_Bench_length_now0 (fun _ _ _ _ _ _ us hl => match us, hl with | [_], _ => rfl) (fun vs H Q E h => ?_) (fun cdv A outer s H vs Q E hr h => ?_)
  · obtain ⟨M, b, st, dst, S, rfl, _⟩ := h
    rfl
  · obtain ⟨M, b, st, dst, S, rfl, ⟨dxb, f, p, sh, u, e1, e2, ⟨pk, v, f1, f2, f3, f4⟩, e4, hstM, hMs⟩, k⟩ := h
    refine ⟨_, (pss_one (ps_ret (pe_ix ix_tup (SlX.pe_sl (pe_fld (pv 0) rfl)) pe_int (fun _ _ => rfl)))), ?_⟩
    exact ⟨_, rfl, b, _, _, _, _, rfl, e1, cl_Bench T, na_Bench_held T, rfl, st, _, dst, _, _, 0, _, rfl, e2.1, sc_State T, sl_State_facts T, rfl, f, _, _, _, rfl, rfl, SqT.of f1, atI_nat (j := 2) rfl, k⟩
def sp_Machine_init (K : Fr) : Sp := fun vs H Q _ => ∃ (m dx b : Addr), vs = [.ref m, .ref b] ∧ H m = some (.ins (C_Machine K) dx []) ∧ 
  ∀ o H', H o = none → H' m = some (.ins (C_Machine K) dx (maF b o 0)) → H' o = some (.lst []) → (∀ x, x ≠ m → x ≠ o → H' x = H x) → Q .non H'
theorem sc_Machine_init0 : FnScope ["self", "bench"] ["self", "bench"] (defScope s_Machine_init) := ⟨rfl, rfl, rfl, by decide +kernel, rfl, by decide +kernel, by decide +kernel⟩
theorem ok_Machine_init (T : Txt K mg w) : FnR P w K mg base CX0 1 (a_Machine_init K) (sp_Machine_init K) := by
  refine fnr0 (d_Machine_init T) sc_Machine_init0 (fun _ _ _ _ _ _ us hl => match us, hl with | [_, _], _ => rfl) (fun vs H Q E h => ?_) (fun cdv A outer s H vs Q E hr h => ?_)
  · obtain ⟨m, dx, b, rfl, _⟩ := h
    rfl
  · obtain ⟨m, dx, b, rfl, hm, k⟩ := h
    refine ⟨_, (pss_cons (ps_fld (pv 0) (pv 1) rfl)
    (pss_cons (ps_fld (pv 0) (pe_lst pa_nil) rfl)
    (pss_one (ps_fld (pv 0) pe_int rfl)))), ?_⟩
    refine ⟨_, rfl, _, rfl, m, _, _, _, rfl, hm, cl_Machine T, na_Machine_bench T, (show (0 : Nat) < 1000 by decide), ?_⟩
    refine ⟨Nat.zero_le _, fun o ho => ?_⟩
    have nom : o ≠ m := fun z => by rw [z, upd_same] at ho; cases ho
    rw [upd_ne nom] at ho
    have hm1 : upd (upd H m (.ins (C_Machine K) dx [("bench", .ref b)])) o (.lst []) m = some (.ins (C_Machine K) dx [("bench", .ref b)]) := by rw [upd_ne (Ne.symm nom), upd_same]
    refine ⟨_, rfl, m, _, _, _, rfl, hm1, cl_Machine T, na_Machine_output T, (show (1 : Nat) < 1000 by decide), ?_⟩
    refine ⟨_, rfl, m, _, _, _, rfl, upd_same, cl_Machine T, na_Machine_step_count T, (show (2 : Nat) < 1000 by decide), ?_⟩
    refine k o _ ho upd_same ?_ fun x h1 h2 => ?_
    · rw [upd_ne nom, upd_ne nom, upd_same]
    · rw [upd_ne h1, upd_ne h1, upd_ne h2, upd_ne h1]
def sp_Machine_step (K : Fr) : Sp := fun vs H Q _ => ∃ (m dx b o : Addr) (n : Nat), vs = [.ref m] ∧ H m = some (.ins (C_Machine K) dx (maF b o n)) ∧ n < 300 ∧ Q .non (upd H m (.ins (C_Machine K) dx (maF b o (n + 1))))
theorem sc_Machine_step0 : FnScope ["self"] ["self"] (defScope s_Machine_step) := ⟨rfl, rfl, rfl, by decide +kernel, rfl, by decide +kernel, by decide +kernel⟩
theorem ok_Machine_step (T : Txt K mg w) : FnR P w K mg base CX0 1 (a_Machine_step K) (sp_Machine_step K) := by
  refine fnr0 (d_Machine_step T) sc_Machine_step0 (fun _ _ _ _ _ _ us hl => match us, hl with | [_], _ => rfl) (fun vs H Q E h => ?_) (fun cdv A outer s H vs Q E hr h => ?_)
  · obtain ⟨m, dx, b, o, n, rfl, _⟩ := h
    rfl
  · obtain ⟨m, dx, b, o, n, rfl, hm, hn, k⟩ := h
    refine ⟨_, (pss_cons (ps_fldaug (pv 0) pe_int in_add)
    (pss_one (ps_if (pt_cmpR op_gt (pe_fld (pv 0) rfl) (pe_glob rfl (Classical.choose_spec (c_MOST_STEPS T)).1 (Classical.choose_spec (c_MOST_STEPS T)).2) (nomark _)) pss_never pss_nil))), ?_⟩
    refine ⟨_, rfl, m, _, _, _, _, rfl, hm, cl_Machine T, na_Machine_step_count T, rfl, _, _, rfl, rfl, _, _, hm, (show (3 : Nat) < 1000 by decide), ?_⟩
    have e : putF "step_count" (V.int ((n : Int) + 1)) (maF b o n) = maF b o (n + 1) := rfl
    rw [e]
    refine ⟨_, rfl, m, _, _, _, _, rfl, upd_same, cl_Machine T, na_Machine_step_count T, rfl, _, _, rfl, rfl, _, rfl, ?_⟩
    rw [show decide ((300 : Int) < ((n + 1 : Nat) : Int)) = false by simp; omega]
    exact iteF k
def sp_Machine_sheet (K : Fr) : Sp := fun vs H Q E => ∃ (M : List Addr) (m dx b o st dst : Addr) (n i : Nat) (S : BS), vs = [.ref m, .int i] ∧ H m = some (.ins (C_Machine K) dx (maF b o n)) ∧ BnAt K H M b st dst S ∧ S.ok ∧
  (∀ z, S.D.sh[i]? = some z → Q (.str z) H) ∧ (S.D.sh.length ≤ i → ∀ c H', SErr K c → Same H H' → E (.ref c) none H')
theorem sc_Machine_sheet0 : FnScope ["self", "index", "packet"] ["self", "index"] (defScope s_Machine_sheet) := ⟨rfl, rfl, rfl, by decide +kernel, rfl, by decide +kernel, by decide +kernel⟩
theorem ok_Machine_sheet (T : Txt K mg w) : FnR P w K mg base (L2N.CX P w) 3 (a_Machine_sheet K) (sp_Machine_sheet K) := by
  refine fnrC (d_Machine_sheet T) sc_Machine_sheet0 (fun _ _ _ _ _ _ us hl => match us, hl with | [_, _], _ => rfl) (fun vs H Q E h => ?_) (fun cdv A outer s H vs Q E hr h => ?_)
  · obtain ⟨M, m, dx, b, o, st, dst, n, i, S, rfl, _⟩ := h
    rfl
  · obtain ⟨M, m, dx, b, o, st, dst, n, i, S, rfl, hm, hB, ok, k, kE⟩ := h
    have tk : L2N.Takes (cxOf (L2N.CX P w) P w K mg base ["self", "index", "packet"] (Str.ofString "Machine.sheet") (defScope s_Machine_sheet) (a_Machine_sheet K) cdv A outer s H E) (fun cls d _ H => E cls d H) := L2N.takes_of rfl rfl rfl rfl
    refine ⟨_, (pss_cons (ps_set (i := 2) sc_Machine_sheet0.nd rfl (by first | exact Or.inl rfl | exact Or.inr rfl) (pe_propR (pe_fld (pv 0) rfl) (cl_Bench T) (pr_Bench_packet_now T) (ok_Bench_packet_now T) (hr.mono (by decide)) pass0p))
    (pss_cons (ps_if (pt_not (pt_val (pe_g (ok_is_number T) (hr.mono (by decide)) (g_is_number T) (kp_is_number T) pass0 (pa_cons (pv 1) (pa_cons pe_int (pa_cons (pe_op op_sub (pe_callB (call_lenO (fs_Packet_len T).1 (fs_Packet_len T).2 (ok_Packet_len T) (hr.mono (by decide)) pass0) (by rfl) (n_len T) boot_len (pa_cons (pv 2) pa_nil)) pe_int) pa_nil)))))) (pss_one (L2N.ps_raise rfl tk (L2N.pmk_own PySem.F.excBase_ValueError (ex_UnknownSheet T).1 (g_UnknownSheet T) (ex_UnknownSheet T).2.1 (raises_own (ex_UnknownSheet T).2.2.1 (ex_UnknownSheet T).2.2.2) rfl))) pss_nil)
    (pss_one (ps_ret (pe_ix ix_tup (SlX.pe_propSl (pv 2) (sc_Packet T) (pr_Packet_sheets T).at_ (pr_Packet_sheets T).get (pr_Packet_sheets T).tak (pr_Packet_sheets T).rec_ (ok_Packet_sheets T) (hr.mono (by decide)) pass0p) (pv 1) (fun _ _ => rfl)))))), ?_⟩
    have n1 := ok.D.n1; have n3 := ok.D.n3
    refine ⟨_, rfl, m, _, _, _, _, rfl, hm, cl_Machine T, na_Machine_bench T, rfl, ?_⟩
    obtain ⟨dxb, f, p, sh, u, e1, e2, _⟩ := id hB
    refine ⟨b, dxb, _, rfl, e1, M, b, st, dst, S, rfl, hB, fun pk hpk f3 => ?_⟩
    obtain ⟨pdx, pt, ps, q1, q2, q3⟩ := f3.parts
    refine ⟨_, rfl, _, rfl, pk, pdx, _, rfl, q1, pk, S.D, rfl, f3, _, rfl, by omega, _, _, rfl, rfl, _, _, _, rfl, _, rfl, ?_⟩
    rcases Nat.lt_or_ge (S.D.sh.length - 1) i with hi | hi
    · rw [show (decide ((0 : Int) ≤ i) && decide ((i : Int) ≤ (S.D.sh.length : Nat) - 1)) = false by simp; omega]
      exact iteT (kE (by omega) _ _ (.inr (.inr (.inl rfl))) (Same.refl _))
    have hi : i < S.D.sh.length := by omega
    rw [show (decide ((0 : Int) ≤ i) && decide ((i : Int) ≤ (S.D.sh.length : Nat) - 1)) = true by simp; omega]
    refine iteF ?_
    have hgi : (S.D.sh.map V.str)[i]? = some (.str S.D.sh[i]) := by rw [List.getElem?_map, List.getElem?_eq_getElem hi]; rfl
    exact ⟨_, rfl, pk, pdx, _, rfl, q1, pk, S.D, rfl, f3, fun sA hsA => ⟨_, rfl, sA, _, _, _, rfl, rfl, SqT.of hsA, atI_nat hgi, k _ (List.getElem?_eq_getElem hi)⟩⟩
def whnM (S : BS) (s c : Nat) : Option Nat := (S.D.sh[s]?).bind fun z => z.cps.toList[c]?
def sp_Machine_letter_at (K : Fr) : Sp := fun vs H Q E => ∃ (M : List Addr) (m dx b o st dst : Addr) (n i c : Nat) (S : BS), vs = [.ref m, .int i, .int c] ∧ H m = some (.ins (C_Machine K) dx (maF b o n)) ∧ BnAt K H M b st dst S ∧ S.ok ∧
  (∀ x, whnM S i c = some x → Q (.str (chr1 x)) H) ∧ (whnM S i c = none → ∀ c H', SErr K c → Same H H' → E (.ref c) none H')
theorem sc_Machine_letter_at0 : FnScope ["self", "index", "cell", "text"] ["self", "index", "cell"] (defScope s_Machine_letter_at) := ⟨rfl, rfl, rfl, by decide +kernel, rfl, by decide +kernel, by decide +kernel⟩
theorem ok_Machine_letter_at (T : Txt K mg w) : FnR P w K mg base (L2N.CX P w) 4 (a_Machine_letter_at K) (sp_Machine_letter_at K) := by
  refine fnrC (d_Machine_letter_at T) sc_Machine_letter_at0 (fun _ _ _ _ _ _ us hl => match us, hl with | [_, _, _], _ => rfl) (fun vs H Q E h => ?_) (fun cdv A outer s H vs Q E hr h => ?_)
  · obtain ⟨M, m, dx, b, o, st, dst, n, i, c, S, rfl, _⟩ := h
    rfl
  · obtain ⟨M, m, dx, b, o, st, dst, n, i, c, S, rfl, hm, hB, ok, k, kE⟩ := h
    have tk : L2N.Takes (cxOf (L2N.CX P w) P w K mg base ["self", "index", "cell", "text"] (Str.ofString "Machine.letter_at") (defScope s_Machine_letter_at) (a_Machine_letter_at K) cdv A outer s H E) (fun cls d _ H => E cls d H) := L2N.takes_of rfl rfl rfl rfl
    refine ⟨_, (pss_cons (ps_set (i := 3) sc_Machine_letter_at0.nd rfl (by first | exact Or.inl rfl | exact Or.inr rfl) (pe_methR (pv 0) (cl_Machine T) (me_Machine_sheet T) (ok_Machine_sheet T) (hr.mono (by decide)) (L2N.passes_call tk (fun _ _ _ _ h => h)) (pa_cons (pv 1) pa_nil)))
    (pss_cons (ps_if (pt_not (pt_val (pe_g (ok_is_number T) (hr.mono (by decide)) (g_is_number T) (kp_is_number T) pass0 (pa_cons (pv 2) (pa_cons pe_int (pa_cons (pe_op op_sub (pe_callB call_len_str (by rfl) (n_len T) boot_len (pa_cons (pv 3) pa_nil)) pe_int) pa_nil)))))) (pss_one (L2N.ps_raise rfl tk (L2N.pmk_own PySem.F.excBase_ValueError (ex_UnknownCell T).1 (g_UnknownCell T) (ex_UnknownCell T).2.1 (raises_own (ex_UnknownCell T).2.2.1 (ex_UnknownCell T).2.2.2) rfl))) pss_nil)
    (pss_one (ps_ret (pe_ix ix_str (pv 3) (pv 2) (fun _ _ => rfl)))))), ?_⟩
    obtain ⟨c1, c6⟩ := ok.D.cells
    refine ⟨_, rfl, m, dx, _, rfl, hm, rfl, _, rfl, M, m, dx, b, o, st, dst, n, i, S, rfl, hm, hB, ok, fun z hz => ?_, fun hi c' H' h1 h2 => kE (by unfold whnM; rw [List.getElem?_eq_none hi]; rfl) c' H' h1 h2⟩
    have hzl : z.length = S.D.w * S.D.h := ok.D.len z (List.mem_of_getElem? hz)
    have hzt : z.length = z.cps.toList.length := by rw [Array.length_toList]; rfl
    have hzs : z.length ≤ sizeLine := Nat.le_of_lt (small1000 (by omega))
    refine ⟨_, rfl, _, rfl, _, rfl, hzs, _, _, rfl, rfl, _, _, _, rfl, _, rfl, ?_⟩
    rcases Nat.lt_or_ge (z.length - 1) c with hc | hc
    · rw [show (decide ((0 : Int) ≤ c) && decide ((c : Int) ≤ (z.length : Nat) - 1)) = false by simp; omega]
      refine iteT (kE ?_ _ _ (.inr (.inr (.inr (.inr rfl)))) (Same.refl _))
      unfold whnM
      rw [hz]
      exact List.getElem?_eq_none (by omega)
    have hc : c < z.cps.toList.length := by omega
    rw [show (decide ((0 : Int) ≤ c) && decide ((c : Int) ≤ (z.length : Nat) - 1)) = true by simp; omega]
    refine iteF ⟨_, rfl, _, rfl, z, _, _, rfl, rfl, hzs, atI_nat (List.getElem?_eq_getElem hc), k _ ?_⟩
    unfold whnM
    rw [hz]
    exact List.getElem?_eq_getElem hc
def actR (S : BS) (outs : List Str) : Row → Option (BS × List Str)
  | .saw ws => (opM S (.saw ws)).map fun S' => (S', outs)
  | .exchange p o => (opM S (.exchange p o)).map fun S' => (S', outs)
  | .glue => some (glueM S, outs ++ [numT (lengthM S.D.w S.D.h S.ws)])
  | .over i => (opM S (.over i)).map fun S' => (S', outs)
  | .shw i => (S.D.sh[i]?).map fun z => (S, outs ++ [z])
theorem LnAt.sl {K : Fr} {H : Hp} {N : Addr → Prop} {a bl : Addr} {x : Wd} (h : LnAt K H N a x bl) : ∃ dx t z i, SlX.Slt H a (C_Line K) dx [some (.ref bl), some (.str x.head), some (.str z), some (.int i), some (.ref t)] ∧ H t = some (.tup (natsV x.nums)) ∧ ∀ c, x.lt = some c → z = chr1 c :=
  let ⟨_, dx, t, z, i, e1, e2, e3, e4⟩ := h
  ⟨dx, t, z, i, .inr ⟨e1, e2⟩, e3, e4⟩
def sp_Machine_act (K : Fr) : Sp := fun vs H Q E => ∃ (M : List Addr) (m dx b o st dst : Addr) (n : Nat) (S : BS) (outs : List Str) (a : Addr) (N : Addr → Prop) (bl : Addr) (x : Wd), vs = [.ref m, .ref a] ∧ H m = some (.ins (C_Machine K) dx (maF b o n)) ∧ BnAt K H M b st dst S ∧ S.ok ∧ S.past.length < 900 ∧ H o = some (.lst (outs.map V.str)) ∧ outs.length < 900 ∧ LnAt K H N a x bl ∧ 
  ((∃ r, x = Row.wd r ∧ r.ok S.D ∧ (∀ S' outs', actR S outs r = some (S', outs') → ∀ H', Off [st, o] H H' → BnAt K H' M b st dst S' → H' o = some (.lst (outs'.map V.str)) → Q (.bl false) H') ∧ (actR S outs r = none → ∀ c H', SErr K c → Off [st, o] H H' → E (.ref c) none H')) ∨
   (∃ s c l, x = Hdr.wd (.whn s c l) ∧ (∀ v, whnM S s c = some v → Q (.bl (decide (v = l))) H) ∧ (whnM S s c = none → ∀ c H', SErr K c → Same H H' → E (.ref c) none H')))
theorem sc_Machine_act0 : FnScope ["self", "row"] ["self", "row"] (defScope s_Machine_act) := ⟨rfl, rfl, rfl, by decide +kernel, rfl, by decide +kernel, by decide +kernel⟩
theorem ok_Machine_act (T : Txt K mg w) : FnR P w K mg base (L2N.CX P w) 7 (a_Machine_act K) (sp_Machine_act K) := by
  refine fnrC (d_Machine_act T) sc_Machine_act0 (fun _ _ _ _ _ _ us hl => match us, hl with | [_, _], _ => rfl) (fun vs H Q E h => ?_) (fun cdv A outer s H vs Q E hr h => ?_)
  · obtain ⟨M, m, dx, b, o, st, dst, n, S, outs, a, N, bl, x, rfl, _⟩ := h
    rfl
  · obtain ⟨M, m, dx, b, o, st, dst, n, S, outs, a, N, bl, x, rfl, hm, hB, ok, hn, ho, hol, hL, hcase⟩ := h
    have tk : L2N.Takes (cxOf (L2N.CX P w) P w K mg base ["self", "row"] (Str.ofString "Machine.act") (defScope s_Machine_act) (a_Machine_act K) cdv A outer s H E) (fun cls d _ H => E cls d H) := L2N.takes_of rfl rfl rfl rfl
    refine ⟨_, (pss_cons (ps_if (pt_cmpR op_eq (SlX.pe_sl (pv 1)) (pe_glob rfl (Classical.choose_spec (c_WHEN T)).1 (Classical.choose_spec (c_WHEN T)).2) (nomark _)) (pss_one (ps_ret (pe_cmpR op_eq (pe_methR (pv 0) (cl_Machine T) (me_Machine_letter_at T) (ok_Machine_letter_at T) (hr.mono (by decide)) (L2N.passes_call tk (fun _ _ _ _ h => h)) (pa_cons (pe_ix ix_tup (SlX.pe_sl (pv 1)) pe_int (fun _ _ => rfl)) (pa_cons (pe_ix ix_tup (SlX.pe_sl (pv 1)) pe_int (fun _ _ => rfl)) pa_nil))) (SlX.pe_sl (pv 1)) (nomark _)))) pss_nil)
    (pss_cons (ps_if (pt_cmpR op_eq (SlX.pe_sl (pv 1)) (pe_glob rfl (Classical.choose_spec (c_SAW T)).1 (Classical.choose_spec (c_SAW T)).2) (nomark _)) (pss_one (ps_expr (pe_methR (pe_fld (pv 0) rfl) (cl_Bench T) (me_Bench_saw T) (ok_Bench_saw T) (hr.mono (by decide)) (L2N.passes_call tk (fun _ _ _ _ h => h)) (pa_cons (SlX.pe_sl (pv 1)) pa_nil)))) (pss_one (ps_if (pt_cmpR op_eq (SlX.pe_sl (pv 1)) (pe_glob rfl (Classical.choose_spec (c_EXCHANGE T)).1 (Classical.choose_spec (c_EXCHANGE T)).2) (nomark _)) (pss_one (ps_expr (pe_methR (pe_fld (pv 0) rfl) (cl_Bench T) (me_Bench_exchange T) (ok_Bench_exchange T) (hr.mono (by decide)) (L2N.passes_call tk (fun _ _ _ _ h => h)) (pa_cons (pe_ix ix_tup (SlX.pe_sl (pv 1)) pe_int (fun _ _ => rfl)) (pa_cons (pe_slice sl_tupA (SlX.pe_sl (pv 1)) (po_some pe_int) po_none) pa_nil))))) (pss_one (ps_if (pt_cmpR op_eq (SlX.pe_sl (pv 1)) (pe_glob rfl (Classical.choose_spec (c_GLUE T)).1 (Classical.choose_spec (c_GLUE T)).2) (nomark _)) (pss_one (ps_expr (pe_bm PySem.F.plainAttrs_list PySem.F.slot_list_append PySem.F.type_list_append mt_append (pe_fld (pv 0) rfl) (pa_cons (pe_callTy call_str_int (by rfl) (n_str T) (by decide +kernel) (pa_cons (pe_methR0 (pe_fld (pv 0) rfl) (cl_Bench T) (me_Bench_glue T) (ok_Bench_glue T) (hr.mono (by decide)) pass0) pa_nil)) pa_nil)))) (pss_one (ps_if (pt_cmpR op_eq (SlX.pe_sl (pv 1)) (pe_glob rfl (Classical.choose_spec (c_OVER T)).1 (Classical.choose_spec (c_OVER T)).2) (nomark _)) (pss_one (ps_expr (pe_methR (pe_fld (pv 0) rfl) (cl_Bench T) (me_Bench_over T) (ok_Bench_over T) (hr.mono (by decide)) (L2N.passes_call tk (fun _ _ _ _ h => h)) (pa_cons (pe_ix ix_tup (SlX.pe_sl (pv 1)) pe_int (fun _ _ => rfl)) pa_nil)))) (pss_one (ps_expr (pe_bm PySem.F.plainAttrs_list PySem.F.slot_list_append PySem.F.type_list_append mt_append (pe_fld (pv 0) rfl) (pa_cons (pe_methR (pv 0) (cl_Machine T) (me_Machine_sheet T) (ok_Machine_sheet T) (hr.mono (by decide)) (L2N.passes_call tk (fun _ _ _ _ h => h)) (pa_cons (pe_ix ix_tup (SlX.pe_sl (pv 1)) pe_int (fun _ _ => rfl)) pa_nil)) pa_nil)))))))))))
    (pss_one (ps_ret pe_bl)))), ?_⟩
    obtain ⟨ldx, lt, lz, li, hs, ht, hc⟩ := hL.sl
    obtain ⟨dxb, f, p, sh, u, e1, e2, _⟩ := id hB
    refine ⟨_, rfl, a, _, ldx, _, _, 1, _, rfl, hs, sc_Line T, sl_Line_head T, rfl, rfl, _, rfl, ?_⟩
    have hso : st ≠ o := fun z => by
      have := e2.sl.1
      rw [z, ho] at this
      exact slO_lst (Option.some.inj this).symm
    have hmo : ∀ {H'}, Off [st] H H' → Off [st, o] H H' := fun h => h.mono (by simp)
    have hoo : ∀ {H'}, Off [st] H H' → H' o = some (.lst (outs.map V.str)) := fun h => h.old _ _ (by simpa using Ne.symm hso) ho
    rcases hcase with ⟨r, rfl, hr, k, kE⟩ | ⟨s', c, l, rfl, k, kE⟩
    · cases r with
      | saw ws =>
        refine iteF ⟨_, rfl, a, _, ldx, _, _, 1, _, rfl, hs, sc_Line T, sl_Line_head T, rfl, rfl, _, rfl, iteT ?_⟩
        refine ⟨_, rfl, m, _, _, _, _, rfl, hm, cl_Machine T, na_Machine_bench T, rfl, b, dxb, _, rfl, e1, rfl, _, rfl, a, _, ldx, _, _, 4, _, rfl, hs, sc_Line T, sl_Line_rest T, rfl, M, b, st, dst, lt, S, ws, rfl, hB, ok, hn, ht, hr, fun S' hS' x H' o' hB' => ?_, fun h c H' h1 h2 => kE (by show (opM S (.saw ws)).map _ = none; rw [h]; rfl) c H' h1 (hmo h2)⟩
        exact k S' outs (by show (opM S (.saw ws)).map _ = _; rw [hS']; rfl) H' (hmo o') hB' (hoo o')
      | exchange p od =>
        refine iteF ⟨_, rfl, a, _, ldx, _, _, 1, _, rfl, hs, sc_Line T, sl_Line_head T, rfl, rfl, _, rfl, iteF ?_⟩
        refine ⟨_, rfl, a, _, ldx, _, _, 1, _, rfl, hs, sc_Line T, sl_Line_head T, rfl, rfl, _, rfl, iteT ?_⟩
        have hcut : cutV (natsV (Row.exchange p od).wd.nums) (some 1) none = natsV od := cut_tail _ _
        refine ⟨_, rfl, m, _, _, _, _, rfl, hm, cl_Machine T, na_Machine_bench T, rfl, b, dxb, _, rfl, e1, rfl, _, rfl, a, _, ldx, _, _, 4, _, rfl, hs, sc_Line T, sl_Line_rest T, rfl, lt, _, _, _, rfl, rfl, SqT.of ht, atI_nat (j := 0) rfl, ?_⟩
        refine ⟨_, rfl, a, _, ldx, _, _, 4, _, rfl, hs, sc_Line T, sl_Line_rest T, rfl, _, rfl, lt, _, rfl, SqT.of ht, fun z => absurd z.1 ?_, fun _ v hv => ?_⟩
        · have : HT.sIx (natsV (Row.exchange p od).wd.nums).length 0 (some 1) = 1 := HT.sIx_nat _ _ 1 |>.trans (by rw [natsV_len]; show min 1 (od.length + 1) = 1; omega)
          rw [this]
          decide
        rw [hcut]
        have s1 : Same H (upd H v (.tup (natsV od))) := Same.new hv
        refine ⟨M, b, st, dst, v, S, p, od, rfl, hB.off (Off.of (M := []) s1) (by simp), ok, hn, upd_same, hr.2, fun S' hS' x H' o' hB' => ?_, fun h c H' h1 h2 => kE (by show (opM S (.exchange p od)).map _ = none; rw [h]; rfl) c H' h1 (hmo ((Off.of s1).trans h2))⟩
        exact k S' outs (by show (opM S (.exchange p od)).map _ = _; rw [hS']; rfl) H' (hmo ((Off.of s1).trans o')) hB' (hoo ((Off.of s1).trans o'))
      | glue =>
        refine iteF ⟨_, rfl, a, _, ldx, _, _, 1, _, rfl, hs, sc_Line T, sl_Line_head T, rfl, rfl, _, rfl, iteF ?_⟩
        refine ⟨_, rfl, a, _, ldx, _, _, 1, _, rfl, hs, sc_Line T, sl_Line_head T, rfl, rfl, _, rfl, iteF ?_⟩
        refine ⟨_, rfl, a, _, ldx, _, _, 1, _, rfl, hs, sc_Line T, sl_Line_head T, rfl, rfl, _, rfl, iteT ?_⟩
        refine ⟨_, rfl, m, _, _, _, _, rfl, hm, cl_Machine T, na_Machine_output T, rfl, .inl ⟨rfl, _, SqL.of ho⟩, ?_⟩
        refine ⟨_, rfl, m, _, _, _, _, rfl, hm, cl_Machine T, na_Machine_bench T, rfl, b, dxb, _, rfl, e1, rfl, M, b, st, dst, S, rfl, hB, ok, hn, fun H' o' hB' => ?_⟩
        have hl : lengthM S.D.w S.D.h S.ws ≤ 7 := Nat.le_trans (List.length_filter_le _ _) (sides_len12 _ ok.D.w3 _ ok.D.h2)
        refine ⟨_, rfl, ?_, ?_⟩
        · show (lengthM S.D.w S.D.h S.ws).log2 < 1920
          exact Nat.lt_of_le_of_lt (Nat.log2_le_self _) (by omega)
        have ho' := hoo o'
        refine ⟨o, _, _, rfl, rfl, ho', by rw [List.length_map]; exact small1000 (by omega), ?_⟩
        have oo : Off [o] H' (upd H' o (.lst (outs.map V.str ++ [.str (numT (lengthM S.D.w S.D.h S.ws))]))) := Off.mut (by simp) ho' (fun _ z => by cases z) (by intro z; cases z)
        exact k (glueM S) (outs ++ [numT (lengthM S.D.w S.D.h S.ws)]) rfl _ ((hmo o').trans (oo.mono (by simp))) (hB'.off oo fun x hx => ⟨outs.map V.str, by rw [List.mem_singleton.mp hx]; exact ho'⟩) (by rw [upd_same, List.map_append]; rfl)
      | over i =>
        refine iteF ⟨_, rfl, a, _, ldx, _, _, 1, _, rfl, hs, sc_Line T, sl_Line_head T, rfl, rfl, _, rfl, iteF ?_⟩
        refine ⟨_, rfl, a, _, ldx, _, _, 1, _, rfl, hs, sc_Line T, sl_Line_head T, rfl, rfl, _, rfl, iteF ?_⟩
        refine ⟨_, rfl, a, _, ldx, _, _, 1, _, rfl, hs, sc_Line T, sl_Line_head T, rfl, rfl, _, rfl, iteF ?_⟩
        refine ⟨_, rfl, a, _, ldx, _, _, 1, _, rfl, hs, sc_Line T, sl_Line_head T, rfl, rfl, _, rfl, iteT ?_⟩
        refine ⟨_, rfl, m, _, _, _, _, rfl, hm, cl_Machine T, na_Machine_bench T, rfl, b, dxb, _, rfl, e1, rfl, _, rfl, a, _, ldx, _, _, 4, _, rfl, hs, sc_Line T, sl_Line_rest T, rfl, lt, _, _, _, rfl, rfl, SqT.of ht, atI_nat (j := 0) rfl, M, b, st, dst, S, i, rfl, hB, ok, hn, fun S' hS' x H' o' hB' => ?_, fun h c H' h1 h2 => kE (by show (opM S (.over i)).map _ = none; rw [h]; rfl) c H' h1 (hmo h2)⟩
        exact k S' outs (by show (opM S (.over i)).map _ = _; rw [hS']; rfl) H' (hmo o') hB' (hoo o')
      | shw i =>
        refine iteF ⟨_, rfl, a, _, ldx, _, _, 1, _, rfl, hs, sc_Line T, sl_Line_head T, rfl, rfl, _, rfl, iteF ?_⟩
        refine ⟨_, rfl, a, _, ldx, _, _, 1, _, rfl, hs, sc_Line T, sl_Line_head T, rfl, rfl, _, rfl, iteF ?_⟩
        refine ⟨_, rfl, a, _, ldx, _, _, 1, _, rfl, hs, sc_Line T, sl_Line_head T, rfl, rfl, _, rfl, iteF ?_⟩
        refine ⟨_, rfl, a, _, ldx, _, _, 1, _, rfl, hs, sc_Line T, sl_Line_head T, rfl, rfl, _, rfl, iteF ?_⟩
        refine ⟨_, rfl, m, _, _, _, _, rfl, hm, cl_Machine T, na_Machine_output T, rfl, .inl ⟨rfl, _, SqL.of ho⟩, ?_⟩
        refine ⟨_, rfl, m, dx, _, rfl, hm, rfl, _, rfl, a, _, ldx, _, _, 4, _, rfl, hs, sc_Line T, sl_Line_rest T, rfl, lt, _, _, _, rfl, rfl, SqT.of ht, atI_nat (j := 0) rfl, M, m, dx, b, o, st, dst, n, i, S, rfl, hm, hB, ok, fun z hz => ?_, fun h c H' h1 h2 => kE (by show (S.D.sh[i]?).map _ = none; rw [List.getElem?_eq_none h]; rfl) c H' h1 (Off.of h2)⟩
        refine ⟨o, _, _, rfl, rfl, ho, by rw [List.length_map]; exact small1000 (by omega), ?_⟩
        have oo : Off [o] H (upd H o (.lst (outs.map V.str ++ [.str z]))) := Off.mut (by simp) ho (fun _ z => by cases z) (by intro z; cases z)
        exact k S (outs ++ [z]) (by show (S.D.sh[i]?).map _ = _; rw [hz]; rfl) _ (oo.mono (by simp)) (hB.off oo fun x hx => ⟨outs.map V.str, by rw [List.mem_singleton.mp hx]; exact ho⟩) (by rw [upd_same, List.map_append]; rfl)
    · refine iteT ?_
      refine ⟨_, rfl, m, dx, _, rfl, hm, rfl, _, rfl, a, _, ldx, _, _, 4, _, rfl, hs, sc_Line T, sl_Line_rest T, rfl, lt, _, _, _, rfl, rfl, SqT.of ht, atI_nat (j := 0) rfl, _, rfl, a, _, ldx, _, _, 4, _, rfl, hs, sc_Line T, sl_Line_rest T, rfl, lt, _, _, _, rfl, rfl, SqT.of ht, atI_nat (j := 1) rfl, M, m, dx, b, o, st, dst, n, s', c, S, rfl, hm, hB, ok, fun v hv => ?_, kE⟩
      refine ⟨_, rfl, a, _, ldx, _, _, 2, _, rfl, hs, sc_Line T, sl_Line_letter T, rfl, rfl, ?_⟩
      rw [hc l rfl, show decide (V.str (chr1 v) = V.str (chr1 l)) = decide (v = l) from decide_eq_decide.mpr ⟨fun z => by
        injection z with z
        injection z with z
        injection z with z
        injection z with z, fun z => by rw [z]⟩]
      exact k v hv
end
end S57


set_option Elab.async false
set_option linter.all false
set_option maxRecDepth 100000
set_option maxHeartbeats 4000000
namespace S57
open PySem PySem.Spec PyProof.Rows L2 L2H HotX
/-! ### raise X(..) from e -/
def causeAt (h : Heap) (a : Addr) (v : Value) : Heap := (h.update a (Obj.mapFields (·.setIfInBounds 3 v))).update a (Obj.mapFields (·.setIfInBounds 4 (.bool true)))
theorem causeAt_ne {h : Heap} {a b : Addr} {v : Value} (hne : a ≠ b) : (causeAt h a v).get? b = h.get? b := by
  unfold causeAt
  rw [Heap.get?_update_other _ _ hne, Heap.get?_update_other _ _ hne]
theorem causeAt_at {h : Heap} {a : Addr} {v : Value} {oe : Obj} {vs : Array Value} (ha : h.get? a = some oe) (hd : oe.data = .fields vs) :
    (causeAt h a v).get? a = some ((oe.mapFields (·.setIfInBounds 3 v)).mapFields (·.setIfInBounds 4 (.bool true))) ∧ ((oe.mapFields (·.setIfInBounds 3 v)).mapFields (·.setIfInBounds 4 (.bool true))).data = .fields ((vs.setIfInBounds 3 v).setIfInBounds 4 (.bool true)) := by
  have d3 := Obj.data_mapFields hd (·.setIfInBounds 3 v)
  have g3 := Heap.get?_update_self (Obj.mapFields (·.setIfInBounds 3 v)) ha (Obj.isFreed_of_fields d3)
  have d4 := Obj.data_mapFields d3 (·.setIfInBounds 4 (.bool true))
  exact ⟨Heap.get?_update_self (Obj.mapFields (·.setIfInBounds 4 (.bool true))) g3 (Obj.isFreed_of_fields d4), d4⟩
section
variable {prog : Program} {w : World} {A : Around} {E : Value → Shared → Prop} {env : Env} {s : Shared}
theorem not_type {h : Heap} {a : Addr} {o : Obj} {vs : Array Value} {Q : Bool → Shared → Prop} {s1 : Shared} (e : s1.heap = h) (ha : h.get? a = some o) (hd : o.data = .fields vs) (q : Q false s1) : wpAny (model prog w) A (isType (.ref a)) Q E s1 := by
  subst e
  simp only [isType, loadHead]
  refine wpAny_bind (wpAny_loadPart ha ?_)
  rw [hd]
  exact wpAny_pure q
theorem exc_value {a : Addr} {o : Obj} {vs : Array Value} {c : String} {Q : Value → Shared → Prop} {s1 : Shared} (ha : s1.heap.get? a = some o) (hd : o.data = .fields vs) (LI : PySem.W.Looks (model prog w) s1.heap (isInstance (.ref a) (.type "BaseException")) true) (q : Q (.ref a) s1) :
    wpAny (model prog w) A (excFromValue (.ref a) c) Q E s1 := by
  unfold excFromValue isExcClass
  refine wpAny_bind (wpAny_bind (not_type rfl ha hd ?_))
  simp only [Bool.false_eq_true, if_false]
  refine wpAny_pure ?_
  simp only [Bool.false_eq_true, if_false]
  refine wpAny_bind (LI.here ?_)
  simp only [if_true]
  exact wpAny_pure q
theorem raise_from {x c : Sem Value} {Q : Flow → Shared → Prop} {x1 : Addr}
    (h : wpAny (model prog w) A x (fun v s₁ => ∃ a oe vs cls o1 vs1, v = .ref a ∧ s₁.heap.get? a = some oe ∧ oe.cls = cls ∧ oe.data = .fields vs ∧ vs[1]? = some .none ∧ 4 < vs.size ∧ x1 ≠ a ∧ A.handled = some (.ref x1) ∧ s₁.heap.get? x1 = some o1 ∧ o1.data = .fields vs1 ∧ vs1[2]? = some .none ∧
      (∀ Q' : Value → Shared → Prop, Q' (.ref x1) s₁ → wpAny (model prog w) A c Q' E s₁) ∧
      (∀ h', (∀ b, b ≠ a → h'.get? b = s₁.heap.get? b) → PySem.W.Looks (model prog w) h' (isSubtype cls (.type "BaseException")) true ∧ PySem.W.Looks (model prog w) h' (typeOf cls) (.type "type") ∧ PySem.W.Looks (model prog w) h' (isSubtype o1.cls (.type "BaseException")) true) ∧
      E (.ref a) { s₁ with heap := (causeAt s₁.heap a (.ref x1)).update a (Obj.mapFields (·.setIfInBounds 2 (.ref x1))) }) E s) :
    wpAny (model prog w) A (raiseStmt env (some x) (some c)) Q E s := by
  unfold raiseStmt
  dsimp only
  refine wpAny_bind (wpAny_mono h (fun v s₁ h₁ => ?_) fun _ _ x => x)
  obtain ⟨a, oe, vs, cls, o1, vs1, rfl, ha, hcls, hd, h1, hi, hne, hh, hx, hdx, hx2, hcs, hL, hE⟩ := h₁
  obtain ⟨L1, L2', L3⟩ := hL s₁.heap fun _ _ => rfl
  have LT : PySem.W.Looks (model prog w) s₁.heap (typeOf (.ref a)) cls := fun A Q E s k q => wpAny_typeOf_ref (k _ _ ha) (by rw [hcls]; exact q)
  have LI : PySem.W.Looks (model prog w) s₁.heap (isInstance (.ref a) (.type "BaseException")) true := LT.andThen L1
  have LTx : PySem.W.Looks (model prog w) s₁.heap (typeOf (.ref x1)) o1.cls := fun A Q E s k q => wpAny_typeOf_ref (k _ _ hx) q
  have LIx : PySem.W.Looks (model prog w) s₁.heap (isInstance (.ref x1) (.type "BaseException")) true := LTx.andThen L3
  have d3 := Obj.data_mapFields hd (·.setIfInBounds 3 (.ref x1))
  have g3 := Heap.get?_update_self (Obj.mapFields (·.setIfInBounds 3 (.ref x1))) ha (Obj.isFreed_of_fields d3)
  obtain ⟨g4, d4⟩ := causeAt_at (v := .ref x1) ha hd
  have z3 : 3 < vs.size := by omega
  have z4 : 4 < (vs.setIfInBounds 3 (Value.ref x1)).size := by rw [set_size]; exact hi
  have z2 : 2 < ((vs.setIfInBounds 3 (Value.ref x1)).setIfInBounds 4 (Value.bool true)).size := by rw [set_size, set_size]; omega
  have h14 : ((vs.setIfInBounds 3 (Value.ref x1)).setIfInBounds 4 (Value.bool true))[1]? = some Value.none := set_other (by decide) (set_other (by decide) h1)
  have c4 : ((oe.mapFields (·.setIfInBounds 3 (.ref x1))).mapFields (·.setIfInBounds 4 (.bool true))).cls = cls := by rw [Obj.cls_mapFields, Obj.cls_mapFields]; exact hcls
  obtain ⟨M1, M2, M3⟩ := hL (causeAt s₁.heap a (.ref x1)) fun b hb => causeAt_ne (Ne.symm hb)
  have LT4 : PySem.W.Looks (model prog w) (causeAt s₁.heap a (.ref x1)) (typeOf (.ref a)) cls := fun A Q E s k q => wpAny_typeOf_ref (k _ _ g4) (by rw [c4]; exact q)
  have hot4 : HotAt A x1 (causeAt s₁.heap a (.ref x1)) := ⟨hh, o1, vs1, by rw [causeAt_ne (Ne.symm hne)]; exact hx, hdx, hx2⟩
  have rest : wpAny (model prog w) A (do
      let b ← isType (.ref a)
      if b = true then do
        let e ← holding [.ref a] (raisedFor (.ref a) (.ref a))
        setFlight e none
        raiseNew e
      else do
        let e ← raisedInstance (.ref a)
        setFlight e none
        raiseNew e : Sem Flow) Q E { s₁ with heap := causeAt s₁.heap a (.ref x1) } := by
    refine wpAny_bind (not_type rfl g4 d4 ?_)
    simp only [Bool.false_eq_true, if_false]
    unfold raisedInstance
    refine wpAny_bind (wpAny_bind (LT4.here (wpAny_bind (M2.here ?_))))
    rw [if_pos (beq_self_eq_true _)]
    refine wpAny_pure ?_
    unfold setFlight
    refine wpAny_bind (wpAny_bind (wpAny_field g4 d4 h14 ?_))
    rw [if_neg (by decide)]
    refine wpAny_pure ?_
    exact raiseNew_hot hot4 hne g4 d4 z2 hE
  refine wpAny_bind (wpAny_holding (hcs _ (wpAny_bind (wpAny_pure ?_))))
  dsimp only
  refine wpAny_bind (wpAny_holding (exc_value ha hd LI ?_))
  rw [if_neg (show ¬ ((Value.ref x1 == Value.none) = true) from by simp)]
  refine wpAny_bind (wpAny_holding (exc_value hx hdx LIx ?_))
  exact wpAny_bind (wpAny_setField ha hd z3 (wpAny_bind (wpAny_setField g3 d3 z4 rest)))
end
section
variable {X : Cx} {W : WX}
/-- raise X(..) from n, in the suite of except .. as n -/
theorem ps_raiseF {e : Expr} {t : L2.St → Hp → XK → Prop} {n : Str} {i : Nat} {p : Addr × Obj} {npos pos : Pos} (ho : Hot1 X.A p) (hp : p ∈ X.pn) (tk : L2.Takes X W) (he : PMk5 X e t) (hN : X.N[i]? = some n) (hl : X.env.kindOf n = some .local)
    (hk : X.env.scope.kind = .function) (hdb : (n == ("__debug__" : Str)) = false) :
    PS X (.Raise (some e) (some (.Name n npos)) pos) (fun _ σ H => σ[i]? = some (some (.ref p.1)) ∧ Raises X p.2.cls ∧ t σ H fun cls d H' => W cls d σ H') := by
  refine ⟨fun pins s σ H D I h => ?_⟩
  obtain ⟨hσ, hR, h⟩ := h
  obtain ⟨hh, v1, e1, c1⟩ := ho
  show wpAny _ _ (do standAt pos; raiseStmt X.env (some (do let v ← eval e X.env; standAt pos; pure v)) (some (do let v ← eval (.Name n npos) X.env; standAt pos; pure v))) _ _ _
  refine wpAny_bind (wpAny_standAt (raise_from (x1 := p.1) (wpAny_bind (wpAny_mono (he pins s σ H _ I h) (fun u s1 hu => wpAny_bind (wpAny_standAt (wpAny_pure ?_))) fun _ _ x => x))))
  obtain ⟨⟨a, oe, vs, sI, H', cls, d, rfl, J, k, hne, ha, hz, hd, h1, na, os, ag, r, q⟩, h5⟩ := hu
  have hi : 4 < vs.size := h5 a oe vs rfl ha hd
  have P1 := (J.pin p (List.mem_append_left _ hp)).1
  have nap : p.1 ≠ a := fun z => by
    rw [z, hne] at P1
    cases P1
  have nk : ∀ b u, sI.heap.get? b = some u → a ≠ b := fun b u z y => by
    rw [← y, hne] at z
    cases z
  refine ⟨a, oe, vs, cls, p.2, v1, rfl, ha, hz.1, hd, h1, hi, nap, hh, k _ _ P1, e1, c1, fun Q' q' => ?_, fun h' kk => ?_, tk _ _ ?_⟩
  · obtain ⟨m, hn, hlk⟩ := J.loc
    obtain ⟨u, ru, lk⟩ := hlk i n (.ref p.1) hN hσ (.inl hl)
    obtain rfl : u = Value.ref p.1 := ru
    rcases lk with ⟨_, hm⟩ | ⟨hc, _⟩
    · exact wpAny_bind (wpAny_Name (wpAny_loadName_local J.ok.kind hl (hn.keeps k) hm (wpAny_bind (wpAny_standAt (wpAny_pure q')))) hdb)
    · rw [hl] at hc
      rcases hc with hc | hc <;> cases hc
  · have k' : ∀ b u, sI.heap.get? b = some u → h'.get? b = some u := fun b u z => by
      rw [kk b (Ne.symm (nk b u z))]
      exact k b u z
    obtain ⟨r1, r2⟩ := r (model X.prog X.w) h' (J.kIn.keeps k')
    exact ⟨r1, r2, (hR (model X.prog X.w) h' (J.kIn.keeps k')).1⟩
  · obtain ⟨g4, d4⟩ := causeAt_at (v := .ref p.1) ha hd
    have h12 : (((vs.setIfInBounds 3 (Value.ref p.1)).setIfInBounds 4 (Value.bool true)).setIfInBounds 2 (Value.ref p.1))[1]? = some Value.none := set_other (by decide) (set_other (by decide) (set_other (by decide) h1))
    refine XE.new J (fun b u z => ?_) hne (Heap.get?_update_self _ g4 (Obj.isFreed_of_fields (Obj.data_mapFields d4 _)))
      ⟨by rw [Obj.cls_mapFields, Obj.cls_mapFields, Obj.cls_mapFields]; exact hz.1, by rw [HandSPX.dict_mapFields, HandSPX.dict_mapFields, HandSPX.dict_mapFields]; exact hz.2.1⟩ (Obj.data_mapFields d4 _) h12 na os ag q
    show ((causeAt s1.heap a (.ref p.1)).update a (Obj.mapFields (·.setIfInBounds 2 (.ref p.1)))).get? b = some u
    rw [Heap.get?_update_other _ _ (nk b u z), causeAt_ne (nk b u z)]
    exact k b u z
end
end S57

set_option Elab.async false
set_option linter.all false
set_option maxRecDepth 100000
set_option maxHeartbeats 4000000
namespace S57
open PySem PySem.Spec PyProof.Rows L2 L2H HotX
section
variable {X : Cx} {pins : List (Addr × Obj)} {σ : L2.St} {H : Hp} {s : Shared}
/-- the namespace of the frame changed at one name -/
theorem inv_gone {i : Nat} {n : Str} {h' : Heap} {v : Option Value} {t : Nat} {m : Str → Option Value} (I : Inv X pins σ H s) (hN : X.N.Nodup) (hi : X.N[i]? = some n)
    (hlk : ∀ (j : Nat) (x : Str) (w : V), X.N[j]? = some x → σ[j]? = some (some w) → Vis X.env.scope x → ∃ u, RelV w u ∧ Look X.env s.heap m x u)
    (hn : h'.Ns X.env.locals (fun x => if x = n then v else m x)) (hs : Heap.SameBut X.env.locals s.heap h') : Inv X pins (σ.set i none) H { s with heap := h', toks := t } := by
  have low : ∀ b o, X.s_0.heap.get? b = some o → h'.get? b = s.heap.get? b := fun b o e => hs.2 b (Nat.ne_of_lt (Nat.lt_of_lt_of_le (Heap.lt_size e) I.ok.above))
  have hB : Un X.fs X.ex X.H_0 H X.s_0.heap h' := by
    constructor
    · intro b o e n1 n2 n3; rw [low b o e]; exact I.base.keep b o e n1 n2 n3
    · intro b o e n1 n2 n3; rw [low b o e]; exact I.base.slot b o e n1 n2 n3
    · exact I.base.free
    · intro b o e n1; rw [low b o e]; exact I.base.there b o e n1
    · exact I.base.tups
    · exact I.base.frzs
    · exact I.base.tbls
  have hC : ∀ c u x, X.env.cells.lookup x = some c → s.heap.IsCell c u → h'.IsCell c u := fun c u x e z => z.sameBut hs (I.cne x c e)
  constructor
  · exact I.ok
  · exact I.os
  · exact I.bare
  · exact hB
  · refine ⟨_, hn, fun j y w e1 e2 e3 => ?_⟩
    have hji : j ≠ i := fun z => by
      rw [z] at e2
      by_cases q : i < σ.length
      · rw [List.getElem?_set_self q] at e2; cases e2
      · rw [List.getElem?_eq_none (by simpa using q)] at e2; cases e2
    rw [List.getElem?_set_ne (Ne.symm hji)] at e2
    obtain ⟨u, r, l⟩ := hlk j y w e1 e2 e3
    have hyn : y ≠ n := fun z => hji (nodup_ix hN e1 (z ▸ hi))
    exact ⟨u, r, l.elim (fun q => .inl ⟨q.1, (if_neg hyn).trans q.2⟩) fun ⟨q, c, q2, q3⟩ => .inr ⟨q, c, q2, hC _ _ _ q2 q3⟩⟩
  · intro x c e
    obtain ⟨u, z⟩ := I.cell x c e
    exact ⟨u, hC _ _ _ e z⟩
  · exact I.free
  · exact I.freeC
  · intro p hp
    obtain ⟨q1, q2, q3, q4⟩ := I.pin p hp
    exact ⟨(hs.2 p.1 q3).trans q1, q2, q3, q4⟩
  · intro b ob e
    refine (I.hok b ob e).stay (fun c w hc q => (hs.2 c fun z => ?_).trans q) (fun _ q => q) fun _ _ q => q
    have hf := I.free
    rw [← z] at hf
    rcases hc with hc | hc
    · rw [hc, e] at hf; cases hf
    · rw [hf] at hc; cases hc
  · rw [List.length_set]; exact I.len
theorem freed_dict {o : Obj} {es : Array DictEntry} {ep : Nat} (h : o.data = .dict es ep) : o.isFreed = false := by
  obtain ⟨c, d, dt, sl⟩ := o
  subst h
  rfl
theorem frames_gone {B h h' : Heap} {L : Addr} {o' : Obj} (hs : Heap.SameBut L h h') (ho : h'.get? L = some o') (hd : ∀ vs, o'.data ≠ .fields vs) : ∀ {l : List Env}, h.FunFrames B l → h'.FunFrames B l
  | [], _ => trivial
  | env :: r, ⟨k, ⟨L1, o, q1, q2, q3, q4⟩, q5⟩ => by
    refine ⟨k, ?_, frames_gone hs ho hd q5⟩
    by_cases e : L1 = L
    · subst e
      exact ⟨L1, o', q1, q2, ho, hd⟩
    · exact ⟨L1, o, q1, q2, (hs.2 L1 e).trans q3, q4⟩
theorem held_gone {B h h' : Heap} {l : List Env} {L a : Addr} {Z : Obj → Prop} {fl : Value} {es : Array DictEntry} {ep : Nat} {o' o : Obj} (hs : Heap.SameBut L h h') (ho : h'.get? L = some o') (hd : o'.data = .dict es ep) (hB : B.get? L = none) (hoL : h.get? L = some o) (hdL : ∀ vs, o.data ≠ .fields vs)
    (x : B.StaysIn h ∧ B.get? a = none ∧ h.FunFrames B l ∧ HandSPX.TracedZ h B a Z fl) : B.StaysIn h' ∧ B.get? a = none ∧ h'.FunFrames B l ∧ HandSPX.TracedZ h' B a Z fl := by
  obtain ⟨x1, x2, x3, oe, vs, T, oT, ts, he, hz, hde, h1, hnT, hTe, hT, hdT, h3⟩ := x
  have na : a ≠ L := fun z => by rw [z, hoL] at he; cases he; exact hdL _ hde
  have nT : T ≠ L := fun z => by rw [z, hoL] at hT; cases hT; exact hdL _ hdT
  exact ⟨fun b u e => (hs.2 b fun z => by rw [z, hB] at e; cases e).trans (x1 b u e), x2, frames_gone hs ho (fun vs q => by rw [hd] at q; cases q) x3, oe, vs, T, oT, ts, (hs.2 a na).trans he, hz, hde, h1, hnT, hTe, (hs.2 T nT).trans hT, hdT, h3⟩
end
/-- what the clause except x as n, in which a suite raises, wishes of an exception of the body -/
def wAsX (K : PySem.W.Frag) (c : Value) (i : Nat) (ts : Addr → Value → Option Addr → TS) (D : Ends) : WX := fun cls d σ H =>
  PySem.W.exmOne K cls c = some true ∧ ∀ a, H a = none → ts a cls d { nx := fun σ' H' => D.nx (σ'.set i none) H', rt := D.rt, bk := fun σ' H' => D.bk (σ'.set i none) H', ct := fun σ' H' => D.ct (σ'.set i none) H' } (σ.set i (some (.ref a))) H
section
variable {X : Cx} {x n : Str} {c : Value} {i : Nat} {body suite : List Stmt} {b₀ : Stmt} {np pos pos' : Pos} {tb : WX → TS} {ts : Addr → Value → Option Addr → TS} {Wout : WX}
/-- an exception leaves the suite, its name goes -/
theorem suite_out {a : Addr} {oe : Obj} {pins : List (Addr × Obj)} {u : Value} {s3 : Shared} {pos' : Pos} (ok : X.Ok) (hs : X.stack = X.env :: X.outer) (hf : X.env.frame = some X.env.locals) (hN : X.N.Nodup) (hi : X.N[i]? = some n) (hln : X.env.kindOf n = some .local)
    (hpa : ∀ hd : Option Value, PassesOwnAt (model X.prog X.w) (X.A.mark hd) X.A X.env X.xe) (tk : L2.Takes X Wout) (hW : ∀ cls d σ σ' H, Wout cls d σ H → Wout cls d σ' H)
    (z : L2.XE (suiteX X a ((a, oe) :: (X.pn ++ pins))) Wout u s3) {E2 E3 : Value → Shared → Prop} :
    wpAny (model X.prog X.w) (X.A.mark (some (.ref a))) (noteFrame u X.env) (fun _ s₃' => wpAny (model X.prog X.w) (X.A.mark (some (.ref a))) (do bindName X.env n .none; unbindBehindTheSuite X.env n pos')
      (fun _ s₄ => wpAny (model X.prog X.w) (X.A.mark (some (.ref a))) (PySem.passOn "try.except-as" u X.env : Sem Flow) (fun _ _ => False) (notedBy (model X.prog X.w) (X.A.mark (some (.ref a))) X.env fun x s' => cameBackBy (model X.prog X.w) X.A X.env X.xe x s') s₄) E3 s₃') E2 s3 := by
  obtain ⟨a2, B, sI, pn2, σ2, H2, cls, d, rfl, I2, nb, up, sky, na, os, ag, w2⟩ := z
  have J : Inv X pins σ2 H2 sI := unsuiteX I2 ok
  have hfr : (X.A.mark (some (.ref a))).frames = some (X.env :: X.outer) := by
    show X.A.frames = _
    rw [ok.frames, hs]
  have sky' : L2.Sky B (X.env :: X.outer) a2 (Zc cls d) X.env.locals s3.heap := by rw [← hs]; exact sky
  have go : ∀ h1, HandSPX.HeldZ B (X.env :: X.outer) a2 (Zc cls d) X.env.locals h1 → s3.heap.UpToSlots h1 → wpAny (model X.prog X.w) (X.A.mark (some (.ref a))) (do bindName X.env n .none; unbindBehindTheSuite X.env n pos')
      (fun _ s₄ => wpAny (model X.prog X.w) (X.A.mark (some (.ref a))) (PySem.passOn "try.except-as" (.ref a2) X.env : Sem Flow) (fun _ _ => False) (notedBy (model X.prog X.w) (X.A.mark (some (.ref a))) X.env fun x s' => cameBackBy (model X.prog X.w) X.A X.env X.xe x s') s₄) E3 { s3 with heap := h1 } := fun h1 held up1 => by
    have up01 := up.trans up1
    obtain ⟨m, hn, hlk⟩ := id J.loc
    have hn1 : h1.Ns X.env.locals m := up01.ns hn
    have hcls : (X.env.scope.kind == .class || (X.env.scope.kind == .module && X.env.locals != X.env.globals)) = false := by rw [ok.kind]; rfl
    refine wpAny_nameGoes_keeps hln hn1 hcls fun h2 v hn2 hs2 => ?_
    obtain ⟨oI, esI, epI, hoI, hdI, _⟩ := id hn
    obtain ⟨o1, es1, ep1, ho1, hd1, _⟩ := id hn1
    obtain ⟨o2, es2, ep2, ho2, hd2, rk⟩ := id hn2
    have hBL : B.get? X.env.locals = none := by
      obtain ⟨_, ⟨L, o, q1, q2, _⟩, _⟩ := held.2.2.1
      rw [hf] at q1
      cases q1
      exact q2
    have held2 := held_gone hs2 ho2 hd2 hBL ho1 (fun vs q => by rw [hd1] at q; cases q) held
    obtain ⟨oe2, vs2, T2, oT2, ts2, he2, hz2, hde2, h12, r2⟩ := id held2.2.2.2
    unfold PySem.passOn
    refine wpAny_bind (wpAny_field he2 hde2 h12 ?_)
    rw [if_neg (show ¬ ((Value.ref T2 == Value.none) = true) from by simp)]
    have fin : wpAny (model X.prog X.w) (X.A.mark (some (.ref a))) (setFlight (.ref a2) X.env.frame) (fun _ s4 => wpAny (model X.prog X.w) (X.A.mark (some (.ref a))) (throw (.ref a2) : Sem Flow) (fun _ _ => False) (notedBy (model X.prog X.w) (X.A.mark (some (.ref a))) X.env fun x s' => cameBackBy (model X.prog X.w) X.A X.env X.xe x s') s4) (notedBy (model X.prog X.w) (X.A.mark (some (.ref a))) X.env fun x s' => cameBackBy (model X.prog X.w) X.A X.env X.xe x s') { s3 with heap := h2, toks := s3.toks + 1 } := by
      rw [hf]
      refine HandSPX.setFlight_anyZ held2.1 held2.2.2.1 held2.2.2.2 fun h4 k1 k2 k3 k4 => wpAny_throw (hpa _ _ _ (tk _ _ ?_))
      have g2 : (sI.heap.update X.env.locals fun _ => o2).get? X.env.locals = some o2 := Heap.get?_update_self _ hoI (freed_dict hd2)
      refine ⟨a2, B, { sI with heap := sI.heap.update X.env.locals fun _ => o2, toks := sI.toks }, pins, σ2.set i none, H2, cls, d, rfl, inv_gone J hN hi hlk ⟨o2, es2, ep2, g2, hd2, rk⟩ (Heap.SameBut.update _ _ _), fun b o e hb => ?_, fun b o e hnf => ?_, .inr (.inr (by rw [hs]; exact ⟨k1, held2.2.1, k2, k3⟩)), na, os, ag, hW _ _ _ _ _ w2⟩
      · have hbL : b ≠ X.env.locals := fun q => hb (by rw [q, hs]; exact List.mem_filterMap.mpr ⟨X.env, List.mem_cons_self, hf⟩)
        have e : (sI.heap.update X.env.locals fun _ => o2).get? b = some o := e
        rw [Heap.get?_update_other _ _ (Ne.symm hbL)] at e
        exact nb b o e hb
      · have e : (sI.heap.update X.env.locals fun _ => o2).get? b = some o := e
        by_cases q : b = X.env.locals
        · subst q
          rw [g2] at e
          cases e
          exact k4 _ _ ho2 hnf
        · rw [Heap.get?_update_other _ _ (Ne.symm q)] at e
          obtain ⟨sl, e1⟩ := up01 b o e hnf
          exact k4 b { o with slots := sl } ((hs2.2 b q).trans e1) hnf
    first
      | exact wpAny_bind (wpAny_pure (wpAny_bind fin))
      | exact wpAny_bind fin
  rcases sky' with ⟨q1, q2, q3, oe', vs, q4, q5, q6, q7⟩ | fl | hh
  · exact HandSPX.look_newZ Zc.steady hfr q3 hf q4 q1 q2 q6 q7 q5 go
  · exact HandSPX.looks_onZ Zc.steady hfr hf fl go
  · exact HandSPX.againZ hf hh.2.2.2 (go s3.heap hh (Heap.UpToSlots.refl _))
end
end S57

set_option Elab.async false
set_option linter.all false
set_option maxRecDepth 100000
set_option maxHeartbeats 4000000
namespace S57
open PySem PySem.Spec PyProof.Rows L2 L2H HotX
section
variable {X : Cx} {x n : Str} {c : Value} {i : Nat} {body suite : List Stmt} {b₀ : Stmt} {np pos pos' : Pos} {tb : WX → TS} {ts : Addr → Value → Option Addr → TS} {Wout : WX}
theorem ps_try_asX (hs : X.stack = X.env :: X.outer) (hf : X.env.frame = some X.env.locals) (hN : X.N.Nodup) (hi : X.N[i]? = some n) (hln : X.env.kindOf n = some .local) (hc : Names X x c)
    (hpa : ∀ hd : Option Value, PassesOwnAt (model X.prog X.w) (X.A.mark hd) X.A X.env X.xe) (tk : L2.Takes X Wout) (hW : ∀ cls d σ σ' H, Wout cls d σ H → Wout cls d σ' H)
    (hb : ∀ (W : WX) (pn : List (Addr × Obj)) (xe : Value → Shared → Prop), L2N.Takes (X.tr pn xe) W → PassesOwn (model X.prog X.w) X.A X.env xe → PSs (X.tr pn xe) body (tb W))
    (hsu : ∀ (a : Addr) (oe : Obj) (cls : Value) (d : Option Addr) (pn : List (Addr × Obj)) (xe : Value → Shared → Prop), oe.cls = cls → L2.Takes { suiteX X a ((a, oe) :: pn) with xe := xe } Wout → Hot1 (X.A.mark (some (.ref a))) (a, oe) →
      PSs { suiteX X a ((a, oe) :: pn) with xe := xe } (b₀ :: suite) (ts a cls d)) :
    PS X (.Try body [.ExceptHandler (some (.Name x np)) (some n) (b₀ :: suite) pos'] [] [] pos) (fun D σ H => tb (wAsX X.K c i ts D) D σ H) := by
  refine ⟨fun pins s σ H D I h => ?_⟩
  have ok := I.ok
  have hfr : X.A.frames = some (X.env :: X.outer) := by rw [ok.frames, hs]
  have hloc : Loc X.env.scope n := .inl hln
  refine wpAny_Try_except ?_
  refine wpAny_mono ((hb (wAsX X.K c i ts D) (X.pn ++ pins) (fun e s₁ => wpAny (model X.prog X.w) X.A (noteFrame e X.env) (fun _ s₂ => wpAny (model X.prog X.w) X.A (setFlight e none) (fun _ s₃ =>
    wpAny (model X.prog X.w) X.A (handleBy e X.env [.ExceptHandler (some (.Name x np)) (some n) (b₀ :: suite) pos']) (SP X pins D) X.xe s₃) X.xe s₂) X.xe s₁) (fun u s' xx => ?_) PassesOwn.looking).run [] s σ H D (I.toTry _) h) (fun f s1 hsp => ?_) (fun e s1 he => he)
  · obtain ⟨a, B, sI, pins', σ', H', cls, d, rfl, J', nb, up, sky, na, os, ag, hb1, hyes⟩ := xx
    have J : Inv X pins σ' H' sI := J'.ofTry ok
    have sky' : L2.Sky B (X.env :: X.outer) a (L2N.Zn cls d) X.env.locals s'.heap := by rw [← hs]; exact sky
    show wpAny (model X.prog X.w) X.A (noteFrame (.ref a) X.env) _ _ _
    refine L2N.Sky.land L2N.Zn.steady hfr hf sky' fun h3 fl3 up3 => ?_
    have J3 : Inv X pins σ' H' { s' with heap := h3 } := J.landed nb fl3.1 (up.trans up3) os ag
    obtain ⟨oe3, vs3, he3, hz3, hd3⟩ := fl3.there
    have nfr : a ∉ frs (X.env :: X.outer) := fun hm => by
      obtain ⟨_, o', e', hnf⟩ := fl3.2.2.1.mem hm
      rw [he3] at e'; cases e'
      exact hnf _ hd3
    have nL : a ≠ X.env.locals := fun z => nfr (List.mem_filterMap.mpr ⟨X.env, List.mem_cons_self, by rw [hf, z]⟩)
    have nF : a ∉ X.fs := fun hm => by
      obtain ⟨e, he, q⟩ := List.mem_filterMap.mp hm
      exact nfr (List.mem_filterMap.mpr ⟨e, List.mem_cons_of_mem _ he, q⟩)
    have S3 := J3.suite he3 hd3 na nL nF
    refine wpAny_handleBy_cons (codeAny_handlers_test ?_) (by intro q; cases q)
    have LT : PySem.W.Looks (model X.prog X.w) h3 (typeOf (.ref a)) cls := fun A Q E s k q => wpAny_typeOf_ref (k _ _ he3) (by rw [hz3.1]; exact q)
    have LM := PySem.W.exm_one (M := model X.prog X.w) (J3.kIn) LT hb1
    have test : ∀ {Q : Value → Shared → Prop} {E : Value → Shared → Prop}, Q c { s' with heap := h3 } → wpAny (model X.prog X.w) (X.A.mark (some (.ref a))) (eval (.Name x np) X.env) Q E { s' with heap := h3 } := fun {Q E} q => by
      obtain ⟨hg, hdbg, hm | ⟨hm, hv, hnn⟩⟩ := hc
      · exact ld_glob (X := X.suite a ((a, oe3) :: (X.pn ++ pins))) S3 hg hm q hdbg
      · exact ld_blt (X := X.suite a ((a, oe3) :: (X.pn ++ pins))) S3 hg hm hv q hnn hdbg
    refine test (LM.here ?_)
    refine codeAny_handlers_suite_as ?_
    refine HandSPX.lands_againZ fl3 fun h4 fl4 up4 => ?_
    have J4 : Inv X pins σ' H' { s' with heap := h4 } := J.landed nb fl4.1 ((up.trans up3).trans up4) os ag
    obtain ⟨oe4, vs4, he4, hz4, hd4⟩ := fl4.there
    have S4 := J4.suite he4 hd4 na nL nF
    refine store_ok (X := X.suite a ((a, oe4) :: (X.pn ++ pins))) (v := .ref a) S4 hN hi hloc rfl (fun s5 S5 => ?_) (.inr hln)
    have tkS : L2.Takes { suiteX X a ((a, oe4) :: (X.pn ++ pins)) with xe := L2.XE (suiteX X a ((a, oe4) :: (X.pn ++ pins))) Wout } Wout := fun u2 s2 x2 => by
      obtain ⟨a2, B2, sI2, pn2, σ2, H2, cls2, d2, e2, I2, nb2, up2, sky2, na2, os2, ag2, w2⟩ := x2
      exact ⟨a2, B2, sI2, pn2, σ2, H2, cls2, d2, e2, Inv.unwish (X := suiteX X a ((a, oe4) :: (X.pn ++ pins))) I2, nb2, up2, sky2, na2, os2, ag2, w2⟩
    have S6 : Inv { suiteX X a ((a, oe4) :: (X.pn ++ pins)) with xe := L2.XE (suiteX X a ((a, oe4) :: (X.pn ++ pins))) Wout } [] (σ'.set i (some (.ref a))) H' s5 := Inv.wish (X := suiteX X a ((a, oe4) :: (X.pn ++ pins))) (suiteX_of S5) _
    refine wpAny_mono ((hsu a oe4 cls d (X.pn ++ pins) _ hz4.1 tkS ⟨rfl, vs4, hd4, hz4.2.2 vs4 hd4⟩).run [] s5 _ H' _ S6 (hyes a na)) (fun f s6 hsp => ?_) (fun u6 s6 z => suite_out ok hs hf hN hi hln hpa tk hW z)
    have end_ : ∀ {σ6 : L2.St} {H6 : Hp} {Q : Shared → Prop}, Inv { suiteX X a ((a, oe4) :: (X.pn ++ pins)) with xe := L2.XE (suiteX X a ((a, oe4) :: (X.pn ++ pins))) Wout } [] σ6 H6 s6 → (∀ s7, Inv X pins (σ6.set i none) H6 s7 → Q s7) →
        wpAny (model X.prog X.w) X.A (do bindName X.env n .none; unbindBehindTheSuite X.env n pos') (fun _ s7 => Q s7) X.xe s6 := fun {σ6 H6 Q} S6 hq => gone_ok (unsuiteX (Inv.unwish (X := suiteX X a ((a, oe4) :: (X.pn ++ pins))) S6) ok) hN hi hln hq
    cases f with
    | next =>
      obtain ⟨σ6, H6, S6, q6⟩ := hsp
      exact end_ S6 fun s7 J7 => ⟨_, _, J7, q6⟩
    | brk =>
      obtain ⟨σ6, H6, S6, q6⟩ := hsp
      exact end_ S6 fun s7 J7 => ⟨_, _, J7, q6⟩
    | cont =>
      obtain ⟨σ6, H6, S6, q6⟩ := hsp
      exact end_ S6 fun s7 J7 => ⟨_, _, J7, q6⟩
    | ret u =>
      obtain ⟨v6, σ6, H6, S6, r6, q6⟩ := hsp
      exact end_ S6 fun s7 J7 => ⟨_, _, _, J7, r6, q6⟩
  · cases f with
    | next =>
      obtain ⟨σ', H', J', q⟩ := hsp
      exact wpAny_execs_nil ⟨σ', H', J'.ofTry ok, q⟩
    | brk =>
      obtain ⟨σ', H', J', q⟩ := hsp
      exact ⟨σ', H', J'.ofTry ok, q⟩
    | cont =>
      obtain ⟨σ', H', J', q⟩ := hsp
      exact ⟨σ', H', J'.ofTry ok, q⟩
    | ret u =>
      obtain ⟨v, σ', H', J', r, q⟩ := hsp
      exact ⟨v, σ', H', J'.ofTry ok, r, q⟩
end
end S57

set_option Elab.async false
set_option linter.all false
set_option maxRecDepth 100000
set_option maxHeartbeats 4000000
namespace S57
open PySem PySem.Spec PyProof.Rows L2 L2H HotX
section
variable {X : Cx} {e : Expr} {es : List Expr} {ta : TA} {x : Str} {C : Addr} {p1 p2 pos : Pos} {mc : Value}
/-- D.__init__(e, ..), D an own class whose __init__ is ValueError's -/
theorem pe_ceinit {pl : Sem Bool} (hg : Gl X x) (hm : X.mg x = some (.ref C)) (r : ClX.CRead X.K C mc) (v : PySem.W.findCls X.K (.ref C) mc "__init__" = some (.val (.builtin "ValueError.__init__"))) (ha : PA X (e :: es) ta) (hdb : (x == ("__debug__" : Str)) = false := by decide)
    (hc : eval (.Call (.Attribute (.Name x p1) "__init__" p2) (e :: es) [] pos) X.env = (do
      let ov ← eval (.Name x p1) X.env
      standAt p2.atName
      let (f, first) ← holding [ov] (getMethod ov "__init__" pl)
      callWith pos f first (backTo pos (starEach (e :: es) X.env)) (backToKw pos (keywordEach [] X.env))) := by rfl)
    (he : starEach (e :: es) X.env = (false, eval e X.env) :: starEach es X.env := by rfl) (hpl : (backTo pos (starEach es X.env)).any (·.1) = false := by rfl) :
    PE X (.Call (.Attribute (.Name x p1) "__init__" p2) (e :: es) [] pos) (tVeI X.K ta) := by
  refine ⟨fun pins s σ H Q I h => ?_⟩
  refine PySem.W.methodCall_KW (ld_glob I hg hm ?_ hdb) hc
  refine PySem.W.method_cls I.kIn r.ga (PySem.W.cls_value I.kIn r.rd v (by decide +kernel) ?_)
  show wpAny _ _ (callWith pos (Value.builtin "ValueError.__init__") [] (backTo pos (starEach (e :: es) X.env)) []) _ _ _
  refine PyProof.Rows.callWith_method1 (thn (ha.run pos pins _ σ H _ (I.tok _) h) fun us s1 ⟨vs, H1, I1, r1, a, C', ws, ev, hl, T, ea, q⟩ => ?_) he hpl
  subst ev
  cases r1 with
  | @cons _ u0 _ ur ra rw' =>
    obtain rfl : u0 = Value.ref a := ra
    have hlen : ur.length ≤ sizeLine := by
      rw [← Paired.length rw', sizeLine_eq]
      omega
    exact oinit_ok T I1 ea hlen fun s' J => ⟨.non, H1, J, rfl, q⟩
end
end S57

set_option Elab.async false
set_option linter.all false
set_option maxRecDepth 100000
set_option maxHeartbeats 4000000
namespace S57
open PySem PySem.Spec PyProof.Rows L2 L2H HotX
section
variable {P : Program} {w : World} {K : Fr} {mg : Str → Option Value} {base : Heap} {CX : CXT} {k : Nat} {f : Addr} {sp : Sp} {N ps : List Str} {x qual : Str} {st : Stmt}
/-- a def of ours, called while an exception is handled -/
theorem fnHC (F : ∃ fd, FunP K x qual st f fd) (S : FnScope N ps (defScope st))
    (hb : ∀ (kV doc pm : Value) (an : Option Addr) (cdv ct : Value) (us : List Value), us.length = ps.length → bindArgs (PySem.W.fnOf x qual (defArgs st) (defBody st) (defScope st) .none kV doc pm an cdv ct) ⟨us, []⟩ = pure (ps.zip us))
    (len : ∀ vs H Q E, sp vs H Q E → vs.length = ps.length)
    (hbody : ∀ (cdv : Value) (A : Around) (outer : List Env) (s : Shared) (H : Hp) (vs : List V) (Q : VK) (E : XK) (p : Addr × Obj), Hot1 A p → RoomH k (A.deeper (envOfC qual (defScope st) s.heap.objs.size f cdv)) → sp vs H Q E →
      ∃ t, PSs (cxH CX P w K mg base N qual (defScope st) f cdv A outer s H E p) (defBody st) t ∧ t { nx := fun _ H' => Q .non H', rt := Q } (L2.start N vs) H) : ∃ fd, FnH P w K mg base CX (k + 1) f fd ps sp ∧ Binds K fd ps [] := by
  obtain ⟨fd, F⟩ := F
  have hB := F.bindsN hb
  obtain ⟨oc, od, dV, kV, doc, pm, an, cdv, ct, osl, rfl, lk, hcd, _, _⟩ := F.ex
  exact ⟨_, fn_ofH lk hcd S len fun A outer s H vs Q E p hot hr hsp => hbody cdv A outer s H vs Q E p hot hr hsp, hB⟩
end
section
variable {P : Program} {w : World} {K : Fr} {mg : Str → Option Value} {base : Heap}
def sp_EF (K : Fr) : Sp := fun vs H Q _ => ∃ (a : Addr) (i : Int), vs = [.ref a, .int i] ∧ H a = some (exo a (C_ExecutionFailed K) none) ∧ ∀ dx, H dx = none → dx ≠ a → Q .non (upd (upd H dx (exd dx [("row", .int i)])) a (exo a (C_ExecutionFailed K) (some dx)))
theorem sc_EF0 : FnScope ["self", "row"] ["self", "row"] (defScope s_ExecutionFailed_init) := ⟨rfl, rfl, rfl, by decide +kernel, rfl, by decide +kernel, by decide +kernel⟩
theorem ok_EF (T : Txt K mg w) : ∃ fd, FnH P w K mg base CX0 1 (a_ExecutionFailed_init K) fd ["self", "row"] (sp_EF K) ∧ Binds K fd ["self", "row"] [] := by
  refine fnHC (d_ExecutionFailed_init T) sc_EF0 (fun _ _ _ _ _ _ us hl => match us, hl with | [_, _], _ => rfl) (fun vs H Q E h => ?_) (fun cdv A outer s H vs Q E p hot hr h => ?_)
  · obtain ⟨a, i, rfl, _⟩ := h
    rfl
  · obtain ⟨a, i, rfl, ha, k⟩ := h
    refine ⟨_, pss_cons (ps_expr (pe_ceinit (by rfl) (g_SheetError T) (cr_SheetError T) (vi_SheetError T) (pa_cons (pv 0) (pa_cons pe_str pa_nil)))) (pss_one (ps_ost (pv 0) (pv 1))), ?_⟩
    refine ⟨_, rfl, a, C_ExecutionFailed K, [.str "a row cannot be executed"], rfl, by decide, ox_ExecutionFailed T, ha, ?_⟩
    exact ⟨_, rfl, _, rfl, a, C_ExecutionFailed K, rfl, ox_ExecutionFailed T, no_ExecutionFailed_row T, .inl ⟨ha, fun dx h1 h2 => k dx h1 h2⟩⟩
end
end S57
namespace S57
open PySem PySem.Spec PyProof.Rows L2
/-- o.m(e, ..), what it lets out told by the slots -/
def tMethRS (C : Addr) (m : Str) (sp : Sp) (E : L2.St → XK) (ta : TE) (t : TA) : TE := fun σ H Q => tMethR C m sp (E σ) ta t σ H Q
theorem pe_methRS {X : Cx} {CX : CXT} {k : Nat} {C f : Addr} {m : Str} {sp : Sp} {E : L2.St → XK} {o e : Expr} {es : List Expr} {ta : TE} {t : TA} {apos pos : Pos} {pl : Sem Bool} (he : PE X o ta) (c : Cls X.K C) (hm : Meth X.K C m f)
    (F : FnR X.prog X.w X.K X.mg X.base CX k f sp) (hr : Room k X.A) (hx : ∀ σ, PassesAt CX X σ (E σ)) (ha : PA X (e :: es) t)
    (hst : starEach (e :: es) X.env = (false, eval e X.env) :: starEach es X.env := by rfl) (hpl : (backTo pos (starEach es X.env)).any (·.1) = false := by rfl)
    (ht : eval (.Call (.Attribute o m apos) (e :: es) [] pos) X.env = (do
      let ov ← eval o X.env
      standAt apos.atName
      let (f, first) ← holding [ov] (getMethod ov m pl)
      callWith pos f first (backTo pos (starEach (e :: es) X.env)) (backToKw pos (keywordEach [] X.env))) := by rfl) :
    PE X (.Call (.Attribute o m apos) (e :: es) [] pos) (tMethRS C m sp E ta t) := by
  refine ⟨fun pins s σ H Q I h => ?_⟩
  refine PySem.W.methodCall_KW (pl := pl) (thn (he.run pins s σ H _ I h) fun u s1 ⟨x, H1, I1, rx, a, dx, fs, ex, ea, l, q⟩ => ?_) ht
  subst ex
  obtain rfl : u = Value.ref a := rx
  refine getmeth_ok I1 ea c hm l ?_
  refine PySem.W.callWith_K (first := [.ref a]) (h₀ := X.base) I.ok.mod.kin hm.kp (thn (ha.run pos pins s1 σ H1 _ I1 q) fun us s2 ⟨vs, H2, I2, r, q2⟩ => ⟨I2.kIn, ?_⟩) hst hpl
  refine wpAny_call (codeAny_mono (F X.A X.stack s2 H2 (.ref a :: us) (.ref a :: vs) Q (E σ) hr I2.env0 (.cons rfl r) q2) fun r s' hq => ?_)
  cases r with
  | error e => exact hx σ pins H2 s2 e s' I2 hq
  | ok fl =>
    cases fl with
    | ret u => exact I2.after hq
    | next => exact False.elim hq
    | brk => exact False.elim hq
    | cont => exact False.elim hq
end S57

set_option Elab.async false
set_option linter.all false
set_option maxRecDepth 100000
set_option maxHeartbeats 4000000
namespace S57
open PySem PySem.Spec PyProof.Rows L2 TL
/-! ### what a script does -/
abbrev RS := BS × List Str
def iterO (f : RS → Option RS) : Nat → RS → Option RS
  | 0, s => some s
  | n + 1, s => (f s).bind (iterO f n)
def runT : Tree → RS → Option RS
  | .nil => fun s => some s
  | .row r t => fun s => (actR s.1 s.2 r).bind (runT t)
  | .blk (.rep n) b t => fun s => (iterO (runT b) n s).bind (runT t)
  | .blk (.whn p c l) b t => fun s => (whnM s.1 p c).bind fun v => (if v = l then runT b s else some s).bind (runT t)
/-- the calls of step at the most -/
def stepsT : Tree → Nat
  | .nil => 0
  | .row _ t => 1 + stepsT t
  | .blk (.rep n) b t => 1 + n * (1 + stepsT b) + stepsT t
  | .blk (.whn _ _ _) b t => 1 + stepsT b + stepsT t
theorem Row.ok_same {D D' : PkS} {r : Row} (h : r.ok D) (a : D'.w = D.w) (b : D'.h = D.h) (c : D'.sh.length = D.sh.length) : r.ok D' := by
  cases r with
  | saw ws => exact Op.ok_same (op := .saw ws) h a b c
  | exchange p o => exact ⟨h.1, Op.ok_same (op := .exchange p o) h.2 a b c⟩
  | glue => trivial
  | over n => exact h
  | shw n => exact h
theorem Tree.ok_same {D D' : PkS} (a : D'.w = D.w) (b : D'.h = D.h) (c : D'.sh.length = D.sh.length) : ∀ {t : Tree}, t.ok D → t.ok D'
  | .nil, h => h
  | .row r t, h => ⟨Row.ok_same (r := r) h.1 a b c, Tree.ok_same a b c h.2⟩
  | .blk hd b' t, h => ⟨h.1, Tree.ok_same a b c h.2.1, Tree.ok_same a b c h.2.2⟩
/-- the shape stays -/
def SameD (S S' : BS) : Prop := S'.D.w = S.D.w ∧ S'.D.h = S.D.h ∧ S'.D.sh.length = S.D.sh.length
theorem SameD.refl (S : BS) : SameD S S := ⟨rfl, rfl, rfl⟩
theorem SameD.trans {A B C : BS} (x : SameD A B) (y : SameD B C) : SameD A C := ⟨y.1.trans x.1, y.2.1.trans x.2.1, y.2.2.trans x.2.2⟩
theorem actR_ok {S S' : BS} {outs outs' : List Str} {r : Row} (o : S.ok) (h : r.ok S.D) (e : actR S outs r = some (S', outs')) : S'.ok ∧ SameD S S' ∧ S'.past.length ≤ S.past.length + 1 ∧ outs'.length ≤ outs.length + 1 := by
  have key : ∀ {op : Op}, op.ok S.D → (opM S op).map (fun S' => (S', outs)) = some (S', outs') → S'.ok ∧ SameD S S' ∧ S'.past.length ≤ S.past.length + 1 ∧ outs'.length ≤ outs.length + 1 := fun {op} h e => by
    cases q : opM S op with
    | none => rw [q] at e; cases e
    | some S1 =>
      rw [q] at e
      cases e
      obtain ⟨a1, a2, a3, a4, a5⟩ := opM_ok o h q
      exact ⟨a1, ⟨a2, a3, a4⟩, by rw [a5]; simp, Nat.le_succ _⟩
  cases r with
  | saw ws => exact key (op := .saw ws) h e
  | exchange p od => exact key (op := .exchange p od) h.2 e
  | glue =>
    have e : some (glueM S, outs ++ [numT (lengthM S.D.w S.D.h S.ws)]) = some (S', outs') := e
    cases e
    obtain ⟨a1, a2, a3, a4, a5⟩ := opM_ok (op := .glue) o trivial rfl
    exact ⟨a1, ⟨a2, a3, a4⟩, by rw [a5]; simp, by simp⟩
  | over i => exact key (op := .over i) (by trivial) e
  | shw i =>
    have e : (S.D.sh[i]?).map (fun z => (S, outs ++ [z])) = some (S', outs') := e
    cases q : S.D.sh[i]? with
    | none => rw [q] at e; cases e
    | some z =>
      rw [q] at e
      cases e
      exact ⟨o, SameD.refl _, Nat.le_succ _, by simp⟩
end S57

set_option Elab.async false
set_option linter.all false
set_option maxRecDepth 100000
set_option maxHeartbeats 4000000
namespace S57
open PySem PySem.Spec PyProof.Rows L2 TL
/-- one item of a script ahead of the rest -/
inductive Item : Tree → Prop
  | row (r : Row) : Item (.row r .nil)
  | blk (h : Hdr) (b : Tree) : Item (.blk h b .nil)
theorem bind_some' {α : Type} (x : Option α) : x.bind some = x := by cases x <;> rfl
theorem runT_row (r : Row) (t : Tree) (s : RS) : runT (.row r t) s = (runT (.row r .nil) s).bind (runT t) := by
  show (actR s.1 s.2 r).bind (runT t) = ((actR s.1 s.2 r).bind some).bind (runT t)
  rw [bind_some']
theorem runT_blk (h : Hdr) (b t : Tree) (s : RS) : runT (.blk h b t) s = (runT (.blk h b .nil) s).bind (runT t) := by
  cases h with
  | rep n =>
    show (iterO (runT b) n s).bind (runT t) = ((iterO (runT b) n s).bind some).bind (runT t)
    rw [bind_some']
  | whn p c l =>
    show (whnM s.1 p c).bind _ = ((whnM s.1 p c).bind fun v => (if v = l then runT b s else some s).bind some).bind (runT t)
    cases whnM s.1 p c with
    | none => rfl
    | some v =>
      show (if v = l then runT b s else some s).bind (runT t) = ((if v = l then runT b s else some s).bind some).bind (runT t)
      rw [bind_some']
theorem steps_row (r : Row) (t : Tree) : stepsT (.row r t) = stepsT (.row r .nil) + stepsT t := rfl
theorem steps_blk (h : Hdr) (b t : Tree) : stepsT (.blk h b t) = stepsT (.blk h b .nil) + stepsT t := by cases h <;> rfl
/-- the machine with its bench -/
structure MAt (K : Fr) (H : Hp) (M : List Addr) (m dx b o st dst : Addr) (n : Nat) (S : BS) (outs : List Str) : Prop where
  ma : H m = some (.ins (C_Machine K) dx (maF b o n))
  bn : BnAt K H M b st dst S
  ok : S.ok
  pl : S.past.length ≤ n
  ol : outs.length ≤ n
  out : H o = some (.lst (outs.map V.str))
/-- a row's promise, in terms of what the item does -/
def sp_execute (K : Fr) (d : Nat) : Sp := fun vs H Q E => ∃ (M : List Addr) (m dx b o st dst : Addr) (n : Nat) (S : BS) (outs : List Str) (a : Addr) (N : Addr → Prop) (t : Tree), vs = [.ref m, .ref a] ∧ MAt K H M m dx b o st dst n S outs ∧ S.past.length + 1 ≤ n ∧ outs.length + 1 ≤ n ∧ (∀ x ∈ [st, o, m], N x) ∧ BlR K H N t [a] ∧ Item t ∧ t.ok S.D ∧ t.depth ≤ d ∧ n + stepsT t ≤ 301 ∧
  (∀ S' outs', runT t (S, outs) = some (S', outs') → ∀ n' H', n' + 1 ≤ n + stepsT t → Off [st, o, m] H H' → MAt K H' M m dx b o st dst n' S' outs' → SameD S S' → Q .non H') ∧ (runT t (S, outs) = none → ∀ dd H', Off [st, o, m] H H' → E (.ref (C_ExecutionFailed K)) dd H')
def sp_execute_all (K : Fr) (d : Nat) : Sp := fun vs H Q E => ∃ (M : List Addr) (m dx b o st dst : Addr) (n : Nat) (S : BS) (outs : List Str) (l : Addr) (al : List Addr) (N : Addr → Prop) (t : Tree), vs = [.ref m, .ref l] ∧ MAt K H M m dx b o st dst n S outs ∧ (∀ x ∈ [st, o, m], N x) ∧ ¬ N l ∧ H l = some (.lst (al.map V.ref)) ∧ BlR K H N t al ∧ t.ok S.D ∧ t.depth ≤ d ∧ n + stepsT t ≤ 300 ∧
  (∀ S' outs', runT t (S, outs) = some (S', outs') → ∀ n' H', n' ≤ n + stepsT t → Off [st, o, m] H H' → MAt K H' M m dx b o st dst n' S' outs' → SameD S S' → Q .non H') ∧ (runT t (S, outs) = none → ∀ dd H', Off [st, o, m] H H' → E (.ref (C_ExecutionFailed K)) dd H')
end S57

set_option Elab.async false
set_option linter.all false
set_option maxRecDepth 100000
set_option maxHeartbeats 4000000
namespace S57
open PySem PySem.Spec PyProof.Rows L2 TL
theorem MAt.step {K : Fr} {H : Hp} {M : List Addr} {m dx b o st dst : Addr} {n : Nat} {S : BS} {outs : List Str} (h : MAt K H M m dx b o st dst n S outs) : Off [st, o, m] H (upd H m (.ins (C_Machine K) dx (maF b o (n + 1)))) ∧ MAt K (upd H m (.ins (C_Machine K) dx (maF b o (n + 1)))) M m dx b o st dst (n + 1) S outs := by
  have oo : Off [m] H (upd H m (.ins (C_Machine K) dx (maF b o (n + 1)))) := Off.mut (by simp) h.ma (fun _ z => by cases z) (by intro z; cases z)
  have nom : o ≠ m := fun z => by
    have := h.out
    rw [z, h.ma] at this
    cases this
  refine ⟨oo.mono (by simp), upd_same, ?_, h.ok, Nat.le_succ_of_le h.pl, Nat.le_succ_of_le h.ol, by rw [upd_ne nom]; exact h.out⟩
  obtain ⟨dxb, f0, p0, sh0, u0, a1, a2, a3, a4, a5, a6⟩ := h.bn
  have nb : b ∉ [m] := fun z => by
    rw [List.mem_singleton.mp z, h.ma] at a1
    injection (Option.some.inj a1) with _ _ e3
    have e4 : (3 : Nat) = 1 := congrArg List.length e3
    cases e4
  have ns : st ∉ [m] := fun z => by
    have e := a2.sl.1
    rw [List.mem_singleton.mp z, h.ma] at e
    exact slO_ins (Option.some.inj e).symm
  exact ⟨dxb, f0, p0, sh0, u0, oo.old _ _ nb a1, ⟨.inr ⟨oo.old _ _ ns a2.sl.1, oo.xd _ a2.sl.2⟩, a2.2⟩, a3.off oo (fun x hx => .inr (.inl ⟨C_Machine K, dx, maF b o n, by rw [List.mem_singleton.mp hx]; exact h.ma⟩)), a4.off oo, a5, fun x hx => let ⟨u, hu⟩ := a6 x hx; oo.there _ _ hu⟩
theorem BlR.head {K : Fr} {H : Hp} {N : Addr → Prop} {D : PkS} {d : Nat} {a : Addr} {r : List Addr} : ∀ {t : Tree}, BlR K H N t (a :: r) → t.ok D → t.depth ≤ d → ∃ t1 t2, Item t1 ∧ BlR K H N t1 [a] ∧ BlR K H N t2 r ∧ t1.ok D ∧ t2.ok D ∧ t1.depth ≤ d ∧ t2.depth ≤ d ∧ stepsT t = stepsT t1 + stepsT t2 ∧ 1 ≤ stepsT t1 ∧ ∀ s, runT t s = (runT t1 s).bind (runT t2)
  | .nil, h, _, _ => by cases h
  | .row q t, ⟨a', l', e, h1, h2⟩, o, hd => by
    cases e
    exact ⟨.row q .nil, t, .row q, ⟨a, [], rfl, h1, rfl⟩, h2, ⟨o.1, trivial⟩, o.2, Nat.zero_le _, hd, rfl, Nat.le_add_right _ _, fun s => runT_row q t s⟩
  | .blk h b t, ⟨a', l', bl, lb, e, h1, h2, h3, h4, h5⟩, o, hd => by
    cases e
    have hd' : max (b.depth + 1) t.depth ≤ d := hd
    refine ⟨.blk h b .nil, t, .blk h b, ⟨a, [], bl, lb, rfl, h1, h2, h3, h4, rfl⟩, h5, ⟨o.1, o.2.1, trivial⟩, o.2.2, ?_, by omega, steps_blk h b t, ?_, fun s => runT_blk h b t s⟩
    · show max (b.depth + 1) 0 ≤ d
      omega
    · cases h with
      | rep n => show 1 ≤ 1 + n * (1 + stepsT b) + 0; omega
      | whn p c l => show 1 ≤ 1 + stepsT b + 0; omega
section
variable {P : Program} {w : World} {K : Fr} {mg : Str → Option Value} {base : Heap}
theorem sc_Machine_execute_all0 : FnScope ["self", "rows", "row"] ["self", "rows"] (defScope s_Machine_execute_all) := ⟨rfl, rfl, rfl, by decide +kernel, rfl, by decide +kernel, by decide +kernel⟩
theorem ok_execute_all_of (T : Txt K mg w) {d k : Nat} (hk : 1 ≤ k) (F : FnR P w K mg base (L2.CX P w) k (a_Machine_execute K) (sp_execute K d)) : FnR P w K mg base (L2.CX P w) (k + 1) (a_Machine_execute_all K) (sp_execute_all K d) := by
  refine fnrC (d_Machine_execute_all T) sc_Machine_execute_all0 (fun _ _ _ _ _ _ us hl => match us, hl with | [_, _], _ => rfl) (fun vs H Q E h => ?_) (fun cdv A outer s H vs Q E hr h => ?_)
  · obtain ⟨M, m, dx, b, o, st, dst, n, S, outs, l, al, N, t, rfl, _⟩ := h
    rfl
  · obtain ⟨M, m, dx, b, o, st, dst, n, S, outs, l, al, N, t, rfl, hM, hN, hl, hL, hB, ht, hd, hst, kQ, kE⟩ := h
    have tk : L2.Takes (cxOf (L2.CX P w) P w K mg base ["self", "rows", "row"] (Str.ofString "Machine.execute_all") (defScope s_Machine_execute_all) (a_Machine_execute_all K) cdv A outer s H E) (fun cls d _ H => E cls d H) := L2.takes_of rfl rfl rfl rfl
    refine ⟨_, (pss_one (ps_for (passes_of rfl) rfl (pi_list (pv 1)) (pg_name (i := 2) sc_Machine_execute_all0.nd rfl (by first | exact Or.inl rfl | exact Or.inr rfl))
    (pss_cons (ps_expr (pe_methR0 (pv 0) (cl_Machine T) (me_Machine_step T) (ok_Machine_step T) (hr.mono (by omega)) pass0))
    (pss_one (ps_expr (pe_methR (pv 0) (cl_Machine T) (me_Machine_execute T) F hr (L2.passes_call tk (fun _ _ _ _ h => h)) (pa_cons (pv 2) pa_nil))))))), ?_⟩
    refine ⟨_, rfl, l, rfl, ⟨_, SqL.of hL⟩, ?_⟩
    refine for_it (walk_list (xs := al.map V.ref)) (fun i σ H' => ∃ v2 t' n' S' outs', σ = [some (.ref m), some (.ref l), v2] ∧ Off [st, o, m] H H' ∧ MAt K H' M m dx b o st dst n' S' outs' ∧ SameD S S' ∧ BlR K H' N t' (al.drop i) ∧ t'.ok S'.D ∧ t'.depth ≤ d ∧ n' + stepsT t' ≤ n + stepsT t ∧ runT t' (S', outs') = runT t (S, outs)) ⟨none, t, n, S, outs, rfl, Off.refl _ _, hM, SameD.refl _, hB, ht, hd, Nat.le_refl _, rfl⟩ ?_ ?_ ?_
    · rintro i σ H' hi ⟨v2, t', n', S', outs', rfl, oo, _⟩
      exact SqL.of (oo.old _ _ (fun z => hl (hN _ z)) hL)
    · rintro i x σ H1' H1 hi ⟨v2, t', n', S', outs', rfl, oo, hM', hS, hB', ht', hd', hs', hr'⟩ y
      obtain ⟨rfl, hx⟩ := y
      rw [List.getElem?_map] at hx
      obtain ⟨a, ha, rfl⟩ := Option.map_eq_some_iff.mp hx
      have hdr : al.drop i = a :: al.drop (i + 1) := by
        have hi' : i < al.length := by rw [List.length_map] at hi; exact hi
        rw [List.drop_eq_getElem_cons hi']
        rw [List.getElem?_eq_getElem hi'] at ha
        rw [Option.some.inj ha]
      rw [hdr] at hB'
      obtain ⟨t1, t2, it, b1, b2, o1, o2, d1, d2, es, e1, er⟩ := hB'.head ht' hd'
      refine ⟨_, rfl, m, dx, _, rfl, hM'.ma, rfl, m, dx, b, o, n', rfl, hM'.ma, by omega, ?_⟩
      obtain ⟨o3, hM3⟩ := hM'.step
      refine ⟨_, rfl, m, dx, _, rfl, hM3.ma, rfl, _, rfl, M, m, dx, b, o, st, dst, n' + 1, S', outs', a, N, t1, rfl, hM3, Nat.succ_le_succ hM'.pl, Nat.succ_le_succ hM'.ol, hN, b1.go o3 hN (fun y hy => .inl hy), it, o1, d1, by omega, fun S2 outs2 h2 n2 H2 q1 q2 q3 q4 => ?_, fun h2 dd H2 q2 => kE ?_ dd H2 ((oo.trans o3).trans q2)⟩
      · refine ⟨_, t2, n2, S2, outs2, rfl, (oo.trans o3).trans q2, q3, hS.trans q4, b2.go (o3.trans q2) hN (fun y hy => .inl hy), Tree.ok_same q4.1 q4.2.1 q4.2.2 o2, d2, by omega, ?_⟩
        rw [← hr', er, h2]
        rfl
      · rw [← hr', er, h2]
        rfl
    · rintro σ H1 ⟨v2, t', n', S', outs', rfl, oo, hM', hS, hB', ht', hd', hs', hr'⟩
      have hnil : t' = .nil := by
        rw [List.length_map, List.drop_length] at hB'
        cases t' with
        | nil => rfl
        | row r t => obtain ⟨a, l', e, _⟩ := hB'; cases e
        | blk h b t => obtain ⟨a, l', _, _, e, _⟩ := hB'; cases e
      subst hnil
      exact kQ S' outs' hr'.symm n' H1 (Nat.le_trans (Nat.le_add_right _ _) hs') oo hM' hS
end
end S57

set_option Elab.async false
set_option linter.all false
set_option maxRecDepth 100000
set_option maxHeartbeats 4000000
namespace S57
open PySem PySem.Spec PyProof.Rows L2 L2H TL
def sp_below (K : Fr) : Nat → Sp
  | 0 => fun _ _ _ _ => False
  | d + 1 => sp_execute_all K d
section
variable {P : Program} {w : World} {K : Fr} {mg : Str → Option Value} {base : Heap}
theorem sc_Machine_execute0 : FnScope ["self", "row", "turn", "is_so", "e"] ["self", "row"] (defScope s_Machine_execute) := ⟨rfl, rfl, rfl, by decide +kernel, rfl, by decide +kernel, by decide +kernel⟩
theorem ok_execute_of (T : Txt K mg w) {d k : Nat} (hk : 8 ≤ k) (F : FnR P w K mg base (L2.CX P w) k (a_Machine_execute_all K) (sp_below K d)) : FnR P w K mg base (L2.CX P w) (k + 1) (a_Machine_execute K) (sp_execute K d) := by
  refine fnrC (d_Machine_execute T) sc_Machine_execute0 (fun _ _ _ _ _ _ us hl => match us, hl with | [_, _], _ => rfl) (fun vs H Q E h => ?_) (fun cdv A outer s H vs Q E hr h => ?_)
  · obtain ⟨M, m, dx, b, o, st, dst, n, S, outs, a, N, t, rfl, _⟩ := h
    rfl
  · obtain ⟨M, m, dx, b, o, st, dst, n, S, outs, a, N, t, rfl, hM, hp1, ho1, hN, hB, it, ht, hd, hst, kQ, kE⟩ := h
    have tk : L2.Takes (cxOf (L2.CX P w) P w K mg base ["self", "row", "turn", "is_so", "e"] (Str.ofString "Machine.execute") (defScope s_Machine_execute) (a_Machine_execute K) cdv A outer s H E) (fun cls d _ H => E cls d H) := L2.takes_of rfl rfl rfl rfl
    obtain ⟨fdE, FE, BE⟩ := ok_EF (P := P) (w := w) (mg := mg) (base := base) T
    refine ⟨_, (pss_cons (ps_if (pt_cmpR op_eq (SlX.pe_sl (pv 1)) (pe_glob rfl (Classical.choose_spec (c_REPEAT T)).1 (Classical.choose_spec (c_REPEAT T)).2) (nomark _)) (pss_cons (ps_for (passes_of rfl) rfl (pi_range1 (by rfl) (n_range T) (pa_cons (pe_ix ix_tup (SlX.pe_sl (pv 1)) pe_int (fun _ _ => rfl)) pa_nil)) (pg_name (i := 2) sc_Machine_execute0.nd rfl (by first | exact Or.inl rfl | exact Or.inr rfl))
    (pss_cons (ps_expr (pe_methR0 (pv 0) (cl_Machine T) (me_Machine_step T) (ok_Machine_step T) (hr.mono (by omega)) pass0))
    (pss_one (ps_expr (pe_methR (pv 0) (cl_Machine T) (me_Machine_execute_all T) F hr (L2.passes_call tk (fun _ _ _ _ h => h)) (pa_cons (SlX.pe_sl (pv 1)) pa_nil))))))
    (pss_one ps_retN)) pss_nil)
    (pss_cons (ps_try_asX (i := 4) (c := .ref (C_SheetError K)) (tb := fun W => tAsg (tMethRS (C_Machine K) "act" (sp_Machine_act K) (fun σ cls d H => W cls d σ H) (tVar 0) (tCons (tVar 1) tNil)) (gName 3)) (ts := fun a cls _ _ σ H => σ[4]? = some (some (.ref a)) ∧ (∀ (M : Model) (h : Heap), K.In h → PySem.W.Looks M h (isSubtype cls (.type "BaseException")) true ∧ PySem.W.Looks M h (typeOf cls) (.type "type")) ∧ tMkO (C_ExecutionFailed K) (sp_EF K) [] (tCons (SlX.tSl K (tVar 1) "number") tNil) σ H fun cls d H' => E cls d H') rfl rfl sc_Machine_execute0.nd rfl rfl ⟨by rfl, by decide, .inl (g_SheetError T)⟩ (fun hd => PassesOwnAt.leavingOf (SameStack.mark _ hd)) tk (fun _ _ _ _ _ h => h)
      (fun W pn xe tkb pob => pss_one (ps_set (i := 3) sc_Machine_execute0.nd rfl (by first | exact Or.inl rfl | exact Or.inr rfl) (pe_methRS (pv 0) (cl_Machine T) (me_Machine_act T) (ok_Machine_act T) (hr.mono (by omega)) (fun σ pins H s e s' I c => tkb e s' (L2N.XE.of_call I (fun _ _ _ h => h) c)) (pa_cons (pv 1) pa_nil))))
      (fun a oe cls d pn xe e tkS hot => by
        subst e
        exact pss_one (ps_raiseF (i := 4) (p := (a, oe)) hot List.mem_cons_self tkS (pmk5_oexH (ox_ExecutionFailed T) (fs_ExecutionFailed_init T).1 (ty_ExecutionFailed_init T) FE (roomH_mark (hr.mono (by omega)) _) ⟨(a, oe), hot, List.mem_cons_self⟩ BE pass0 (by rfl) (g_ExecutionFailed T) (pa_cons (SlX.pe_sl (pv 1)) pa_nil)) rfl rfl rfl (by decide))))
    (pss_one (ps_if (pt_val (pv 3)) (pss_one (ps_expr (pe_methR (pv 0) (cl_Machine T) (me_Machine_execute_all T) F hr (L2.passes_call tk (fun _ _ _ _ h => h)) (pa_cons (SlX.pe_sl (pv 1)) pa_nil)))) pss_nil)))), ?_⟩
    have hst' := hM.ma
    cases it with
    | row r =>
      obtain ⟨a', l', e, ⟨bl, hL⟩, _⟩ := hB
      cases e
      obtain ⟨ldx, lt, lz, li, hs, hlt, hc⟩ := hL.sl
      refine ⟨_, rfl, a, _, ldx, _, _, 1, _, rfl, hs, sc_Line T, sl_Line_head T, rfl, rfl, _, rfl, ?_⟩
      have hrep : decide (V.str r.wd.head = V.str "repeat") = false := by
        cases r <;> rfl
      rw [hrep]
      refine iteF ?_
      have h300 : n ≤ 300 := by
        have : n + (1 + 0) ≤ 301 := hst
        omega
      refine ⟨_, rfl, m, dx, _, rfl, hM.ma, rfl, _, rfl, M, m, dx, b, o, st, dst, n, S, outs, a, N, bl, r.wd, rfl, hM.ma, hM.bn, hM.ok, by omega, hM.out, by omega, hL, .inl ⟨r, rfl, ht.1, fun S' outs' h2 H' oo hB' ho' => ?_, fun h2 c H' hc' oo => ?_⟩⟩
      · obtain ⟨q1, q2, q3, q4⟩ := actR_ok hM.ok ht.1 h2
        have nmst : m ∉ [st, o] := fun z => by
          obtain ⟨dxb, f0, p0, sh0, u0, a1, a2, _⟩ := hM.bn
          simp at z
          rcases z with z | z
          · have e := a2.sl.1
            rw [← z, hM.ma] at e
            exact slO_ins (Option.some.inj e).symm
          · have e := hM.out
            rw [← z, hM.ma] at e
            cases e
        refine ⟨_, rfl, false, rfl, iteF ?_⟩
        exact kQ S' outs' (by show (actR S outs r).bind some = _; rw [h2]; rfl) n H' (Nat.le_refl _) (oo.mono (by simp)) ⟨oo.old _ _ nmst hM.ma, hB', q1, by omega, by omega, ho'⟩ q2
      · refine ⟨?_, fun a2 ha2 => ?_⟩
        · rcases hc' with rfl | rfl | rfl | rfl | rfl
          · exact xm_InvalidPattern T
          · exact xm_UnknownPiece T
          · exact xm_UnknownSheet T
          · exact xm_NotWhole T
          · exact xm_UnknownCell T
        · have hR : ∀ (M : Model) (h : Heap), K.In h → PySem.W.Looks M h (isSubtype (.ref c) (.type "BaseException")) true ∧ PySem.W.Looks M h (typeOf (.ref c)) (.type "type") := by
            rcases hc' with rfl | rfl | rfl | rfl | rfl
            · exact fun M h k => ⟨PySem.W.looks_subIn k (ex_InvalidPattern T).2.2.1, PySem.W.looks_typeIn k (ex_InvalidPattern T).2.2.2⟩
            · exact fun M h k => ⟨PySem.W.looks_subIn k (ex_UnknownPiece T).2.2.1, PySem.W.looks_typeIn k (ex_UnknownPiece T).2.2.2⟩
            · exact fun M h k => ⟨PySem.W.looks_subIn k (ex_UnknownSheet T).2.2.1, PySem.W.looks_typeIn k (ex_UnknownSheet T).2.2.2⟩
            · exact fun M h k => ⟨PySem.W.looks_subIn k (ex_NotWhole T).2.2.1, PySem.W.looks_typeIn k (ex_NotWhole T).2.2.2⟩
            · exact fun M h k => ⟨PySem.W.looks_subIn k (ex_UnknownCell T).2.2.1, PySem.W.looks_typeIn k (ex_UnknownCell T).2.2.2⟩
          refine ⟨rfl, hR, ?_⟩
          have hL' : LnAt K H' N a r.wd bl := hL.go oo (fun y hy => hN y (by simp at hy ⊢; rcases hy with h | h; exact .inl h; exact .inr (.inl h))) (fun y hy => .inl hy)
          obtain ⟨ldx', lt', lz', li', hs', _, _⟩ := hL'.sl
          refine ⟨_, rfl, a, _, ldx', _, _, 3, _, rfl, hs', sc_Line T, sl_Line_number T, rfl, (show (1 : Nat) ≤ 1000 by decide), fun e he => ?_⟩
          refine ⟨e, li', rfl, upd_same, fun ed hed hne => ⟨rfl, ed, [("row", .int li')], upd_same, by rw [upd_ne hne, upd_same], ?_, ?_⟩⟩
          · rw [upd_ne hne] at hed
            exact hed
          · refine kE (by show (actR S outs r).bind some = none; rw [h2]; rfl) _ _ ((oo.mono (by simp)).trans (Off.of fun x u hx => ?_))
            rw [upd_ne hne] at hed
            have n1 : x ≠ ed := fun z => by rw [z, hed] at hx; cases hx
            have n2 : x ≠ e := fun z => by rw [z, he] at hx; cases hx
            rw [upd_ne n1, del_ne n2, upd_ne n2, upd_ne n1, upd_ne n2]
            exact hx
    | blk h b' =>
      obtain ⟨a', l', bl, lb, e, hL, hbl, hlb, hBb, _⟩ := hB
      cases e
      obtain ⟨ldx, lt, lz, li, hs, hlt, hc⟩ := hL.sl
      refine ⟨_, rfl, a, _, ldx, _, _, 1, _, rfl, hs, sc_Line T, sl_Line_head T, rfl, rfl, _, rfl, ?_⟩
      cases d with
      | zero => exact absurd (show max (b'.depth + 1) 0 ≤ 0 from hd) (by omega)
      | succ d =>
        have hd' : b'.depth ≤ d := by
          have : max (b'.depth + 1) 0 ≤ d + 1 := hd
          omega
        cases h with
        | rep k' =>
          refine iteT ?_
          have hst2 : n + (1 + k' * (1 + stepsT b') + 0) ≤ 301 := hst
          have hk100 : k' < 100 := ht.1
          refine ⟨_, rfl, a, _, ldx, _, _, 4, _, rfl, hs, sc_Line T, sl_Line_rest T, rfl, lt, _, _, _, rfl, rfl, SqT.of hlt, atI_nat (j := 0) rfl, ?_⟩
          refine ⟨((k' : Nat) : Int), rfl, by omega, by omega, ?_⟩
          have e0 : (((k' : Nat) : Int)).toNat = k' := Int.toNat_natCast _
          rw [e0]
          refine for_range (lo := 0) (n := k') (fun i σ H' => ∃ v2 r n' S' outs', σ = [some (.ref m), some (.ref a), v2, none, none] ∧ i + r = k' ∧ Off [st, o, m] H H' ∧ MAt K H' M m dx b o st dst n' S' outs' ∧ SameD S S' ∧ n' + r * (1 + stepsT b') ≤ n + k' * (1 + stepsT b') ∧ iterO (runT b') r (S', outs') = iterO (runT b') k' (S, outs)) ⟨none, k', n, S, outs, rfl, Nat.zero_add _, Off.refl _ _, hM, SameD.refl _, Nat.le_refl _, rfl⟩ ?_ ?_
          · rintro i σ H1 hi ⟨v2, r, n', S', outs', rfl, er, oo, hM', hS, hs', hr'⟩
            cases r with
            | zero => exact absurd er (by omega)
            | succ r =>
              rw [Nat.succ_mul] at hs'
              have hL' : LnAt K H1 N a _ bl := hL.go oo hN (fun y hy => .inl hy)
              refine ⟨_, rfl, m, dx, _, rfl, hM'.ma, rfl, m, dx, b, o, n', rfl, hM'.ma, by omega, ?_⟩
              obtain ⟨o3, hM3⟩ := hM'.step
              have hL3 := hL'.go o3 hN (fun y hy => .inl hy)
              obtain ⟨ldx', lt', lz', li', hs'', _, _⟩ := hL3.sl
              refine ⟨_, rfl, m, dx, _, rfl, hM3.ma, rfl, _, rfl, a, _, ldx', _, _, 0, _, rfl, hs'', sc_Line T, sl_Line_block T, rfl, M, m, dx, b, o, st, dst, n' + 1, S', outs', bl, lb, N, b', rfl, hM3, hN, hbl, (oo.trans o3).old _ _ (fun z => hbl (hN _ z)) hlb, hBb.go (oo.trans o3) hN (fun y hy => .inl hy), Tree.ok_same hS.1 hS.2.1 hS.2.2 ht.2.1, hd', by omega, fun S2 outs2 h2 n2 H2 q1 q2 q3 q4 => ?_, fun h2 dd H2 q2 => kE ?_ dd H2 ((oo.trans o3).trans q2)⟩
              · refine ⟨_, r, n2, S2, outs2, rfl, by omega, (oo.trans o3).trans q2, q3, hS.trans q4, by omega, ?_⟩
                rw [← hr']
                show _ = (runT b' (S', outs')).bind _
                rw [h2]
                rfl
              · show (iterO (runT b') k' (S, outs)).bind some = none
                rw [← hr']
                show ((runT b' (S', outs')).bind _).bind some = none
                rw [h2]
                rfl
          · rintro σ H1 ⟨v2, r, n', S', outs', rfl, er, oo, hM', hS, hs', hr'⟩
            have er0 : r = 0 := by omega
            subst er0
            refine kQ S' outs' ?_ n' H1 (by show n' + 1 ≤ n + (1 + k' * (1 + stepsT b') + 0); omega) oo hM' hS
            show (iterO (runT b') k' (S, outs)).bind some = _
            rw [← hr']
            rfl
        | whn p c l =>
          have h300 : n ≤ 300 := by
            have : n + (1 + stepsT b' + 0) ≤ 301 := hst
            omega
          refine iteF ?_
          refine ⟨_, rfl, m, dx, _, rfl, hM.ma, rfl, _, rfl, M, m, dx, b, o, st, dst, n, S, outs, a, N, bl, _, rfl, hM.ma, hM.bn, hM.ok, by omega, hM.out, by omega, hL, .inr ⟨p, c, l, rfl, fun v hv => ?_, fun h2 c' H' hc' oo => ?_⟩⟩
          · refine ⟨_, rfl, decide (v = l), rfl, ?_⟩
            refine ite2 (fun e => ?_) (fun e => ?_)
            · have e' : v = l := of_decide_eq_true e
              refine ⟨_, rfl, m, dx, _, rfl, hM.ma, rfl, _, rfl, a, _, ldx, _, _, 0, _, rfl, hs, sc_Line T, sl_Line_block T, rfl, M, m, dx, b, o, st, dst, n, S, outs, bl, lb, N, b', rfl, hM, hN, hbl, hlb, hBb, ht.2.1, hd', by have : n + (1 + stepsT b' + 0) ≤ 301 := hst; omega, fun S2 outs2 h2 n2 H2 q1 q2 q3 q4 => ?_, fun h2 dd H2 q2 => kE ?_ dd H2 q2⟩
              · refine kQ S2 outs2 ?_ n2 H2 (by show n2 + 1 ≤ n + (1 + stepsT b' + 0); omega) q2 q3 q4
                show (whnM S p c).bind (fun v => (if v = l then runT b' (S, outs) else some (S, outs)).bind some) = _
                rw [hv]
                show (if v = l then runT b' (S, outs) else some (S, outs)).bind some = _
                rw [if_pos e', h2]
                rfl
              · show (whnM S p c).bind (fun v => (if v = l then runT b' (S, outs) else some (S, outs)).bind some) = _
                rw [hv]
                show (if v = l then runT b' (S, outs) else some (S, outs)).bind some = _
                rw [if_pos e', h2]
                rfl
            · have e' : ¬ v = l := fun z => e (decide_eq_true z)
              refine kQ S outs ?_ n H (by show n + 1 ≤ n + (1 + stepsT b' + 0); omega) (Off.refl _ _) hM (SameD.refl _)
              show (whnM S p c).bind (fun v => (if v = l then runT b' (S, outs) else some (S, outs)).bind some) = _
              rw [hv]
              show (if v = l then runT b' (S, outs) else some (S, outs)).bind some = _
              rw [if_neg e']
              rfl
          · refine ⟨?_, fun a2 ha2 => ?_⟩
            · rcases hc' with rfl | rfl | rfl | rfl | rfl
              · exact xm_InvalidPattern T
              · exact xm_UnknownPiece T
              · exact xm_UnknownSheet T
              · exact xm_NotWhole T
              · exact xm_UnknownCell T
            · have hR : ∀ (M : Model) (h : Heap), K.In h → PySem.W.Looks M h (isSubtype (.ref c') (.type "BaseException")) true ∧ PySem.W.Looks M h (typeOf (.ref c')) (.type "type") := by
                rcases hc' with rfl | rfl | rfl | rfl | rfl
                · exact fun M h k => ⟨PySem.W.looks_subIn k (ex_InvalidPattern T).2.2.1, PySem.W.looks_typeIn k (ex_InvalidPattern T).2.2.2⟩
                · exact fun M h k => ⟨PySem.W.looks_subIn k (ex_UnknownPiece T).2.2.1, PySem.W.looks_typeIn k (ex_UnknownPiece T).2.2.2⟩
                · exact fun M h k => ⟨PySem.W.looks_subIn k (ex_UnknownSheet T).2.2.1, PySem.W.looks_typeIn k (ex_UnknownSheet T).2.2.2⟩
                · exact fun M h k => ⟨PySem.W.looks_subIn k (ex_NotWhole T).2.2.1, PySem.W.looks_typeIn k (ex_NotWhole T).2.2.2⟩
                · exact fun M h k => ⟨PySem.W.looks_subIn k (ex_UnknownCell T).2.2.1, PySem.W.looks_typeIn k (ex_UnknownCell T).2.2.2⟩
              refine ⟨rfl, hR, ?_⟩
              have hL' : LnAt K H' N a _ bl := hL.go (Off.of (M := []) oo) (by simp) (fun y hy => .inl hy)
              obtain ⟨ldx', lt', lz', li', hs', _, _⟩ := hL'.sl
              refine ⟨_, rfl, a, _, ldx', _, _, 3, _, rfl, hs', sc_Line T, sl_Line_number T, rfl, (show (1 : Nat) ≤ 1000 by decide), fun e he => ?_⟩
              refine ⟨e, li', rfl, upd_same, fun ed hed hne => ⟨rfl, ed, [("row", .int li')], upd_same, by rw [upd_ne hne, upd_same], ?_, ?_⟩⟩
              · rw [upd_ne hne] at hed
                exact hed
              · refine kE (by show (whnM S p c).bind _ = none; rw [h2]; rfl) _ _ (Off.of (oo.trans fun x u hx => ?_))
                rw [upd_ne hne] at hed
                have n1 : x ≠ ed := fun z => by rw [z, hed] at hx; cases hx
                have n2 : x ≠ e := fun z => by rw [z, he] at hx; cases hx
                rw [upd_ne n1, del_ne n2, upd_ne n2, upd_ne n1, upd_ne n2]
                exact hx
end
end S57

set_option Elab.async false
set_option linter.all false
set_option maxRecDepth 100000
set_option maxHeartbeats 4000000
namespace S57
open PySem PySem.Spec PyProof.Rows L2 TL
/-- what was there stays where only new things were changed -/
theorem Off.back {M : List Addr} {H H1 H2 : Hp} (o : Off M H1 H2) (s : Same H H1) (hM : ∀ x ∈ M, H x = none) : Same H H2 := fun a u e => o.old _ _ (fun z => by rw [hM a z] at e; cases e) (s _ _ e)
def startS (D : PkS) : BS := ⟨D, List.replicate (D.w * D.h) 0, 0, []⟩
theorem startS_ok {D : PkS} (o : D.ok) : (startS D).ok := ⟨o, by simp [startS], fun x hx => by rw [List.eq_of_mem_replicate hx]; exact Nat.zero_le _⟩
section
variable {P : Program} {w : World} {K : Fr} {mg : Str → Option Value} {base : Heap}
theorem ok_exec0 (T : Txt K mg w) : FnR P w K mg base (L2.CX P w) 9 (a_Machine_execute K) (sp_execute K 0) := ok_execute_of (k := 8) T (Nat.le_refl _) (fun _ _ _ _ _ _ _ _ _ _ _ h => h.elim)
theorem ok_execA0 (T : Txt K mg w) : FnR P w K mg base (L2.CX P w) 10 (a_Machine_execute_all K) (sp_execute_all K 0) := ok_execute_all_of T (by decide) (ok_exec0 T)
theorem ok_exec1 (T : Txt K mg w) : FnR P w K mg base (L2.CX P w) 11 (a_Machine_execute K) (sp_execute K 1) := ok_execute_of (d := 1) (k := 10) T (by decide) (ok_execA0 T)
theorem ok_execA1 (T : Txt K mg w) : FnR P w K mg base (L2.CX P w) 12 (a_Machine_execute_all K) (sp_execute_all K 1) := ok_execute_all_of T (by decide) (ok_exec1 T)
theorem ok_exec2 (T : Txt K mg w) : FnR P w K mg base (L2.CX P w) 13 (a_Machine_execute K) (sp_execute K 2) := ok_execute_of (d := 2) (k := 12) T (by decide) (ok_execA1 T)
theorem ok_Machine_execute_all (T : Txt K mg w) : FnR P w K mg base (L2.CX P w) 14 (a_Machine_execute_all K) (sp_execute_all K 2) := ok_execute_all_of T (by decide) (ok_exec2 T)
def sp_run_script (K : Fr) : Sp := fun vs H Q E => ∃ (p : Addr) (D : PkS) (t : Tree), vs = [.ref p, .str (scriptT (toks t))] ∧ PkAt K H p D ∧ D.ok ∧ t.ok D ∧ t.depth ≤ 2 ∧ (toks t).length < 60 ∧ stepsT t ≤ 300 ∧
  (∀ S' outs', runT t (startS D, []) = some (S', outs') → ∀ M b o st dst r H', Same H H' → BnAt K H' M b st dst S' → S'.past.length ≤ 300 → outs'.length ≤ 300 → H' o = some (.lst (outs'.map V.str)) → H' r = some (.tup [.ref b, .ref o]) → Q (.ref r) H') ∧
  (runT t (startS D, []) = none → ∀ dd H', Same H H' → E (.ref (C_ExecutionFailed K)) dd H')
theorem sc_run_script0 : FnScope ["packet", "text", "machine"] ["packet", "text"] (defScope s_run_script) := ⟨rfl, rfl, rfl, by decide +kernel, rfl, by decide +kernel, by decide +kernel⟩
theorem ok_run_script (T : Txt K mg w) : FnR P w K mg base (L2.CX P w) 15 (a_run_script K) (sp_run_script K) := by
  refine fnrC (d_run_script T) sc_run_script0 (fun _ _ _ _ _ _ us hl => match us, hl with | [_, _], _ => rfl) (fun vs H Q E h => ?_) (fun cdv A outer s H vs Q E hr h => ?_)
  · obtain ⟨p, D, t, rfl, _⟩ := h
    rfl
  · obtain ⟨p, D, t, rfl, hp, o, ht, hd, hl, hst, k, kE⟩ := h
    have tk : L2.Takes (cxOf (L2.CX P w) P w K mg base ["packet", "text", "machine"] (Str.ofString "run_script") (defScope s_run_script) (a_run_script K) cdv A outer s H E) (fun cls d _ H => E cls d H) := L2.takes_of rfl rfl rfl rfl
    refine ⟨_, (pss_cons (ps_set (i := 2) sc_run_script0.nd rfl (by first | exact Or.inl rfl | exact Or.inr rfl) (StX.pe_makeR (mk_Machine T) (ok_Machine_init T) (hr.mono (by decide)) rfl (g_Machine T) pass0 (pa_cons (StX.pe_makeR (mk_Bench T) (ok_Bench_init T) (hr.mono (by decide)) rfl (g_Bench T) pass0 (pa_cons (pv 0) pa_nil)) pa_nil)))
    (pss_cons (ps_expr (pe_methR (pv 2) (cl_Machine T) (me_Machine_execute_all T) (ok_Machine_execute_all T) (hr.mono (by decide)) (L2.passes_call tk (fun _ _ _ _ h => h)) (pa_cons (pe_g (ok_read_script T) (hr.mono (by decide)) (g_read_script T) (kp_read_script T) pass0 (pa_cons (pv 0) (pa_cons (pv 1) pa_nil))) pa_nil)))
    (pss_one (ps_ret (pe_tup (pa_cons (pe_fld (pv 2) rfl) (pa_cons (pe_fld (pv 2) rfl) pa_nil))))))), ?_⟩
    refine ⟨_, rfl, fun b dx hb hdx hne => ?_⟩
    refine ⟨H, b, dx, p, D, rfl, hb, hdx, hne, fun c u e => by rw [upd_ne (ne_of_none e hb), upd_ne (ne_of_none e hdx)]; exact e, upd_same, by rw [upd_ne hne, upd_same], hp, o, fun st dst H1 s1 hst0 hB => ?_⟩
    refine ⟨rfl, fun m dm hm hdm hmne => ?_⟩
    have s2 : Same H1 (upd (upd H1 dm (.own m)) m (.ins (C_Machine K) dm [])) := (Same.new hdm).new' (by rw [upd_ne (Ne.symm hmne)]; exact hm)
    refine ⟨m, dm, b, rfl, upd_same, fun oo H2 hoo hm2 ho2 hx2 => ⟨rfl, ?_⟩⟩
    have hoo : upd (upd H1 dm (.own m)) m (.ins (C_Machine K) dm []) oo = none := hoo
    have hx2 : ∀ x, x ≠ m → x ≠ oo → H2 x = upd (upd H1 dm (.own m)) m (.ins (C_Machine K) dm []) x := hx2
    have hm2 : H2 m = some (.ins (C_Machine K) dm (maF b oo 0)) := hm2
    have hB : BnAt K H1 [st] b st dst (startS D) := hB
    have hoo1 : H1 oo = none := s2.free hoo
    have s3 : Same H1 H2 := fun c u e => by
      have e2 := s2 _ _ e
      rw [hx2 c (fun z => by rw [z, hm] at e; cases e) (fun z => by rw [z, hoo] at e2; cases e2)]
      exact e2
    have hB2 := hB.same s3
    have hst2 : ∃ u, H2 st = some u := by
      obtain ⟨_, _, _, _, _, _, g, _⟩ := id hB2
      exact ⟨_, g.sl.1⟩
    refine ⟨_, rfl, m, dm, _, rfl, hm2, rfl, _, rfl, _, rfl, p, D, t, rfl, hp.mono (s1.trans s3), o, ht, Nat.le_trans hd (by decide), hl, fun H3 fl al s4 hfl hfl3 hBl => ?_⟩
    have hN : ∀ x ∈ [st, oo, m], ∃ u, H2 x = some u := fun x hx => by
      simp at hx
      rcases hx with rfl | rfl | rfl
      · exact hst2
      · exact ⟨_, ho2⟩
      · exact ⟨_, hm2⟩
    have hMA : MAt K H3 [st] m dm b oo st dst 0 (startS D) [] := ⟨s4 _ _ hm2, hB2.same s4, startS_ok o, Nat.le_refl _, Nat.le_refl _, s4 _ _ ho2⟩
    have hnew : ∀ x ∈ [st, oo, m], H x = none := fun x hx => by
      simp at hx
      rcases hx with rfl | rfl | rfl
      · exact hst0
      · exact s1.free hoo1
      · exact s1.free hm
    have s04 : Same H H3 := s1.trans (s3.trans s4)
    refine ⟨[st], m, dm, b, oo, st, dst, 0, startS D, [], fl, al, (fun x => ∃ u, H2 x = some u), t, rfl, hMA, hN, (fun q => by obtain ⟨u, q⟩ := q; rw [hfl] at q; cases q), hfl3, hBl, ht, hd, by rw [Nat.zero_add]; exact hst, fun S' outs' h2 n' H4 hn' o4 hM4 hS => ?_, fun h2 dd H4 o4 => kE h2 dd H4 (o4.back s04 hnew)⟩
    obtain ⟨dxb, f0, p0, sh0, u0, a1, _⟩ := id hM4.bn
    refine ⟨_, rfl, m, _, _, _, _, rfl, hM4.ma, cl_Machine T, na_Machine_bench T, rfl, _, rfl, m, _, _, _, _, rfl, hM4.ma, cl_Machine T, na_Machine_output T, rfl, by show 2 ≤ sizeLine; decide, fun r hr0 => ?_⟩
    have s5 : Same H4 (upd H4 r (.tup [.ref b, .ref oo])) := Same.new hr0
    exact k S' outs' h2 [st] b oo st dst r _ ((o4.back s04 hnew).trans s5) (hM4.bn.same s5) (Nat.le_trans hM4.pl (by omega)) (Nat.le_trans hM4.ol (by omega)) (s5 _ _ hM4.out) upd_same
end
end S57


set_option Elab.async false
set_option linter.all false
set_option maxRecDepth 100000
set_option maxHeartbeats 4000000
namespace S57
open PySem PySem.Spec PyProof.Rows L2 TL
/-! ### the law's trees -/
/-- the words of a row as the law holds them -/
def Wd.vals (x : Wd) : List V := .str x.head :: (natsV x.nums ++ (x.lt.map fun c => V.str (chr1 c)).toList)
def RwL (H : Hp) (N : Addr → Prop) (a : Addr) (x : Wd) : Prop := ¬ N a ∧ H a = some (.lst x.vals)
def TrL (H : Hp) (N : Addr → Prop) : Tree → List Addr → Prop
  | .nil, l => l = []
  | .row r t, l => ∃ a l', l = a :: l' ∧ RwL H N a r.wd ∧ TrL H N t l'
  | .blk h b t, l => ∃ a l' wa ba bl, l = a :: l' ∧ H a = some (.tup [.ref wa, .ref ba]) ∧ RwL H N wa h.wd ∧ ¬ N ba ∧ H ba = some (.lst (bl.map V.ref)) ∧ TrL H N b bl ∧ TrL H N t l'
def TrAt (H : Hp) (N : Addr → Prop) (a : Addr) (t : Tree) : Prop := ¬ N a ∧ ∃ l : List Addr, H a = some (.lst (l.map V.ref)) ∧ TrL H N t l
theorem not_new {H : Hp} {N N' : Addr → Prop} {a : Addr} {u : HO} (h : ¬ N a) (e : H a = some u) (hN : ∀ y, N' y → N y ∨ H y = none) : ¬ N' a := fun q => by
  rcases hN _ q with q | q
  · exact h q
  · rw [q] at e; cases e
theorem RwL.go {H H' : Hp} {N N' : Addr → Prop} {a : Addr} {x : Wd} {M : List Addr} (h : RwL H N a x) (o : Off M H H') (hM : ∀ y ∈ M, N y) (hN : ∀ y, N' y → N y ∨ H y = none) : RwL H' N' a x := ⟨not_new h.1 h.2 hN, o.old _ _ (fun q => h.1 (hM _ q)) h.2⟩
theorem TrL.go {H H' : Hp} {N N' : Addr → Prop} {M : List Addr} (o : Off M H H') (hM : ∀ y ∈ M, N y) (hN : ∀ y, N' y → N y ∨ H y = none) : ∀ {t : Tree} {l : List Addr}, TrL H N t l → TrL H' N' t l
  | .nil, _, h => h
  | .row r t, _, ⟨a, l', e, h1, h2⟩ => ⟨a, l', e, h1.go o hM hN, TrL.go o hM hN h2⟩
  | .blk h b t, _, ⟨a, l', wa, ba, bl, e, h1, h2, h3, h4, h5, h6⟩ => ⟨a, l', wa, ba, bl, e, o.tup _ _ h1, h2.go o hM hN, not_new h3 h4 hN, o.old _ _ (fun q => h3 (hM _ q)) h4, TrL.go o hM hN h5, TrL.go o hM hN h6⟩
theorem TrAt.go {H H' : Hp} {N N' : Addr → Prop} {M : List Addr} {a : Addr} {t : Tree} (h : TrAt H N a t) (o : Off M H H') (hM : ∀ y ∈ M, N y) (hN : ∀ y, N' y → N y ∨ H y = none) : TrAt H' N' a t := by
  obtain ⟨h1, l, h2, h3⟩ := h
  exact ⟨not_new h1 h2 hN, l, o.old _ _ (fun q => h1 (hM _ q)) h2, h3.go o hM hN⟩
theorem TrAt.same {H H' : Hp} {N N' : Addr → Prop} {a : Addr} {t : Tree} (h : TrAt H N a t) (s : Same H H') (hN : ∀ y, N' y → N y ∨ H y = none) : TrAt H' N' a t := h.go (Off.of (M := []) s) (fun y hy => by cases hy) hN
theorem TrL.app {H : Hp} {N : Addr → Prop} {u : Tree} {m : List Addr} (hu : TrL H N u m) : ∀ {t : Tree} {l : List Addr}, TrL H N t l → TrL H N (t.app u) (l ++ m)
  | .nil, _, h => by
    have h : _ = [] := h
    rw [h]
    exact hu
  | .row r t, _, ⟨a, l', e, h1, h2⟩ => by rw [e]; exact ⟨a, l' ++ m, rfl, h1, TrL.app hu h2⟩
  | .blk h b t, _, ⟨a, l', wa, ba, bl, e, h1, h2, h3, h4, h5, h6⟩ => by rw [e]; exact ⟨a, l' ++ m, wa, ba, bl, rfl, h1, h2, h3, h4, h5, TrL.app hu h6⟩
/-- an item of a tree in the heap -/
def ItL (H : Hp) (N : Addr → Prop) (a : Addr) (t : Tree) : Prop := TrL H N t [a]
/-- the list's items, one by one -/
theorem TrL.items {H : Hp} {N : Addr → Prop} : ∀ {t : Tree} {l : List Addr} {i : Nat} {a : Addr}, TrL H N t l → l[i]? = some a → ∃ t1 t2 t3, t = t1.app (t2.app t3) ∧ Item t2 ∧ TrL H N t1 (l.take i) ∧ TrL H N t2 [a] ∧ TrL H N t3 (l.drop (i + 1))
  | .nil, _, i, a, h, e => by
    have h : _ = [] := h
    rw [h] at e
    cases i <;> cases e
  | .row r t, _, 0, a, ⟨b, l', e, h1, h2⟩, q => by
    subst e
    cases q
    exact ⟨.nil, .row r .nil, t, rfl, .row r, rfl, ⟨a, [], rfl, h1, rfl⟩, h2⟩
  | .row r t, _, i + 1, a, ⟨b, l', e, h1, h2⟩, q => by
    subst e
    obtain ⟨t1, t2, t3, e, it, a1, a2, a3⟩ := TrL.items h2 (show l'[i]? = some a from q)
    exact ⟨.row r t1, t2, t3, by rw [e]; rfl, it, ⟨b, _, rfl, h1, a1⟩, a2, a3⟩
  | .blk h b t, _, 0, a, ⟨c, l', wa, ba, bl, e, h1, h2, h3, h4, h5, h6⟩, q => by
    subst e
    cases q
    exact ⟨.nil, .blk h b .nil, t, rfl, .blk h b, rfl, ⟨a, [], wa, ba, bl, rfl, h1, h2, h3, h4, h5, rfl⟩, h6⟩
  | .blk h b t, _, i + 1, a, ⟨c, l', wa, ba, bl, e, h1, h2, h3, h4, h5, h6⟩, q => by
    subst e
    obtain ⟨t1, t2, t3, e, it, a1, a2, a3⟩ := TrL.items h6 (show l'[i]? = some a from q)
    exact ⟨.blk h b t1, t2, t3, by rw [e]; rfl, it, ⟨c, _, wa, ba, bl, rfl, h1, h2, h3, h4, h5, a1⟩, a2, a3⟩
theorem TrL.len {H : Hp} {N : Addr → Prop} : ∀ {t : Tree} {l : List Addr}, TrL H N t l → l.length ≤ (toks t).length
  | .nil, _, h => by
    have h : _ = [] := h
    rw [h]; exact Nat.le_refl _
  | .row r t, _, ⟨a, l', e, h1, h2⟩ => by
    rw [e]
    exact Nat.succ_le_succ (TrL.len h2)
  | .blk h b t, _, ⟨c, l', wa, ba, bl, e, h1, h2, h3, h4, h5, h6⟩ => by
    rw [e]
    have := TrL.len h6
    show l'.length + 1 ≤ (toks b ++ Tok.fin :: toks t).length + 1
    rw [List.length_append, List.length_cons]
    omega
theorem depth_app : ∀ a b : Tree, (a.app b).depth = max a.depth b.depth
  | .nil, b => by show b.depth = max 0 _; omega
  | .row r t, b => by show (t.app b).depth = max t.depth _; exact depth_app t b
  | .blk h c t, b => by show max (c.depth + 1) (t.app b).depth = max (max (c.depth + 1) t.depth) _; rw [depth_app t b]; omega
theorem ok_app {D : PkS} : ∀ a b : Tree, (a.app b).ok D ↔ a.ok D ∧ b.ok D
  | .nil, b => ⟨fun h => ⟨trivial, h⟩, fun h => h.2⟩
  | .row r t, b => by
    show (r.ok D ∧ (t.app b).ok D) ↔ (r.ok D ∧ t.ok D) ∧ _
    rw [ok_app t b, and_assoc]
  | .blk h c t, b => by
    show (h.ok ∧ c.ok D ∧ (t.app b).ok D) ↔ (h.ok ∧ c.ok D ∧ t.ok D) ∧ _
    rw [ok_app t b]
    exact ⟨fun ⟨a, b, c, d⟩ => ⟨⟨a, b, c⟩, d⟩, fun ⟨⟨a, b, c⟩, d⟩ => ⟨a, b, c, d⟩⟩
theorem steps_app : ∀ a b : Tree, stepsT (a.app b) = stepsT a + stepsT b
  | .nil, b => by show stepsT b = 0 + _; omega
  | .row r t, b => by show 1 + stepsT (t.app b) = 1 + stepsT t + _; rw [steps_app t b]; omega
  | .blk h c t, b => by
    cases h with
    | rep n => show 1 + n * (1 + stepsT c) + stepsT (t.app b) = 1 + n * (1 + stepsT c) + stepsT t + _; rw [steps_app t b]; omega
    | whn p q l => show 1 + stepsT c + stepsT (t.app b) = 1 + stepsT c + stepsT t + _; rw [steps_app t b]; omega
/-! ### what a script does: what the law asks -/
theorem bind_assoc' {α β γ : Type} (x : Option α) (f : α → Option β) (g : β → Option γ) : (x.bind f).bind g = x.bind fun y => (f y).bind g := by cases x <;> rfl
theorem runT_app : ∀ (a b : Tree) (s : RS), runT (a.app b) s = (runT a s).bind (runT b)
  | .nil, b, s => rfl
  | .row r t, b, s => by
    show (actR s.1 s.2 r).bind (runT (t.app b)) = ((actR s.1 s.2 r).bind (runT t)).bind (runT b)
    rw [bind_assoc']
    exact congrArg _ (funext fun y => runT_app t b y)
  | .blk (.rep n) c t, b, s => by
    show (iterO (runT c) n s).bind (runT (t.app b)) = ((iterO (runT c) n s).bind (runT t)).bind (runT b)
    rw [bind_assoc']
    exact congrArg _ (funext fun y => runT_app t b y)
  | .blk (.whn p q l) c t, b, s => by
    show (whnM s.1 p q).bind _ = ((whnM s.1 p q).bind _).bind (runT b)
    rw [bind_assoc']
    refine congrArg _ (funext fun v => ?_)
    show (if v = l then runT c s else some s).bind (runT (t.app b)) = ((if v = l then runT c s else some s).bind (runT t)).bind (runT b)
    rw [bind_assoc']
    exact congrArg _ (funext fun y => runT_app t b y)
def Tree.times (u : Tree) : Nat → Tree
  | 0 => .nil
  | n + 1 => u.app (u.times n)
/-- repeats written out -/
def rolledM : Tree → Tree
  | .nil => .nil
  | .row r t => .row r (rolledM t)
  | .blk (.rep n) b t => ((rolledM b).times n).app (rolledM t)
  | .blk (.whn p c l) b t => .blk (.whn p c l) (rolledM b) (rolledM t)
theorem run_times (u : Tree) : ∀ (n : Nat) (s : RS), runT (u.times n) s = iterO (runT u) n s
  | 0, s => rfl
  | n + 1, s => by
    show runT (u.app (u.times n)) s = (runT u s).bind (iterO (runT u) n)
    rw [runT_app]
    exact congrArg _ (funext fun y => run_times u n y)
theorem run_rolled : ∀ (t : Tree) (s : RS), runT (rolledM t) s = runT t s
  | .nil, s => rfl
  | .row r t, s => by
    show (actR s.1 s.2 r).bind (runT (rolledM t)) = (actR s.1 s.2 r).bind (runT t)
    exact congrArg _ (funext fun y => run_rolled t y)
  | .blk (.rep n) b t, s => by
    show runT (((rolledM b).times n).app (rolledM t)) s = (iterO (runT b) n s).bind (runT t)
    rw [runT_app, run_times, show runT (rolledM b) = runT b from funext fun y => run_rolled b y]
    exact congrArg _ (funext fun y => run_rolled t y)
  | .blk (.whn p c l) b t, s => by
    show (whnM s.1 p c).bind (fun v => (if v = l then runT (rolledM b) s else some s).bind (runT (rolledM t))) = (whnM s.1 p c).bind (fun v => (if v = l then runT b s else some s).bind (runT t))
    rw [run_rolled b s, show runT (rolledM t) = runT t from funext fun y => run_rolled t y]
theorem times_ok {D : PkS} {u : Tree} (h : u.ok D) : ∀ n, (u.times n).ok D
  | 0 => trivial
  | n + 1 => (ok_app _ _).mpr ⟨h, times_ok h n⟩
theorem times_depth {u : Tree} {d : Nat} (h : u.depth ≤ d) : ∀ n, (u.times n).depth ≤ d
  | 0 => Nat.zero_le _
  | n + 1 => by
    show (u.app (u.times n)).depth ≤ d
    rw [depth_app]
    have := times_depth h n
    omega
theorem rolled_ok {D : PkS} : ∀ {t : Tree}, t.ok D → (rolledM t).ok D
  | .nil, h => h
  | .row r t, h => ⟨h.1, rolled_ok h.2⟩
  | .blk (.rep n) b t, h => (ok_app _ _).mpr ⟨times_ok (rolled_ok h.2.1) n, rolled_ok h.2.2⟩
  | .blk (.whn p c l) b t, h => ⟨h.1, rolled_ok h.2.1, rolled_ok h.2.2⟩
theorem rolled_depth : ∀ t : Tree, (rolledM t).depth ≤ t.depth
  | .nil => Nat.le_refl _
  | .row r t => rolled_depth t
  | .blk (.rep n) b t => by
    show (((rolledM b).times n).app (rolledM t)).depth ≤ max (b.depth + 1) t.depth
    rw [depth_app]
    have h1 := times_depth (rolled_depth b) n
    have h2 := rolled_depth t
    omega
  | .blk (.whn p c l) b t => by
    show max ((rolledM b).depth + 1) (rolledM t).depth ≤ max (b.depth + 1) t.depth
    have h1 := rolled_depth b
    have h2 := rolled_depth t
    omega
/-- no repeats -/
def NoRep : Tree → Prop
  | .nil => True
  | .row _ t => NoRep t
  | .blk (.rep _) _ _ => False
  | .blk (.whn _ _ _) b t => NoRep b ∧ NoRep t
theorem noRep_app : ∀ {a b : Tree}, NoRep a → NoRep b → NoRep (a.app b)
  | .nil, _, _, h => h
  | .row r t, b, h, k => noRep_app (a := t) h k
  | .blk (.rep _) _ _, _, h, _ => h.elim
  | .blk (.whn _ _ _) c t, b, h, k => ⟨h.1, noRep_app (a := t) h.2 k⟩
theorem noRep_times {u : Tree} (h : NoRep u) : ∀ n, NoRep (u.times n)
  | 0 => trivial
  | n + 1 => noRep_app h (noRep_times h n)
theorem noRep_rolled : ∀ t : Tree, NoRep (rolledM t)
  | .nil => trivial
  | .row r t => noRep_rolled t
  | .blk (.rep n) b t => noRep_app (noRep_times (noRep_rolled b) n) (noRep_rolled t)
  | .blk (.whn p c l) b t => ⟨noRep_rolled b, noRep_rolled t⟩
theorem noRep_steps : ∀ {t : Tree}, NoRep t → stepsT t ≤ (toks t).length
  | .nil, _ => Nat.le_refl _
  | .row r t, h => by
    have := noRep_steps (t := t) h
    show 1 + stepsT t ≤ (toks t).length + 1
    omega
  | .blk (.rep _) _ _, h => h.elim
  | .blk (.whn _ _ _) b t, h => by
    have h1 := noRep_steps (t := b) h.1
    have h2 := noRep_steps (t := t) h.2
    show 1 + stepsT b + stepsT t ≤ (toks b ++ Tok.fin :: toks t).length + 1
    rw [List.length_append, List.length_cons]
    omega
/-- how many items at the top -/
def Tree.cnt : Tree → Nat
  | .nil => 0
  | .row _ t => t.cnt + 1
  | .blk _ _ t => t.cnt + 1
/-- at most so many items at each place, repeats at most three times -/
def Slim : Nat → Tree → Prop
  | _, .nil => True
  | d, .row _ t => Slim d t
  | 0, .blk _ _ _ => False
  | d + 1, .blk h b t => Slim d b ∧ b.cnt ≤ 4 ∧ (∀ n, h = .rep n → n ≤ 3) ∧ Slim (d + 1) t
theorem toks_times (u : Tree) : ∀ n, (toks (u.times n)).length = n * (toks u).length
  | 0 => by simp [Tree.times, toks]
  | n + 1 => by
    show (toks (u.app (u.times n))).length = _
    rw [toks_app, List.length_append, toks_times u n, Nat.succ_mul]
    omega
theorem slim_steps0 : ∀ {t : Tree}, Slim 0 t → stepsT t ≤ (toks (rolledM t)).length ∧ (toks (rolledM t)).length ≤ t.cnt ∧ (toks t).length ≤ t.cnt
  | .nil, _ => ⟨Nat.le_refl _, Nat.le_refl _, Nat.le_refl _⟩
  | .row r t, h => by
    obtain ⟨h1, h2, h3⟩ := slim_steps0 (t := t) h
    refine ⟨?_, Nat.succ_le_succ h2, Nat.succ_le_succ h3⟩
    show 1 + stepsT t ≤ (toks (rolledM t)).length + 1
    omega
theorem slim_step {d c L : Nat} (hb : ∀ b : Tree, Slim d b → b.cnt ≤ 4 → stepsT b ≤ (toks (rolledM b)).length + c ∧ (toks (rolledM b)).length ≤ L ∧ (toks b).length ≤ L) :
    ∀ t : Tree, Slim (d + 1) t → stepsT t ≤ (toks (rolledM t)).length + t.cnt * (4 + 3 * c) ∧ (toks (rolledM t)).length ≤ t.cnt * (3 * L + 2) ∧ (toks t).length ≤ t.cnt * (3 * L + 2)
  | .nil, _ => ⟨Nat.zero_le _, Nat.zero_le _, Nat.zero_le _⟩
  | .row r t, h => by
    obtain ⟨h1, h2, h3⟩ := slim_step hb t h
    refine ⟨?_, ?_, ?_⟩
    · show 1 + stepsT t ≤ (toks (rolledM t)).length + 1 + (t.cnt + 1) * (4 + 3 * c)
      rw [Nat.succ_mul]
      omega
    · show (toks (rolledM t)).length + 1 ≤ (t.cnt + 1) * (3 * L + 2)
      rw [Nat.succ_mul]
      omega
    · show (toks t).length + 1 ≤ (t.cnt + 1) * (3 * L + 2)
      rw [Nat.succ_mul]
      omega
  | .blk (.rep n) b t, h => by
    obtain ⟨g1, g2, g3, g4⟩ := h
    obtain ⟨h1, h2, h3⟩ := slim_step hb t g4
    obtain ⟨b1, b2, b3⟩ := hb b g1 g2
    have hn := g3 n rfl
    refine ⟨?_, ?_, ?_⟩
    · show 1 + n * (1 + stepsT b) + stepsT t ≤ (toks (((rolledM b).times n).app (rolledM t))).length + (t.cnt + 1) * (4 + 3 * c)
      rw [toks_app, List.length_append, toks_times, Nat.succ_mul]
      have e1 : n * (1 + stepsT b) ≤ n * (1 + ((toks (rolledM b)).length + c)) := Nat.mul_le_mul (Nat.le_refl _) (by omega)
      have e2 : n * (1 + ((toks (rolledM b)).length + c)) = n + (n * (toks (rolledM b)).length + n * c) := by rw [Nat.mul_add, Nat.mul_add, Nat.mul_one]
      have e3 : n * c ≤ 3 * c := Nat.mul_le_mul hn (Nat.le_refl _)
      omega
    · show (toks (((rolledM b).times n).app (rolledM t))).length ≤ (t.cnt + 1) * (3 * L + 2)
      rw [toks_app, List.length_append, toks_times, Nat.succ_mul]
      have e1 : n * (toks (rolledM b)).length ≤ 3 * L := Nat.mul_le_mul hn b2
      omega
    · show (toks b ++ Tok.fin :: toks t).length + 1 ≤ (t.cnt + 1) * (3 * L + 2)
      rw [List.length_append, List.length_cons, Nat.succ_mul]
      omega
  | .blk (.whn p q l) b t, h => by
    obtain ⟨g1, g2, g3, g4⟩ := h
    obtain ⟨h1, h2, h3⟩ := slim_step hb t g4
    obtain ⟨b1, b2, b3⟩ := hb b g1 g2
    refine ⟨?_, ?_, ?_⟩
    · show 1 + stepsT b + stepsT t ≤ (toks (rolledM b) ++ Tok.fin :: toks (rolledM t)).length + 1 + (t.cnt + 1) * (4 + 3 * c)
      rw [List.length_append, List.length_cons, Nat.succ_mul]
      omega
    · show (toks (rolledM b) ++ Tok.fin :: toks (rolledM t)).length + 1 ≤ (t.cnt + 1) * (3 * L + 2)
      rw [List.length_append, List.length_cons, Nat.succ_mul]
      omega
    · show (toks b ++ Tok.fin :: toks t).length + 1 ≤ (t.cnt + 1) * (3 * L + 2)
      rw [List.length_append, List.length_cons, Nat.succ_mul]
      omega
theorem mul_le4 {n x : Nat} (h : n ≤ 4) : n * x ≤ 4 * x := Nat.mul_le_mul h (Nat.le_refl _)
theorem slim1 {t : Tree} (h : Slim 1 t) (hc : t.cnt ≤ 4) : stepsT t ≤ (toks (rolledM t)).length + 16 ∧ (toks (rolledM t)).length ≤ 56 ∧ (toks t).length ≤ 56 := by
  obtain ⟨a1, a2, a3⟩ := slim_step (d := 0) (c := 0) (L := 4) (fun b h hc => by
    obtain ⟨x, y, z⟩ := slim_steps0 h
    omega) t h
  have := mul_le4 (x := 4 + 3 * 0) hc
  have := mul_le4 (x := 3 * 4 + 2) hc
  omega
theorem slim2 {t : Tree} (h : Slim 2 t) (hc : t.cnt ≤ 4) : stepsT t ≤ (toks (rolledM t)).length + 208 ∧ (toks (rolledM t)).length ≤ 680 ∧ (toks t).length ≤ 680 := by
  obtain ⟨a1, a2, a3⟩ := slim_step (d := 1) (c := 16) (L := 56) (fun b h hc => slim1 h hc) t h
  have := mul_le4 (x := 4 + 3 * 16) hc
  have := mul_le4 (x := 3 * 56 + 2) hc
  omega
theorem slim_depth : ∀ {d : Nat} {t : Tree}, Slim d t → t.depth ≤ d
  | _, .nil, _ => Nat.zero_le _
  | 0, .row r t, h => slim_depth (t := t) h
  | d + 1, .row r t, h => slim_depth (t := t) h
  | d + 1, .blk h b t, g => by
    have h1 := slim_depth g.1
    have h2 := slim_depth (t := t) g.2.2.2
    show max (b.depth + 1) t.depth ≤ d + 1
    omega
theorem slim_up : ∀ {d : Nat} {t : Tree}, Slim d t → Slim (d + 1) t
  | _, .nil, _ => by simp only [Slim]
  | 0, .row r t, h => slim_up (t := t) h
  | d + 1, .row r t, h => slim_up (t := t) h
  | d + 1, .blk h b t, g => ⟨slim_up g.1, g.2.1, g.2.2.1, slim_up (t := t) g.2.2.2⟩
theorem slim_app : ∀ {d : Nat} {a b : Tree}, Slim d a → Slim d b → Slim d (a.app b)
  | _, .nil, _, _, h => h
  | 0, .row r t, b, h, k => slim_app (a := t) h k
  | d + 1, .row r t, b, h, k => slim_app (a := t) h k
  | d + 1, .blk h c t, b, g, k => ⟨g.1, g.2.1, g.2.2.1, slim_app (a := t) g.2.2.2 k⟩
theorem cnt_app : ∀ a b : Tree, (a.app b).cnt = a.cnt + b.cnt
  | .nil, b => by show b.cnt = 0 + _; omega
  | .row r t, b => by show (t.app b).cnt + 1 = t.cnt + 1 + _; rw [cnt_app t b]; omega
  | .blk h c t, b => by show (t.app b).cnt + 1 = t.cnt + 1 + _; rw [cnt_app t b]; omega
end S57

set_option Elab.async false
set_option linter.all false
set_option maxRecDepth 100000
set_option maxHeartbeats 4000000
namespace S57
open PySem PySem.Spec PyProof.Rows L2 TL
/-! ### what stays so while a script runs -/
def Let3 (D : PkS) : Prop := ∀ s ∈ D.sh, ∀ c ∈ s.cps.toList, c ≤ 99
theorem relaid_let {D : PkS} {ws : List Nat} {os : List (List Nat)} (o : D.ok) (hl : ws.length = D.w * D.h) (hwo : ∀ x ∈ ws, x < os.length) (hos : ∀ l ∈ os, l.length = D.sh.length ∧ ∀ y ∈ l, y < D.sh.length) (h3 : Let3 D) : Let3 ⟨D.w, D.h, relaidM D.sh ws os⟩ := by
  intro z hz c hc
  obtain ⟨i, hi, rfl⟩ := List.mem_map.mp hz
  have hi := List.mem_range.mp hi
  unfold relT at hc
  rw [join_chars] at hc
  obtain ⟨k, hk, rfl⟩ := List.mem_map.mp hc
  have hk := List.mem_range.mp hk
  unfold relC
  have hwk : ws.getD k 0 = ws[k] := by rw [List.getD_eq_getElem?_getD]; simp [hk]
  have hp := hwo _ (List.getElem_mem hk)
  have hok : os.getD ws[k] [] = os[ws[k]] := by rw [List.getD_eq_getElem?_getD]; simp [hp]
  obtain ⟨h1, h2⟩ := hos _ (List.getElem_mem hp)
  have hii : i < (os[ws[k]]).length := by omega
  have hoi : (os[ws[k]]).getD i 0 = (os[ws[k]])[i] := by rw [List.getD_eq_getElem?_getD]; simp [hii]
  have hs := h2 _ (List.getElem_mem hii)
  have hsh : D.sh.getD ((os[ws[k]])[i]) ⟨#[]⟩ = D.sh[(os[ws[k]])[i]] := by rw [List.getD_eq_getElem?_getD]; simp [hs]
  rw [hwk, hok, hoi, hsh]
  have hm := List.getElem_mem hs
  have hlz := o.len _ hm
  have hkz : k < (D.sh[(os[ws[k]])[i]]).cps.toList.length := by rw [Array.length_toList]; show k < (D.sh[(os[ws[k]])[i]]).length; omega
  have hg : (D.sh[(os[ws[k]])[i]]).cps.toList.getD k 0 = (D.sh[(os[ws[k]])[i]]).cps.toList[k] := by rw [List.getD_eq_getElem?_getD, List.getElem?_eq_getElem hkz]; rfl
  rw [hg]
  exact h3 _ hm _ (List.getElem_mem hkz)
theorem over_let {D : PkS} (h3 : Let3 D) (i : Nat) : Let3 ⟨D.w, D.h, overM D i⟩ := by
  intro z hz c hc
  obtain ⟨j, hj, rfl⟩ := List.mem_map.mp hz
  have hj := List.mem_range.mp hj
  have hg : D.sh.getD j ⟨#[]⟩ = D.sh[j] := by rw [List.getD_eq_getElem?_getD, List.getElem?_eq_getElem hj]; rfl
  rw [hg] at hc
  have hm := List.getElem_mem hj
  split at hc
  · unfold mirrorM at hc
    obtain ⟨y, hy, hcy⟩ := mem_join hc
    obtain ⟨r, _, rfl⟩ := List.mem_map.mp hy
    have hcy : c ∈ ((cutS _ _ _).cps.toList.reverse.toArray).toList := hcy
    simp only [List.toList_toArray, List.mem_reverse] at hcy
    exact h3 _ hm c (cutS_sub hcy)
  · exact h3 _ hm c hc
theorem opM_let {S S' : BS} {op : Op} (o : S.ok) (h : op.ok S.D) (h3 : Let3 S.D) (e : opM S op = some S') : Let3 S'.D := by
  cases op with
  | saw ws =>
    unfold opM at e
    dsimp only at e
    split at e
    · cases e
      exact h3
    · cases e
  | exchange p od =>
    unfold opM at e
    dsimp only at e
    split at e
    · cases e
      obtain ⟨g1, g2, g3⟩ := h
      obtain ⟨q1, q2⟩ := ordersM_ok (n := S.D.sh.length) (mx := maxM S.ws) (p := p) g1 g3
      exact relaid_let o.D o.len (fun x hx => by rw [q1]; exact Nat.lt_succ_of_le (maxM_ge hx)) q2 h3
    · cases e
  | glue =>
    cases e
    exact h3
  | over i =>
    unfold opM at e
    dsimp only at e
    split at e
    · cases e
      exact over_let h3 i
    · cases e
theorem lowS_num : ∀ n, n < 100 → lowS (numT n) := by
  have : ∀ n, n < 100 → PyData.strOk (numT n) = true := by decide +kernel
  exact this
structure Keep (D : PkS) (s : RS) : Prop where
  lo : ∀ z ∈ s.2, lowS z
  ok : s.1.ok
  sd : SameD (startS D) s.1
  l3 : Let3 s.1.D
  fo : foldOps (startS D) s.1.past = some s.1
  po : ∀ op ∈ s.1.past, op.ok D
theorem keep_start {D : PkS} (o : D.ok) (h3 : Let3 D) : Keep D (startS D, []) := ⟨(fun z hz => by cases hz), startS_ok o, SameD.refl _, h3, rfl, fun op h => by cases h⟩
theorem keep_op {D : PkS} {S S' : BS} {outs outs' : List Str} {op : Op} (k : Keep D (S, outs)) (h : op.ok D) (ho : ∀ z ∈ outs', lowS z) (e : opM S op = some S') : Keep D (S', outs') := by
  have h' : op.ok S.D := Op.ok_same h k.sd.1 k.sd.2.1 k.sd.2.2
  obtain ⟨a1, a2, a3, a4, a5⟩ := opM_ok k.ok h' e
  have e1 : ((S', outs') : RS).1.past = S.past ++ [op] := a5
  refine ⟨ho, a1, k.sd.trans ⟨a2, a3, a4⟩, opM_let k.ok h' k.l3 e, ?_, fun x hx => ?_⟩
  · rw [e1, foldOps_snoc, show foldOps (startS D) S.past = some S from k.fo]
    exact e
  · rw [e1] at hx
    rcases List.mem_append.mp hx with hx | hx
    · exact k.po x hx
    · rw [List.mem_singleton.mp hx]; exact h
theorem keep_outs {D : PkS} {S : BS} {outs outs' : List Str} (k : Keep D (S, outs)) (ho : ∀ z ∈ outs', lowS z) : Keep D (S, outs') := ⟨ho, k.ok, k.sd, k.l3, k.fo, k.po⟩
theorem keep_act {D : PkS} {s s' : RS} {r : Row} (k : Keep D s) (h : r.ok D) (e : actR s.1 s.2 r = some s') : Keep D s' := by
  obtain ⟨S, outs⟩ := s
  have key : ∀ {op : Op}, op.ok D → (opM S op).map (fun S' => (S', outs)) = some s' → Keep D s' := fun {op} h e => by
    cases q : opM S op with
    | none => rw [q] at e; cases e
    | some S1 =>
      rw [q] at e
      cases e
      exact keep_op k h k.lo q
  cases r with
  | saw ws => exact key (op := .saw ws) h e
  | exchange p od => exact key (op := .exchange p od) h.2 e
  | glue =>
    have e : some (glueM S, outs ++ [numT (lengthM S.D.w S.D.h S.ws)]) = some s' := e
    cases e
    refine keep_op (op := .glue) k trivial (fun z hz => ?_) rfl
    rcases List.mem_append.mp hz with hz | hz
    · exact k.lo z hz
    · rw [List.mem_singleton.mp hz]
      exact lowS_num _ (Nat.lt_of_le_of_lt (Nat.le_trans (List.length_filter_le _ _) (sides_len12 _ k.ok.D.w3 _ k.ok.D.h2)) (by decide))
  | over i => exact key (op := .over i) (by trivial) e
  | shw i =>
    have e : (S.D.sh[i]?).map (fun z => (S, outs ++ [z])) = some s' := e
    cases q : S.D.sh[i]? with
    | none => rw [q] at e; cases e
    | some z =>
      rw [q] at e
      cases e
      refine keep_outs k fun y hy => ?_
      rcases List.mem_append.mp hy with hy | hy
      · exact k.lo y hy
      · rw [List.mem_singleton.mp hy]
        exact lowS_let (k.ok.D.let_ _ (List.mem_of_getElem? q))
theorem keep_iter {D : PkS} {f : RS → Option RS} (hf : ∀ s s', Keep D s → f s = some s' → Keep D s') : ∀ (n : Nat) (s s' : RS), Keep D s → iterO f n s = some s' → Keep D s'
  | 0, s, s', k, e => by
    cases e
    exact k
  | n + 1, s, s', k, e => by
    have e : (f s).bind (iterO f n) = some s' := e
    cases q : f s with
    | none => rw [q] at e; cases e
    | some s1 =>
      rw [q] at e
      exact keep_iter hf n s1 s' (hf s s1 k q) e
theorem keep_run {D : PkS} : ∀ (t : Tree) (s s' : RS), t.ok D → Keep D s → runT t s = some s' → Keep D s'
  | .nil, s, s', _, k, e => by
    cases e
    exact k
  | .row r t, s, s', h, k, e => by
    have e : (actR s.1 s.2 r).bind (runT t) = some s' := e
    cases q : actR s.1 s.2 r with
    | none => rw [q] at e; cases e
    | some s1 =>
      rw [q] at e
      exact keep_run t s1 s' h.2 (keep_act k h.1 q) e
  | .blk (.rep n) b t, s, s', h, k, e => by
    have e : (iterO (runT b) n s).bind (runT t) = some s' := e
    cases q : iterO (runT b) n s with
    | none => rw [q] at e; cases e
    | some s1 =>
      rw [q] at e
      exact keep_run t s1 s' h.2.2 (keep_iter (fun x y => keep_run b x y h.2.1) n s s1 k q) e
  | .blk (.whn p c l) b t, s, s', h, k, e => by
    have e : (whnM s.1 p c).bind (fun v => (if v = l then runT b s else some s).bind (runT t)) = some s' := e
    cases q : whnM s.1 p c with
    | none => rw [q] at e; cases e
    | some v =>
      rw [q] at e
      have e : (if v = l then runT b s else some s).bind (runT t) = some s' := e
      split at e
      · cases q2 : runT b s with
        | none => rw [q2] at e; cases e
        | some s1 =>
          rw [q2] at e
          exact keep_run t s1 s' h.2.2 (keep_run b s s1 h.2.1 k q2) e
      · exact keep_run t s s' h.2.2 k e
/-! ### every sheet shown behind a script -/
def moreT : Nat → Nat → Tree
  | _, 0 => .nil
  | k, n + 1 => .row (.shw k) (moreT (k + 1) n)
theorem run_more (S : BS) : ∀ (n k : Nat) (outs : List Str), k + n = S.D.sh.length → runT (moreT k n) (S, outs) = some (S, outs ++ S.D.sh.drop k)
  | 0, k, outs, e => by
    rw [List.drop_eq_nil_of_le (by omega), List.append_nil]
    rfl
  | n + 1, k, outs, e => by
    have hk : k < S.D.sh.length := by omega
    show ((S.D.sh[k]?).map fun z => (S, outs ++ [z])).bind (runT (moreT (k + 1) n)) = _
    rw [List.getElem?_eq_getElem hk]
    show runT (moreT (k + 1) n) (S, outs ++ [S.D.sh[k]]) = _
    rw [run_more S n (k + 1) _ (by omega), List.append_assoc, List.drop_eq_getElem_cons hk]
    rfl
theorem more_facts (D : PkS) : ∀ (n k : Nat), k + n ≤ 100 → (moreT k n).ok D ∧ (moreT k n).depth = 0 ∧ (toks (moreT k n)).length = n ∧ stepsT (moreT k n) = n
  | 0, k, _ => ⟨trivial, rfl, rfl, rfl⟩
  | n + 1, k, h => by
    obtain ⟨h1, h2, h3, h4⟩ := more_facts D n (k + 1) (by omega)
    exact ⟨⟨(show k < 100 by omega), h1⟩, h2, congrArg (· + 1) h3, (show 1 + stepsT (moreT (k + 1) n) = n + 1 by omega)⟩
theorem run_all_more {D : PkS} {t : Tree} {S' : BS} {outs : List Str} (ht : t.ok D) (k : Keep D (startS D, [])) (e : runT t (startS D, []) = some (S', outs)) : runT (t.app (moreT 0 D.sh.length)) (startS D, []) = some (S', outs ++ S'.D.sh) := by
  rw [runT_app, e]
  have := keep_run t _ _ ht k e
  show runT (moreT 0 D.sh.length) (S', outs) = _
  rw [run_more S' D.sh.length 0 outs (by rw [Nat.zero_add]; exact this.sd.2.2.symm)]
  rfl
/-! ### blocks that do nothing -/
def awayT : Tree := .blk (.rep 0) (.row (.over 9) .nil) (.blk (.whn 0 0 122) (.row (.shw 99) .nil) .nil)
theorem away_facts (D : PkS) : awayT.ok D ∧ awayT.depth = 1 ∧ (toks awayT).length = 6 ∧ stepsT awayT = 3 :=
  ⟨⟨(show 0 < 100 by decide), ⟨(show 9 < 100 by decide), trivial⟩, ⟨(by decide), (by decide), (by decide), (by decide)⟩, ⟨(show 99 < 100 by decide), trivial⟩, trivial⟩, rfl, rfl, rfl⟩
theorem run_away {D : PkS} {s : RS} (k : Keep D s) : runT awayT s = some s := by
  obtain ⟨S, outs⟩ := s
  show (some (S, outs)).bind (fun s => (whnM s.1 0 0).bind fun v => (if v = 122 then runT (.row (.shw 99) .nil) s else some s).bind some) = _
  show (whnM S 0 0).bind (fun v => (if v = 122 then runT (.row (.shw 99) .nil) (S, outs) else some (S, outs)).bind some) = _
  have o := k.ok
  have h0 : 0 < S.D.sh.length := o.D.n1
  have hm := List.getElem_mem h0
  have hl := o.D.len _ hm
  have hc := o.D.cells.1
  have hz : 0 < (S.D.sh[0]).cps.toList.length := by rw [Array.length_toList]; show 0 < (S.D.sh[0]).length; omega
  have e : whnM S 0 0 = some (S.D.sh[0]).cps.toList[0] := by
    unfold whnM
    rw [List.getElem?_eq_getElem h0]
    exact List.getElem?_eq_getElem hz
  rw [e]
  have := k.l3 _ hm _ (List.getElem_mem hz)
  show (if (S.D.sh[0]).cps.toList[0] = 122 then _ else _ : Option RS).bind some = _
  rw [if_neg (by omega)]
  rfl
theorem run_all_away {D : PkS} {t : Tree} (ht : t.ok D) (k : Keep D (startS D, [])) : runT (t.app awayT) (startS D, []) = runT t (startS D, []) := by
  rw [runT_app]
  cases e : runT t (startS D, []) with
  | none => rfl
  | some s => exact run_away (keep_run t _ _ ht k e)
end S57

set_option Elab.async false
set_option linter.all false
set_option maxRecDepth 100000
set_option maxHeartbeats 4000000
namespace S57
open PySem PySem.Spec PyProof.Rows L2 TL
/-- the law's row: the script, the place in it, the number that is mixed, the rest of a great cell -/
structure RwAt (K : Fr) (H : Hp) (a sc : Addr) (ns : List Int) : Prop where
  scr : SqL K H sc (ns.map V.int)
  row : ∃ (i m r : Nat), H a = some (.lst [.ref sc, .int i, .int m, .int r]) ∧ m < 2147483648
theorem RwAt.same {K : Fr} {H H' : Hp} {a sc : Addr} {ns : List Int} (h : RwAt K H a sc ns) (s : Same H H') : RwAt K H' a sc ns := ⟨s.seq h.scr, let ⟨i, m, r, e, z⟩ := h.row; ⟨i, m, r, s _ _ e, z⟩⟩
/-- the script stays where only the row is changed -/
theorem RwAt.scrOff {K : Fr} {H H' : Hp} {a sc : Addr} {ns : List Int} (h : RwAt K H a sc ns) (o : Off [a] H H') : SqL K H' sc (ns.map V.int) := by
  obtain ⟨i, m, r, e, _⟩ := h.row
  rcases h.scr with (q | ⟨z, q⟩) | q
  · refine .inl (.inl (o.old _ _ (fun y => ?_) q))
    rw [List.mem_singleton.mp y, e] at q
    have q := Option.some.inj q
    injection q with q
    cases ns with
    | nil => cases q
    | cons x t => injection q with q _; cases q
  · refine .inl (.inr ⟨z, o.old _ _ (fun y => ?_) q⟩)
    rw [List.mem_singleton.mp y, e] at q
    cases q
  · exact .inr q
theorem rw_put {K : Fr} {H H0 : Hp} {a sc : Addr} {ns : List Int} {vs : List V} (h : RwAt K H0 a sc ns) (o : Off [a] H0 H) (e : H a = some (.lst vs)) (i m r : Nat) (hm : m < 2147483648) (l : List V) (el : l = [.ref sc, .int i, .int m, .int r]) : Off [a] H0 (upd H a (.lst l)) ∧ RwAt K (upd H a (.lst l)) a sc ns := by
  have o2 : Off [a] H (upd H a (.lst l)) := Off.mut (by simp) e (fun _ z => by cases z) (fun z => by cases z)
  have o3 := o.trans o2
  exact ⟨o3, h.scrOff o3, i, m, r, by rw [upd_same, el], hm⟩
theorem fmod_is (x : Int) {n : Nat} (h : 1 ≤ n) : ∃ r : Nat, x.fmod (n : Int) = (r : Nat) ∧ r < n := by
  have h1 := Int.fmod_nonneg_of_pos x (show (0 : Int) < n by omega)
  have h2 := Int.fmod_lt_of_pos x (show (0 : Int) < n by omega)
  exact ⟨(x.fmod n).toNat, (Int.toNat_of_nonneg h1).symm, by omega⟩
section
variable {P : Program} {w : World} {K : Fr} {mg : Str → Option Value} {base : Heap}
def sp__law_taken (K : Fr) : Sp := fun vs H Q _ => ∃ (a sc : Addr) (ns : List Int) (many : Nat), vs = [.ref a, .int (many : Nat)] ∧ RwAt K H a sc ns ∧ 1 ≤ many ∧ many ≤ 1000 ∧ ∀ (r : Nat) H', r < many → Off [a] H H' → RwAt K H' a sc ns → Q (.int (r : Nat)) H'
theorem sc__law_taken0 : FnScope ["_law_row_here", "_law_many", "_law_found", "_law_cell"] ["_law_row_here", "_law_many"] (defScope s__law_taken) := ⟨rfl, rfl, rfl, by decide +kernel, rfl, by decide +kernel, by decide +kernel⟩
theorem ok__law_taken (T : Txt K mg w) : FnR P w K mg base CX0 1 (a__law_taken K) (sp__law_taken K) := by
  refine fnr0 (d__law_taken T) sc__law_taken0 (fun _ _ _ _ _ _ us hl => match us, hl with | [_, _], _ => rfl) (fun vs H Q E h => ?_) (fun cdv A outer s H vs Q E hr h => ?_)
  · obtain ⟨a, sc, ns, many, rfl, _⟩ := h
    rfl
  · obtain ⟨a, sc, ns, many, rfl, hR, m1, m2, k⟩ := h
    refine ⟨_, (pss_cons (ps_if (pt_cmpR op_gt (pe_ix ix_list (pv 0) pe_int (fun _ _ => rfl)) pe_int (nomark _)) (pss_cons (ps_set (i := 2) sc__law_taken0.nd rfl (by first | exact Or.inl rfl | exact Or.inr rfl) (pe_op op_modN (pe_callTy call_int1 (by rfl) (n_int T) (by decide +kernel) (pa_cons (pe_ix ix_list (pv 0) pe_int (fun _ _ => rfl)) pa_nil)) (pv 1)))
    (pss_cons (ps_asg (pe_op op_fdivN (pe_ix ix_list (pv 0) pe_int (fun _ _ => rfl)) (pv 1)) (pg_sub (pv 0) pe_int set_list))
    (pss_one (ps_ret (pv 2))))) pss_nil)
    (pss_cons (ps_asg (pe_op op_add (pe_ix ix_list (pv 0) pe_int (fun _ _ => rfl)) pe_int) (pg_sub (pv 0) pe_int set_list))
    (pss_cons (ps_if (pt_cmpR op_gt (pe_ix ix_list (pv 0) pe_int (fun _ _ => rfl)) (pe_callB call_len_seq (by rfl) (n_len T) boot_len (pa_cons (pe_ix ix_list (pv 0) pe_int (fun _ _ => rfl)) pa_nil)) (nomark _)) (pss_cons (ps_asg (pe_op op_modN (pe_callTy call_int1 (by rfl) (n_int T) (by decide +kernel) (pa_cons (pe_op op_add (pe_op op_mul (pe_ix ix_list (pv 0) pe_int (fun _ _ => rfl)) pe_int) pe_int) pa_nil)) pe_int) (pg_sub (pv 0) pe_int set_list))
    (pss_one (ps_ret (pe_op op_modN (pe_callTy call_int1 (by rfl) (n_int T) (by decide +kernel) (pa_cons (pe_op op_fdivN (pe_ix ix_list (pv 0) pe_int (fun _ _ => rfl)) pe_int) pa_nil)) (pv 1))))) pss_nil)
    (pss_cons (ps_set (i := 3) sc__law_taken0.nd rfl (by first | exact Or.inl rfl | exact Or.inr rfl) (pe_ix ix_list (pe_ix ix_list (pv 0) pe_int (fun _ _ => rfl)) (pe_op op_sub (pe_ix ix_list (pv 0) pe_int (fun _ _ => rfl)) pe_int) (fun _ _ => rfl)))
    (pss_cons (ps_asg (pe_op op_modN (pe_callTy call_int1 (by rfl) (n_int T) (by decide +kernel) (pa_cons (pe_op op_add (pe_op op_add (pe_op op_mul (pe_ix ix_list (pv 0) pe_int (fun _ _ => rfl)) pe_int) (pv 3)) pe_int) pa_nil)) pe_int) (pg_sub (pv 0) pe_int set_list))
    (pss_cons (ps_if (pt_cmpR op_ge (pv 3) (pe_op op_pow pe_int pe_int) (nomark _)) (pss_one (ps_asg (pe_op op_fdivN (pv 3) (pv 1)) (pg_sub (pv 0) pe_int set_list))) pss_nil)
    (pss_one (ps_ret (pe_op op_modN (pe_callTy call_int1 (by rfl) (n_int T) (by decide +kernel) (pa_cons (pv 3) pa_nil)) (pv 1)))))))))), ?_⟩
    obtain ⟨i, m, r, hA, hm⟩ := hR.row
    have mne : ((many : Nat) : Int) ≠ 0 := by omega
    have msm : ((many : Nat) : Int).natAbs < 1073741824 := by omega
    refine ⟨_, rfl, a, _, _, _, rfl, rfl, SqL.of hA, atI_nat (j := 3) rfl, _, _, rfl, rfl, _, rfl, ite2 (fun e => ?_) (fun e => ?_)⟩
    · obtain ⟨q, hq, hql⟩ := fmod_is (r : Int) m1
      refine ⟨_, rfl, a, _, _, _, rfl, rfl, SqL.of hA, atI_nat (j := 3) rfl, .inl ⟨_, rfl, _, rfl, _, _, rfl, rfl, mne, ?_⟩⟩
      show gName 2 (V.int (Int.fmod _ _)) _ _ _
      rw [hq]
      refine ⟨_, rfl, a, _, _, _, rfl, rfl, SqL.of hA, atI_nat (j := 3) rfl, _, rfl, _, _, rfl, rfl, ⟨mne, msm⟩, _, rfl, a, _, _, 3, rfl, rfl, hA, rfl, ?_⟩
      obtain ⟨o, hR'⟩ := rw_put hR (Off.refl _ _) hA i m (r / many) hm _ (by show [V.ref sc, .int i, .int m, .int ((r : Int).fdiv many)] = _; rw [← Int.ofNat_fdiv])
      exact ⟨_, rfl, k q _ hql o hR'⟩
    refine ⟨_, rfl, a, _, _, _, rfl, rfl, SqL.of hA, atI_nat (j := 1) rfl, _, _, rfl, rfl, _, rfl, a, _, _, 1, rfl, rfl, hA, rfl, ?_⟩
    obtain ⟨o1, hR1⟩ := rw_put hR (Off.refl _ _) hA (i + 1) m r hm _ rfl
    have hA1 : upd H a (.lst [.ref sc, .int ((i : Int) + 1), .int m, .int r]) a = some (.lst [.ref sc, .int ((i : Int) + 1), .int m, .int r]) := upd_same
    show tSeq _ _ _ _ (upd H a (.lst [.ref sc, .int ((i : Int) + 1), .int m, .int r]))
    have o1 : Off [a] H (upd H a (.lst [.ref sc, .int ((i : Int) + 1), .int m, .int r])) := o1
    have hR1 : RwAt K (upd H a (.lst [.ref sc, .int ((i : Int) + 1), .int m, .int r])) a sc ns := hR1
    generalize upd H a (.lst [.ref sc, .int ((i : Int) + 1), .int m, .int r]) = H1 at *
    refine ⟨_, rfl, a, _, _, _, rfl, rfl, SqL.of hA1, atI_nat (j := 1) rfl, ?_⟩
    refine ⟨_, rfl, a, _, _, _, rfl, rfl, SqL.of hA1, atI_nat (j := 0) rfl, sc, _, rfl, .inl hR1.scr, _, _, rfl, rfl, _, rfl, ite2 (fun e => ?_) (fun e => ?_)⟩
    · refine ⟨_, rfl, a, _, _, _, rfl, rfl, SqL.of hA1, atI_nat (j := 2) rfl, _, _, rfl, rfl, .inl ⟨by omega, by omega⟩, _, _, rfl, rfl, .inl ⟨_, rfl, _, _, rfl, rfl, (show (2147483647 : Int) ≠ 0 by decide), ?_⟩⟩
      obtain ⟨m', hm', hml⟩ := fmod_is ((m : Int) * 48271 + 11) (n := 2147483647) (by decide)
      have hm' : ((m : Int) * 48271 + 11).fmod 2147483647 = (m' : Nat) := hm'
      show gSub _ _ _ (V.int (Int.fmod _ _)) _ _ _
      rw [hm']
      refine ⟨_, rfl, a, _, _, 2, rfl, rfl, hA1, rfl, ?_⟩
      obtain ⟨o2, hR2⟩ := rw_put hR o1 hA1 (i + 1) m' r (by omega) _ rfl
      have hA2 : upd H1 a (.lst [.ref sc, .int ((i : Int) + 1), .int m', .int r]) a = some (.lst [.ref sc, .int ((i : Int) + 1), .int m', .int r]) := upd_same
      refine ⟨_, rfl, a, _, _, _, rfl, rfl, SqL.of hA2, atI_nat (j := 2) rfl, _, _, rfl, rfl, ⟨by decide, by decide⟩, .inl ⟨_, rfl, _, rfl, _, _, rfl, rfl, mne, ?_⟩⟩
      obtain ⟨q, hq, hql⟩ := fmod_is ((m' : Int).fdiv 7) m1
      show Q (V.int (Int.fmod _ _)) _
      rw [hq]
      exact k q _ hql o2 hR2
    have hi : i < ns.length := by
      have e := of_decide_eq_false (Bool.not_eq_true _ ▸ e)
      have e : ¬ (((ns.map V.int).length : Nat) : Int) < (i : Int) + 1 := e
      rw [List.length_map] at e
      omega
    have hcell : (ns.map V.int)[i]? = some (.int ns[i]) := by rw [List.getElem?_map, List.getElem?_eq_getElem hi]; rfl
    generalize ns[i] = cell at hcell
    refine ⟨_, rfl, a, _, _, _, rfl, rfl, SqL.of hA1, atI_nat (j := 0) rfl, ?_⟩
    refine ⟨_, rfl, a, _, _, _, rfl, rfl, SqL.of hA1, atI_nat (j := 1) rfl, _, _, rfl, rfl, ?_⟩
    have ei : ((i : Int) + 1 - 1) = ((i : Nat) : Int) := by omega
    refine ⟨sc, _, _, _, rfl, rfl, hR1.scr, (by show atI _ ((i : Int) + 1 - 1) = _; rw [ei]; exact atI_nat hcell), ?_⟩
    refine ⟨_, rfl, a, _, _, _, rfl, rfl, SqL.of hA1, atI_nat (j := 2) rfl, _, _, rfl, rfl, .inl ⟨by omega, by omega⟩, _, rfl, _, _, rfl, rfl, _, _, rfl, rfl, .inl ⟨_, rfl, _, _, rfl, rfl, (show (2147483647 : Int) ≠ 0 by decide), ?_⟩⟩
    obtain ⟨m', hm', hml⟩ := fmod_is ((m : Int) * 48271 + cell + 11) (n := 2147483647) (by decide)
    have hm' : ((m : Int) * 48271 + cell + 11).fmod 2147483647 = (m' : Nat) := hm'
    show gSub _ _ _ (V.int (Int.fmod _ _)) _ _ _
    rw [hm']
    refine ⟨_, rfl, a, _, _, 2, rfl, rfl, hA1, rfl, ?_⟩
    obtain ⟨o2, hR2⟩ := rw_put hR o1 hA1 (i + 1) m' r (by omega) _ rfl
    have hA2 : upd H1 a (.lst [.ref sc, .int ((i : Int) + 1), .int m', .int r]) a = some (.lst [.ref sc, .int ((i : Int) + 1), .int m', .int r]) := upd_same
    obtain ⟨q, hq, hql⟩ := fmod_is cell m1
    refine ⟨_, rfl, _, _, rfl, rfl, ⟨by decide, by decide, by decide⟩, _, _, rfl, rfl, _, rfl, ite2 (fun e => ?_) (fun e => ?_)⟩
    · have e := of_decide_eq_true e
      have e : (10 : Int) ^ 18 ≤ cell := e
      have hc0 : 0 ≤ cell := Int.le_trans (by decide) e
      obtain ⟨c, rfl⟩ := Int.eq_ofNat_of_zero_le hc0
      refine ⟨_, rfl, _, rfl, _, _, rfl, rfl, ⟨mne, msm⟩, _, rfl, a, _, _, 3, rfl, rfl, hA2, rfl, ?_⟩
      obtain ⟨o3, hR3⟩ := rw_put hR o2 hA2 (i + 1) m' (c / many) (by omega) _ (by show [V.ref sc, .int ((i : Int) + 1), .int m', .int ((c : Int).fdiv many)] = _; rw [← Int.ofNat_fdiv]; rfl)
      refine ⟨_, rfl, .inl ⟨_, rfl, _, rfl, _, _, rfl, rfl, mne, ?_⟩⟩
      show Q (V.int (Int.fmod _ _)) _
      rw [hq]
      exact k q _ hql o3 hR3
    · refine ⟨_, rfl, .inl ⟨_, rfl, _, rfl, _, _, rfl, rfl, mne, ?_⟩⟩
      show Q (V.int (Int.fmod _ _)) _
      rw [hq]
      exact k q _ hql o2 hR2
end
end S57


set_option Elab.async false
set_option linter.all false
set_option maxRecDepth 100000
set_option maxHeartbeats 4000000
namespace S57
open PySem PySem.Spec PyProof.Rows PySem.SeqAt L2
/-- the object of a set that has just been made -/
abbrev freshS (w : World) : Obj := { cls := .type "set", dict := none, data := .set #[] 0 (.fresh 0 0 (!w.params.followText "set-order")) }
section
variable {P : Program} {w : World} {A : Around} {E : Value → Shared → Prop} {s : Shared}
/-- what the list's numbers make of a new set -/
def FilledBy (P : Program) (w : World) (E : Value → Shared → Prop) (s : Shared) (ns : List Int) : Value → Shared → Prop := fun r s₂ =>
  r = .none ∧ ∃ h' tk c, s₂ = { s with heap := h', toks := tk } ∧ SetR w h' s.heap.objs.size (fun j => decide (j ∈ ns)) c ∧ c ≤ ns.length ∧ ∀ b o, s.heap.get? b = some o → h'.get? b = some o
theorem set_of_ints {l : Addr} {items : Array Value} (ns : List Int) {Q : Value → Shared → Prop} (hd : A.handled = none) (hl : s.heap.IsList l items) (hit : IntsAre items.toList ns) (hb : ns.length + 1 < scanBound)
    (h : ∀ (h' : Heap) (tk c : Nat), SetR w h' s.heap.objs.size (fun j => decide (j ∈ ns)) c → c ≤ ns.length → (∀ b o, s.heap.get? b = some o → h'.get? b = some o) → Q (.ref s.heap.objs.size) { s with heap := h', toks := tk }) :
    wpAny (model P w) A (call (.type "set") [.ref l]) Q E s := by
  have hsz : items.size = ns.length := by rw [← IntsAre.length hit, Array.length_toList]
  have hlt : l < s.heap.objs.size := by obtain ⟨_, e, _⟩ := hl; exact Heap.lt_size e
  obtain ⟨c0, tl0, hm0⟩ := F.called_set.mro
  have q1 := F.called_set.made
  have q2 := F.called_set.sub
  refine wpAny_call (codeAny_of_tree (show wpAny _ _ (callAny (.type "set") _) _ _ _ from wpAny_pure ⟨Code.quiet_builtin _ (by decide +kernel), codeAny_builtin F.entry_type_call ?_⟩))
  rw [Around.under_plain (weight_type_call_type "set" [.ref l] []) rfl]
  have q3 := F.called_set.notType
  have q4 := F.called_set.canCreate
  have q5 := F.typeCall_set_1 (.ref l)
  repeat (any_goals (first | assumption | wp_step))
  refine codeAny_mono (code_set_led1 (.ref l) (E := E) (Q₁ := fun v s₁ => v = .ref s.heap.objs.size ∧ s₁ = { s with heap := s.heap.push (freshS w) }) ⟨rfl, rfl⟩) fun r s₁ hr => ?_
  cases r with
  | error e => exact hr
  | ok fl =>
    cases fl with
    | next => exact hr.elim
    | brk => exact hr.elim
    | cont => exact hr.elim
    | ret obj =>
      obtain ⟨rfl, rfl⟩ := hr
      have g1 : (s.heap.push (freshS w)).get? s.heap.objs.size = some (freshS w) := Heap.get?_push_size _ rfl
      have g2 : Shared.TypeIs { s with heap := s.heap.push (freshS w) } (.ref s.heap.objs.size) "set" := ⟨_, g1, rfl⟩
      have q6 := F.called_set.init.lookup
      have q7 := F.called_set.init.bind (.ref s.heap.objs.size)
      repeat (any_goals (first | assumption | wp_step))
      refine codeAny_mono (codeAny_call_builtin (R := wants (FilledBy P w E s ns) E) F.called_set.init.plain F.entry_set_init (check_set_init_1 g2 ?_)) fun r₂ s₂ hr₂ => ?_
      · obtain ⟨ol, e1, e2, nl, e3⟩ := hl
        obtain ⟨k1, k2, k3, k4⟩ := ol
        simp only at e2 e3
        subst e2 e3
        have e1' : (s.heap.push (freshS w)).get? l = some { cls := .type "list", dict := k2, data := .seq items nl, slots := k4 } := Heap.get?_push_of_some _ e1
        have q8 := F.sub_list_set
        have q9 := F.sub_list_frozenset
        have q10 : (Value.type "list" == Value.type "dict") = false := by decide
        have hl1 : (s.heap.push (freshS w)).IsList l items := ⟨_, e1', rfl, nl, rfl⟩
        unfold Builtin.«set.__init__» noKeywords Builtin.Frozenset.updateFrom
        generalize hPI : pyIter = PI
        wp_walk
        subst hPI
        refine wpAny_pyIter_list hl1 (wpAny_bind (wpAny_runValue ?_))
        have z1 : (s.heap.push (freshS w)).objs.size = s.heap.objs.size + 1 := Heap.size_push ..
        have nI : l ≠ (s.heap.push (freshS w)).objs.size := by rw [z1]; exact Nat.ne_of_lt (Nat.lt_succ_of_lt hlt)
        have nS : s.heap.objs.size ∉ [(s.heap.push (freshS w)).objs.size, l] := by
          rw [z1]
          simp only [List.mem_cons, List.mem_singleton, List.not_mem_nil, or_false, not_or]
          exact ⟨Nat.ne_of_lt (Nat.lt_succ_self _), Nat.ne_of_gt hlt⟩
        have hv : ∀ (i : Nat) (v : Value), items[i]? = some v → ∃ k t, ns[i]? = some k ∧ v = .int k t := fun i v hv => by
          have hi : i < ns.length := by rw [← hsz]; exact (Array.getElem?_eq_some_iff.mp hv).1
          obtain ⟨t, e⟩ := PyProof.Rows.IntsAre.int_at hit i v (by rw [Array.getElem?_toList]; exact hv)
          exact ⟨ns[i], t, List.getElem?_eq_getElem hi, by rw [e, List.getD_eq_getElem?_getD, List.getElem?_eq_getElem hi] <;> rfl⟩
        have hd3 : A.in1.in1.in1.handled = none := by simp [hd]
        refine set_update_ints ((Walks.list hd3 _ l nI items).toS) s.heap.objs.size nS ns hsz hb hv (items.size - 0) 0 _ (by omega) (Nat.zero_le _) ⟨⟨_, Heap.get?_push_size _ rfl, rfl, rfl⟩, hl1.push _⟩ ⟨0, Nat.le_refl 0, setR_new_at (Heap.get?_push_of_some _ g1)⟩ ?_
        intro s' c' hm hc' hS'
        obtain ⟨h', g2', d', tk', os'⟩ := s'
        have eg : g2' = s.gens := hm.gens
        have ed : d' = s.drawn := hm.drawn
        have eo : os' = s.os := hm.os
        subst eg ed eo
        refine wpAny_pure (show wpAny _ _ (ret Value.none) _ _ _ from wpAny_pure ⟨rfl, h', tk', c', rfl, hS', by rw [← hsz]; exact hc', fun b o e => ?_⟩)
        have hb0 := Heap.lt_size e
        refine hm.heap b o ?_ (Heap.get?_push_of_some _ (Heap.get?_push_of_some _ e))
        simp only [List.mem_cons, List.mem_singleton, List.not_mem_nil, or_false, not_or]
        exact ⟨Nat.ne_of_lt hb0, by rw [z1]; exact Nat.ne_of_lt (Nat.lt_succ_of_lt hb0)⟩
      · cases r₂ with
        | error e => exact hr₂
        | ok fl₂ =>
          cases fl₂ with
          | next => exact hr₂.elim
          | brk => exact hr₂.elim
          | cont => exact hr₂.elim
          | ret r =>
            obtain ⟨rfl, h', tk, c, rfl, hS', hc', hk'⟩ := hr₂
            repeat (any_goals (first | assumption | wp_step))
            exact h _ _ _ hS' hc' hk'
end
section
variable {X : Cx}
/-- sorted(set(xs)) of a list of ints -/
def tSortSet (K : Fr) (ta : TE) : TE := fun σ H Q => ta σ H fun x H1 => ∃ (l : Addr) (ns : List Int), x = .ref l ∧ SqL K H1 l (ns.map V.int) ∧ ns.length < 64 ∧
  ∀ (zs : List Int) (p : Addr), (∀ k : Int, k ∈ zs ↔ k ∈ ns) → zs.length ≤ ns.length → H1 p = none → Q (.ref p) (upd H1 p (.lst (zs.map V.int)))
theorem pe_sortSet {a : Expr} {ta : TE} {p p2 q pos : Pos} (hg : Gl X "sorted") (hm : X.mg "sorted" = none) (hg2 : Gl X "set") (hm2 : X.mg "set" = none) (ha : PE X a ta) (hc : X.calm = true := by rfl)
    (na : starEach [a] X.env = (false, eval a X.env) :: starEach [] X.env := by rfl) : PE X (.Call (.Name "sorted" p) [.Call (.Name "set" p2) [a] [] q] [] pos) (tSortSet X.K ta) := by
  refine ⟨fun pins s σ H Q I h => ?_⟩
  refine Call_ (ld_blt I hg hm PyProof.Rows.boot_sorted ?_)
  refine PyProof.Rows.callWith_builtin1 (PyProof.Rows.args_cons ?_ rfl) rfl rfl
  refine Call_ (ld_blt I hg2 hm2 boot_set ?_)
  refine PyProof.Rows.callWith_type1 (PyProof.Rows.args_cons (thn (ha.run pins s σ H _ I h) fun v s1 ⟨x, H1, I1, r1, q1⟩ => PyProof.Rows.args_nil ?_) na) na rfl
  obtain ⟨l, ns, rfl, hq, hl, q1⟩ := q1
  cases r1
  obtain ⟨its, r, pl, hz⟩ := I1.list hq
  refine set_of_ints ns (I1.ok.hd hc) pl.isList (by simpa using r.ints) (by unfold scanBound; omega) fun h' tk c hS hc' hk => ?_
  refine PyProof.Rows.args_nil ?_
  have I2 : Inv X pins σ H1 { s1 with heap := h', toks := tk } := I1.kept hk
  refine sorted_set hS (I2.ok.hd hc) (by omega) fun s' p out c2 zs k g o hp hg' hi hs hm hl' => ?_
  have hlen : (zs.map V.int).length ≤ sizeLine := by rw [List.length_map, hl', sizeLine_eq]; omega
  have hn : H1 p = none := I2.hok.fresh hp
  have J : Inv X pins σ (upd H1 p (.lst (zs.map V.int))) { ({ s1 with heap := h', toks := tk } : Shared) with heap := s'.heap, gens := s'.gens, drawn := s'.drawn, toks := s'.toks } :=
    I2.call (ch := []) (Un.laid k hp hn) (I2.hok.laid k hp ⟨hlen, out.toList, c2, vals_of_ints hi, hg'⟩) (by rw [g]; exact I2.bare) (fun _ z => nomatch z)
  have e : s' = { ({ s1 with heap := h', toks := tk } : Shared) with heap := s'.heap, gens := s'.gens, drawn := s'.drawn, toks := s'.toks } := by
    cases s'
    cases s1
    cases o
    rfl
  rw [e]
  exact ⟨.ref p, _, J, rfl, q1 zs p (fun k => (hm k).trans (by simp)) (by omega) hn⟩
end
end S57

set_option Elab.async false
set_option linter.all false
set_option maxRecDepth 100000
set_option maxHeartbeats 4000000
namespace S57
open PySem PySem.Spec PyProof.Rows L2 TL
theorem RwAt.keep {K : Fr} {H0 H1 H2 : Hp} {a sc : Addr} {ns : List Int} (h0 : RwAt K H0 a sc ns) (o : Off [a] H0 H2) (h1 : RwAt K H1 a sc ns) (e : ∀ u, H1 a = some u → H2 a = some u) : RwAt K H2 a sc ns := by
  obtain ⟨i, m, r, q, hm⟩ := h1.row
  exact ⟨h0.scrOff o, i, m, r, e _ q, hm⟩
theorem RwAt.there {K : Fr} {H : Hp} {a sc : Addr} {ns : List Int} (h : RwAt K H a sc ns) : ∃ u, H a = some u := let ⟨_, _, _, q, _⟩ := h.row; ⟨_, q⟩
theorem PkAt.offR {K : Fr} {H H' : Hp} {p a sc : Addr} {D : PkS} {ns : List Int} (h : PkAt K H p D) (hR : RwAt K H a sc ns) (o : Off [a] H H') : PkAt K H' p D := h.off o (by
  obtain ⟨i, m, r, q, hm⟩ := hR.row
  obtain ⟨dx, t, s, w, _⟩ := h
  intro z
  rw [List.mem_singleton.mp z] at w
  rcases w with ⟨_, e⟩ | ⟨w, _⟩
  · cases e
  · rw [q] at w
    exact slO_lst (Option.some.inj w).symm)
def abcL : Str := "abc"
theorem abc_at {r : Nat} (h : r < 3) : atI ("abc" : Str).cps.toList ((r : Nat) : Int) = some (97 + r) := by
  have : ∀ r, r < 3 → atI ("abc" : Str).cps.toList ((r : Nat) : Int) = some (97 + r) := by decide +kernel
  exact this r h
section
variable {P : Program} {w : World} {K : Fr} {mg : Str → Option Value} {base : Heap}
def sp__law_packet (K : Fr) : Sp := fun vs H Q _ => ∃ (a sc : Addr) (ns : List Int), vs = [.ref a, .int 3] ∧ RwAt K H a sc ns ∧ ∀ p D H', Off [a] H H' → RwAt K H' a sc ns → PkAt K H' p D → D.ok → Let3 D → Q (.ref p) H'
theorem sc__law_packet0 : FnScope ["_law_row_here", "_law_most", "_law_width", "_law_height", "_law_count", "_law_found", "_law_k", "_law_cell"] ["_law_row_here", "_law_most"] (defScope s__law_packet) := ⟨rfl, rfl, rfl, by decide +kernel, rfl, by decide +kernel, by decide +kernel⟩
theorem ok__law_packet (T : Txt K mg w) : FnR P w K mg base CX0 6 (a__law_packet K) (sp__law_packet K) := by
  refine fnr0 (d__law_packet T) sc__law_packet0 (fun _ _ _ _ _ _ us hl => match us, hl with | [_, _], _ => rfl) (fun vs H Q E h => ?_) (fun cdv A outer s H vs Q E hr h => ?_)
  · obtain ⟨a, sc, ns, rfl, _⟩ := h
    rfl
  · obtain ⟨a, sc, ns, rfl, hR, k⟩ := h
    refine ⟨_, (pss_cons (ps_par3 (i := 2) (j := 3) (l := 4) rfl sc__law_packet0.nd rfl rfl rfl (by decide) (by decide) (by decide) rfl rfl rfl (pa_cons (pe_op op_add pe_int (pe_g (ok__law_taken T) (hr.mono (by decide)) (g__law_taken T) (kp__law_taken T) pass0 (pa_cons (pv 0) (pa_cons pe_int pa_nil)))) (pa_cons (pe_op op_add pe_int (pe_g (ok__law_taken T) (hr.mono (by decide)) (g__law_taken T) (kp__law_taken T) pass0 (pa_cons (pv 0) (pa_cons pe_int pa_nil)))) (pa_cons (pe_op op_add pe_int (pe_g (ok__law_taken T) (hr.mono (by decide)) (g__law_taken T) (kp__law_taken T) pass0 (pa_cons (pv 0) (pa_cons (pv 1) pa_nil)))) pa_nil))) (by rfl))
    (pss_cons (ps_set (i := 5) sc__law_packet0.nd rfl (by first | exact Or.inl rfl | exact Or.inr rfl) (pe_lst pa_nil))
    (pss_cons (ps_for PassesOwn.never rfl (pi_range1 (by rfl) (n_range T) (pa_cons (pv 4) pa_nil)) (pg_name (i := 6) sc__law_packet0.nd rfl (by first | exact Or.inl rfl | exact Or.inr rfl))
    (pss_one (ps_expr (pe_bm PySem.F.plainAttrs_list PySem.F.slot_list_append PySem.F.type_list_append mt_append (pv 5) (pa_cons (pe_join pe_str (pe_lc (own := [("_law_cell", 7)]) (g := gName 7) (tt := tYes) rfl sc__law_packet0.nd (pi_range1 (by rfl) (n_range T) (pa_cons (pe_op op_mul (pv 2) (pv 3)) pa_nil)) (blkOk_by (own := [("_law_cell", 7)]) (N := ["_law_row_here", "_law_most", "_law_width", "_law_height", "_law_count", "_law_found", "_law_k", "_law_cell"]) (sc := defScope s__law_packet) (by decide +kernel)) (fun _ _ _ _ _ => (pg_name (i := 7) sc__law_packet0.nd rfl (by first | exact Or.inl rfl | exact Or.inr rfl))) (fun _ _ _ _ _ => pts_nil) (fun _ _ _ _ _ => (pe_ix ix_str pe_str (pe_g (ok__law_taken T) (hr.mono (by decide)) (g__law_taken T) (kp__law_taken T) pass0 (pa_cons (pv 0) (pa_cons pe_int pa_nil))) (fun _ _ => rfl))))) pa_nil)))))
    (pss_one (ps_ret (StX.pe_makeR (mk_Packet T) (ok_Packet_init T) (hr.mono (by decide)) rfl (g_Packet T) pass0 (pa_cons (pv 2) (pa_cons (pv 3) (pa_cons (pe_callTy call_tuple_of (by rfl) (n_tuple T) (by decide +kernel) (pa_cons (pv 5) pa_nil)) pa_nil))))))))), ?_⟩
    refine ⟨_, rfl, a, sc, ns, 3, rfl, hR, by decide, by decide, fun r1 H1 hr1 o1 hR1 => ⟨_, _, rfl, rfl, ?_⟩⟩
    refine ⟨_, rfl, a, sc, ns, 2, rfl, hR1, by decide, by decide, fun r2 H2 hr2 o2 hR2 => ⟨_, _, rfl, rfl, ?_⟩⟩
    refine ⟨_, rfl, _, rfl, a, sc, ns, 3, rfl, hR2, by decide, by decide, fun r3 H3 hr3 o3 hR3 => ⟨_, _, rfl, rfl, ?_⟩⟩
    have oH := (o1.trans o2).trans o3
    clear o1 o2 o3 hR1 hR2
    obtain ⟨wd, ewd⟩ : ∃ wd, wd = 1 + r1 := ⟨_, rfl⟩
    obtain ⟨ht, eht⟩ : ∃ ht, ht = 1 + r2 := ⟨_, rfl⟩
    obtain ⟨ct, ect⟩ : ∃ ct, ct = 1 + r3 := ⟨_, rfl⟩
    have w1 : ((1 : Int) + (r1 : Nat)) = (wd : Nat) := by omega
    have w2 : ((1 : Int) + (r2 : Nat)) = (ht : Nat) := by omega
    have w3 : ((1 : Int) + (r3 : Nat)) = (ct : Nat) := by omega
    have a1 : 1 ≤ wd := by omega
    have a3 : wd ≤ 3 := by omega
    have b1 : 1 ≤ ht := by omega
    have b2 : ht ≤ 2 := by omega
    have c1 : 1 ≤ ct := by omega
    have c3 : ct ≤ 3 := by omega
    have hab : wd * ht ≤ 6 := Nat.le_trans (Nat.mul_le_mul a3 b2) (by decide)
    refine ⟨_, _, _, rfl, ?_⟩
    refine ⟨Nat.zero_le _, fun l hl => ?_⟩
    have hlH : H l = none := by
      cases q : H l with
      | none => rfl
      | some u => obtain ⟨u', e⟩ := oH.there _ _ q; rw [hl] at e; cases e
    have oL : Off [a] H (upd H3 l (.lst [])) := oH.updN hlH
    have hal : a ≠ l := fun z => by obtain ⟨u, e⟩ := hR3.there; rw [z, hl] at e; cases e
    refine ⟨_, rfl, ((ct : Nat) : Int), congrArg (fun z => [V.int z]) w3, by omega, by omega, ?_⟩
    rw [Int.toNat_natCast]
    refine for_range (lo := 0) (n := ct) (fun i σ H' => ∃ (v6 : Option V) (zs : List Str), σ = [some (.ref a), some (.int 3), some (.int wd), some (.int ht), some (.int ct), some (.ref l), v6, none] ∧ Off [a] H H' ∧ RwAt K H' a sc ns ∧ H' l = some (.lst (zs.map V.str)) ∧ zs.length = i ∧ ∀ z ∈ zs, z.length = wd * ht ∧ ∀ c ∈ z.cps.toList, okLet c ∧ c ≤ 99)
      ⟨none, [], by rw [← w1, ← w2, ← w3]; rfl, oL, hR.keep oL hR3 (fun u e => by rw [upd_ne hal]; exact e), upd_same, rfl, fun z hz => by cases hz⟩ ?_ ?_
    · rintro i σ H4 hi ⟨v6, zs, rfl, o4, hR4, hl4, hzl, hz⟩
      refine ⟨_, rfl, .inl ⟨rfl, _, SqL.of hl4⟩, ⟨_, rfl⟩, ?_⟩
      refine ⟨_, rfl, _, rfl, _, _, rfl, rfl, .inl ⟨by omega, by omega⟩, ((wd : Nat) : Int) * (ht : Nat), rfl, by omega, by rw [← Int.natCast_mul]; omega, fun L hL => ?_⟩
      have e0 : (((wd : Nat) : Int) * (ht : Nat)).toNat = wd * ht := by rw [← Int.natCast_mul]; exact Int.toNat_natCast _
      rw [e0]
      have hLH : H L = none := by
        cases q : H L with
        | none => rfl
        | some u => obtain ⟨u', e⟩ := o4.there _ _ q; rw [hL] at e; cases e
      have naL : a ≠ L := fun z => by obtain ⟨u, e⟩ := hR4.there; rw [z, hL] at e; cases e
      have nlL : l ≠ L := fun z => by rw [z, hL] at hl4; cases hl4
      refine lc_it walk_range (fun j H' => Off [a] H H' ∧ RwAt K H' a sc ns ∧ H' l = some (.lst (zs.map V.str)) ∧ ∃ cs : List Nat, H' L = some (.lst (cs.map fun c => V.str (chr1 c))) ∧ cs.length = j ∧ ∀ c ∈ cs, okLet c ∧ c ≤ 99)
        ⟨o4.updN hLH, hR.keep (o4.updN hLH) hR4 (fun u e => by rw [upd_ne naL]; exact e), by rw [upd_ne nlL]; exact hl4, [], upd_same, rfl, fun c hc => by cases hc⟩ (fun _ _ _ _ => trivial) (fun j x H5 H5' hj q y => ?_) (fun H5 q => ?_)
      · obtain ⟨o5, hR5, hl5, cs, hL5, hcl, hcs⟩ := q
        obtain ⟨rfl, rfl⟩ := y
        refine ⟨rfl, ?_⟩
        unfold tYes
        dsimp only
        rw [if_pos rfl]
        refine ⟨_, rfl, a, sc, ns, 3, rfl, hR5, by decide, by decide, fun r H6 hr6 o6 hR6 => ⟨"abc", _, 97 + r, rfl, rfl, by decide, abc_at hr6, ?_⟩⟩
        have hL6 := o6.old _ _ (by simpa using Ne.symm naL) hL5
        have hl6 := o6.old _ _ (by simpa using Ne.symm hal) hl5
        refine ⟨_, hL6, by rw [List.length_map]; exact small1000 (by omega), (o5.trans o6).updN hLH, hR.keep ((o5.trans o6).updN hLH) hR6 (fun u e => by rw [upd_ne naL]; exact e), by rw [upd_ne nlL]; exact hl6, cs ++ [97 + r], by rw [upd_same, List.map_append]; rfl, by rw [List.length_append, hcl]; rfl, fun c hc => ?_⟩
        rcases List.mem_append.mp hc with hc | hc
        · exact hcs c hc
        · rw [List.mem_singleton.mp hc]
          unfold okLet
          omega
      · obtain ⟨o5, hR5, hl5, cs, hL5, hcl, hcs⟩ := q
        have hL5' : H5 L = some (.lst ((cs.map chr1).map V.str)) := by rw [List.map_map]; exact hL5
        refine ⟨"", L, cs.map chr1, rfl, rfl, .inl (SqL.of hL5'), ?_, l, _, _, rfl, rfl, hl5, by rw [List.length_map]; exact small1000 (by omega), ?_⟩
        · rw [sum_chars, List.length_map]
          show cs.length + cs.length * 0 ≤ _
          omega
        have ol : Off [l] H5 (upd H5 l (.lst (zs.map V.str ++ [.str (Txt.join "" (cs.map chr1))]))) := Off.mut (by simp) hl5 (fun _ z => by cases z) (fun z => by cases z)
        refine ⟨_, zs ++ [Txt.join "" (cs.map chr1)], rfl, o5.updN hlH, hR.keep (o5.updN hlH) hR5 (fun u e => by rw [upd_ne hal]; exact e), by rw [upd_same, List.map_append]; rfl, by rw [List.length_append, hzl]; rfl, fun z hzz => ?_⟩
        rcases List.mem_append.mp hzz with hzz | hzz
        · exact hz z hzz
        · rw [List.mem_singleton.mp hzz]
          refine ⟨?_, fun c hc => ?_⟩
          · rw [join_len, sum_chars, hcl]
          · rw [join_chars] at hc
            exact hcs c hc
    · rintro σ H4 ⟨v6, zs, rfl, o4, hR4, hl4, hzl, hz⟩
      refine ⟨_, rfl, _, rfl, _, rfl, l, _, rfl, .inl ⟨SqL.of hl4, fun s hs => ?_⟩⟩
      have sS : Same H4 (upd H4 s (.tup (zs.map V.str))) := Same.new hs
      have hS : upd H4 s (.tup (zs.map V.str)) s = some (.tup (zs.map V.str)) := upd_same
      generalize upd H4 s (.tup (zs.map V.str)) = H5 at *
      have hDok : PkS.ok ⟨wd, ht, zs⟩ := ⟨a1, a3, b1, b2, by show 1 ≤ zs.length; omega, by show zs.length ≤ 3; omega, fun z hzz => (hz z hzz).1, fun z hzz c hc => ((hz z hzz).2 c hc).1⟩
      refine fun p dx hp hdx hne => ?_
      refine ⟨H5, p, dx, s, ⟨wd, ht, zs⟩, rfl, hp, hdx, hne, fun c u e => by rw [upd_ne (ne_of_none e hp), upd_ne (ne_of_none e hdx)]; exact e, upd_same, by rw [upd_ne hne, upd_same], by rw [upd_ne (ne_of_none hS hp), upd_ne (ne_of_none hS hdx)]; exact hS, hDok, fun H6 s6 hP => ⟨rfl, ?_⟩⟩
      exact k p ⟨wd, ht, zs⟩ H6 (o4.trans (Off.of (sS.trans s6))) ((hR4.same sS).same s6) hP hDok (fun z hzz c hc => ((hz z hzz).2 c hc).2)
end
end S57


set_option Elab.async false
set_option linter.all false
set_option maxRecDepth 100000
set_option maxHeartbeats 4000000
namespace S57
open PySem PySem.Spec PyProof.Rows L2 TL
theorem rgV_nat (n : Nat) : rgV 0 ((n : Nat) : Int) = natsV (List.range n) := by
  unfold rgV natsV
  rw [show (((n : Nat) : Int) - 0).toNat = n by omega]
  refine List.map_congr_left fun i hi => ?_
  rw [Int.zero_add]
theorem natsV_set (fs : List Nat) (i x : Nat) : (natsV fs).set i (.int (x : Nat)) = natsV (fs.set i x) := by
  unfold natsV
  rw [List.map_set]
theorem ixN_nat {n j : Nat} (h : j < n) : ixN n ((j : Nat) : Int) = some j := by
  unfold ixN
  rw [if_pos (by omega), if_pos (by omega)]
  rfl
theorem natsV_at {fs : List Nat} {i : Nat} (h : i < fs.length) : (natsV fs)[i]? = some (.int ((fs[i] : Nat) : Int)) := by
  unfold natsV
  rw [List.getElem?_map, List.getElem?_eq_getElem h]
  rfl
theorem flat_ints (zs : List Int) : (zs.map V.int).all flatV = true := by
  induction zs with
  | nil => rfl
  | cons z r ih => rw [List.map_cons, List.all_cons, ih]; rfl
/-- the first place of a number -/
theorem first_at {zs : List Int} {x : Int} (h : x ∈ zs) : ∃ j, j < zs.length ∧ (zs.map V.int)[j]? = some (.int x) ∧ ∀ (m : Nat) (z' : V), m < j → (zs.map V.int)[m]? = some z' → eqV z' (.int x) = false := by
  induction zs with
  | nil => cases h
  | cons z r ih =>
    by_cases e : z = x
    · exact ⟨0, Nat.succ_pos _, by rw [e]; rfl, fun m z' hm => absurd hm (Nat.not_lt_zero _)⟩
    · have h' : x ∈ r := by
        rcases List.mem_cons.mp h with h | h
        · exact absurd h.symm e
        · exact h
      obtain ⟨j, h1, h2, h3⟩ := ih h'
      refine ⟨j + 1, Nat.succ_lt_succ h1, h2, fun m z' hm hz => ?_⟩
      cases m with
      | zero =>
        cases hz
        show (z == x) = false
        simpa using e
      | succ m => exact h3 m z' (Nat.lt_of_succ_lt_succ hm) hz
section
variable {P : Program} {w : World} {K : Fr} {mg : Str → Option Value} {base : Heap}
def sp__law_parted (K : Fr) : Sp := fun vs H Q _ => ∃ (p mk : Addr) (D : PkS) (ms : List Nat), vs = [.ref p, .ref mk] ∧ PkAt K H p D ∧ D.ok ∧ H mk = some (.lst (natsV ms)) ∧ ms.length = D.w * D.h ∧
  ∀ q ws H', Same H H' → H' q = some (.tup (natsV ws)) → ws.length = D.w * D.h → (∀ x ∈ ws, x ≤ 9) → Q (.ref q) H'
theorem sc__law_parted0 : FnScope ["_law_packet_here", "_law_marks", "_law_found", "_law_turn", "_law_cell", "_law_column", "_law_near", "_law_other", "_law_least", "_law_names", "_law_one"] ["_law_packet_here", "_law_marks"] (defScope s__law_parted) := ⟨rfl, rfl, rfl, by decide +kernel, rfl, by decide +kernel, by decide +kernel⟩
theorem ok__law_parted (T : Txt K mg w) : FnR P w K mg base CX0 3 (a__law_parted K) (sp__law_parted K) := by
  refine fnr0 (d__law_parted T) sc__law_parted0 (fun _ _ _ _ _ _ us hl => match us, hl with | [_, _], _ => rfl) (fun vs H Q E h => ?_) (fun cdv A outer s H vs Q E hr h => ?_)
  · obtain ⟨p, mk, D, ms, rfl, _⟩ := h
    rfl
  · obtain ⟨p, mk, D, ms, rfl, hp, o, hm, hml, k⟩ := h
    refine ⟨_, (pss_cons (ps_set (i := 2) sc__law_parted0.nd rfl (by first | exact Or.inl rfl | exact Or.inr rfl) (pe_listRg rfl rfl (n_list T) (prg_1 rfl (n_range T) (SlX.pe_propSl (pv 0) (sc_Packet T) (pr_Packet_cells T).at_ (pr_Packet_cells T).get (pr_Packet_cells T).tak (pr_Packet_cells T).rec_ (ok_Packet_cells T) (hr.mono (by decide)) pass0p))))
    (pss_cons (ps_for PassesOwn.never rfl (pi_range1 (by rfl) (n_range T) (pa_cons (SlX.pe_propSl (pv 0) (sc_Packet T) (pr_Packet_cells T).at_ (pr_Packet_cells T).get (pr_Packet_cells T).tak (pr_Packet_cells T).rec_ (ok_Packet_cells T) (hr.mono (by decide)) pass0p) pa_nil)) (pg_name (i := 3) sc__law_parted0.nd rfl (by first | exact Or.inl rfl | exact Or.inr rfl))
    (pss_one (ps_for PassesOwn.never rfl (pi_range1 (by rfl) (n_range T) (pa_cons (SlX.pe_propSl (pv 0) (sc_Packet T) (pr_Packet_cells T).at_ (pr_Packet_cells T).get (pr_Packet_cells T).tak (pr_Packet_cells T).rec_ (ok_Packet_cells T) (hr.mono (by decide)) pass0p) pa_nil)) (pg_name (i := 4) sc__law_parted0.nd rfl (by first | exact Or.inl rfl | exact Or.inr rfl))
    (pss_cons (ps_set (i := 5) sc__law_parted0.nd rfl (by first | exact Or.inl rfl | exact Or.inr rfl) (pe_op op_modN (pe_callTy call_int1 (by rfl) (n_int T) (by decide +kernel) (pa_cons (pv 4) pa_nil)) (SlX.pe_propSl (pv 0) (sc_Packet T) (pr_Packet_width T).at_ (pr_Packet_width T).get (pr_Packet_width T).tak (pr_Packet_width T).rec_ (ok_Packet_width T) (hr.mono (by decide)) pass0p)))
    (pss_cons (ps_set (i := 6) sc__law_parted0.nd rfl (by first | exact Or.inl rfl | exact Or.inr rfl) (pe_op op_rep (pe_lst (pa_cons (pe_op op_add (pv 4) pe_int) pa_nil)) (pe_callTy call_int1 (by rfl) (n_int T) (by decide +kernel) (pa_cons (pe_cmpR op_lt (pv 5) (pe_op op_sub (SlX.pe_propSl (pv 0) (sc_Packet T) (pr_Packet_width T).at_ (pr_Packet_width T).get (pr_Packet_width T).tak (pr_Packet_width T).rec_ (ok_Packet_width T) (hr.mono (by decide)) pass0p) pe_int) (nomark _)) pa_nil))))
    (pss_one (ps_for PassesOwn.never rfl (pi_list (pe_op op_cat (pv 6) (pe_lst (pa_cons (pe_op op_add (pv 4) (SlX.pe_propSl (pv 0) (sc_Packet T) (pr_Packet_width T).at_ (pr_Packet_width T).get (pr_Packet_width T).tak (pr_Packet_width T).rec_ (ok_Packet_width T) (hr.mono (by decide)) pass0p)) pa_nil)))) (pg_name (i := 7) sc__law_parted0.nd rfl (by first | exact Or.inl rfl | exact Or.inr rfl))
    (pss_one (ps_if (PW.pt (pw_and (pt_cmpR op_lt (pv 7) (SlX.pe_propSl (pv 0) (sc_Packet T) (pr_Packet_cells T).at_ (pr_Packet_cells T).get (pr_Packet_cells T).tak (pr_Packet_cells T).rec_ (ok_Packet_cells T) (hr.mono (by decide)) pass0p) (nomark _)) (pw_and1 (pt_cmpR op_eq (pe_ix ix_list (pv 1) (pv 4) (fun _ _ => rfl)) (pe_ix ix_list (pv 1) (pv 7) (fun _ _ => rfl)) (nomark _))))) (pss_cons (ps_set (i := 8) sc__law_parted0.nd rfl (by first | exact Or.inl rfl | exact Or.inr rfl) (pe_callB (call_min2 rfl) (by rfl) (n_min T) (by decide +kernel) (pa_cons (pe_ix ix_list (pv 2) (pv 4) (fun _ _ => rfl)) (pa_cons (pe_ix ix_list (pv 2) (pv 7) (fun _ _ => rfl)) pa_nil))))
    (pss_one (ps_asg (pe_tup (pa_cons (pv 8) (pa_cons (pv 8) pa_nil))) (pg_tup rfl (pgs_cons (pg_sub (pv 2) (pv 4) set_list) (pgs_cons (pg_sub (pv 2) (pv 7) set_list) pgs_nil)))))) pss_nil)))))))))
    (pss_cons (ps_set (i := 9) sc__law_parted0.nd rfl (by first | exact Or.inl rfl | exact Or.inr rfl) (pe_sortSet rfl (n_sorted T) rfl (n_set T) (pv 2)))
    (pss_one (ps_ret (pe_callTy call_tuple_of (by rfl) (n_tuple T) (by decide +kernel) (pa_cons (pe_lc (own := [("_law_one", 10)]) (g := gName 10) (tt := tYes) rfl sc__law_parted0.nd (pi_list (pv 2)) (blkOk_by (own := [("_law_one", 10)]) (N := ["_law_packet_here", "_law_marks", "_law_found", "_law_turn", "_law_cell", "_law_column", "_law_near", "_law_other", "_law_least", "_law_names", "_law_one"]) (sc := defScope s__law_parted) (by decide +kernel)) (fun _ _ _ _ _ => (pg_name (i := 10) sc__law_parted0.nd rfl (by first | exact Or.inl rfl | exact Or.inr rfl))) (fun _ _ _ _ _ => pts_nil) (fun _ _ _ _ _ => (show PE _ _ (tBM K "list" (rIndex K) (tVar 9) (tCons (tVar 10) tNil)) from pe_bm PySem.F.plainAttrs_list PySem.F.slot_list_index PySem.F.type_list_index mt_index (pv 9) (pa_cons (pv 10) pa_nil)))) pa_nil))))))), ?_⟩
    obtain ⟨c1, c6⟩ := o.cells
    have wp1 := o.w1; have wp3 := o.w3
    obtain ⟨pdx, pt, ps, q1, q2, q3⟩ := hp.parts
    refine ⟨_, rfl, p, pdx, _, rfl, q1, p, D, rfl, hp, o, ?_⟩
    refine ⟨((D.w * D.h : Nat) : Int), rfl, ⟨by omega, by omega, by omega, by omega, by omega⟩, fun l hl => ?_⟩
    rw [rgV_nat]
    generalize hn : D.w * D.h = n at *
    refine ⟨_, rfl, p, pdx, _, rfl, (Same.new hl).slt q1, p, D, rfl, hp.mono (Same.new hl), o, ?_⟩
    rw [hn]
    refine ⟨((n : Nat) : Int), rfl, by omega, by omega, ?_⟩
    rw [Int.toNat_natCast]
    refine for_range (lo := 0) (n := n) (fun i σ H' => ∃ (v3 v4 v5 v6 v7 v8 : Option V) (fs : List Nat), σ = [some (.ref p), some (.ref mk), some (.ref l), v3, v4, v5, v6, v7, v8, none, none] ∧ Same H H' ∧ H' l = some (.lst (natsV fs)) ∧ fs.length = n ∧ ∀ x ∈ fs, x < n)
      ⟨none, none, none, none, none, none, List.range n, rfl, Same.new hl, upd_same, List.length_range, fun x hx => List.mem_range.mp hx⟩ ?_ ?_
    · rintro i σ H1 hi ⟨v3, v4, v5, v6, v7, v8, fs, rfl, s1, hl1, hfl, hfs⟩
      refine ⟨_, rfl, p, pdx, _, rfl, s1.slt q1, p, D, rfl, hp.mono s1, o, ?_⟩
      rw [hn]
      refine ⟨((n : Nat) : Int), rfl, by omega, by omega, ?_⟩
      rw [Int.toNat_natCast]
      refine for_range (lo := 0) (n := n) (fun j σ H' => ∃ (v4 v5 v6 v7 v8 : Option V) (fs : List Nat), σ = [some (.ref p), some (.ref mk), some (.ref l), some (.int (0 + (i : Nat))), v4, v5, v6, v7, v8, none, none] ∧ Same H H' ∧ H' l = some (.lst (natsV fs)) ∧ fs.length = n ∧ ∀ x ∈ fs, x < n)
        ⟨v4, v5, v6, v7, v8, fs, rfl, s1, hl1, hfl, hfs⟩ ?_ ?_
      · rintro j σ H2 hj ⟨v4, v5, v6, v7, v8, fs, rfl, s2, hl2, hfl, hfs⟩
        have ej : ((0 : Int) + (j : Nat)) = (j : Int) := by omega
        rw [ej]
        refine ⟨_, rfl, .inl ⟨_, rfl, ?_⟩⟩
        refine ⟨_, rfl, p, pdx, _, rfl, s2.slt q1, p, D, rfl, hp.mono s2, _, _, rfl, rfl, (show ((D.w : Nat) : Int) ≠ 0 by omega), ?_⟩
        have hl2n : H l = none := hl
        refine ⟨_, rfl, _, _, rfl, rfl, Nat.succ_le_of_lt (by rw [sizeLine_eq]; decide), fun l1 hl1' => ?_⟩
        have sA : Same H2 (upd H2 l1 (.lst [.int ((j : Int) + 1)])) := Same.new hl1'
        refine ⟨_, rfl, _, rfl, p, pdx, _, rfl, (s2.trans sA).slt q1, p, D, rfl, hp.mono (s2.trans sA), _, _, rfl, rfl, _, _, rfl, rfl, .inr ⟨_, rfl, l1, _, _, rfl, rfl, upd_same, ?_⟩⟩
        generalize decide (Int.fmod ((j : Nat) : Int) ((D.w : Nat) : Int) < ((D.w : Nat) : Int) - 1) = bb
        refine ⟨by cases bb <;> decide, by cases bb <;> decide, Nat.le_trans (m := 1) (by cases bb <;> exact Nat.le_of_ble_eq_true rfl) (by rw [sizeLine_eq]; decide), fun l2 hl2' => ?_⟩
        have sB := sA.new' (o := .lst (List.replicate (if bb = true then (1 : Int) else 0).toNat [V.int ((j : Int) + 1)]).flatten) hl2'
        refine ⟨_, rfl, _, rfl, _, rfl, p, pdx, _, rfl, (s2.trans sB).slt q1, p, D, rfl, hp.mono (s2.trans sB), _, _, rfl, rfl, Nat.succ_le_of_lt (by rw [sizeLine_eq]; decide), fun l3 hl3' => ?_⟩
        have n23 : l2 ≠ l3 := fun z => by rw [← z, upd_same] at hl3'; cases hl3'
        refine ⟨l2, l3, _, _, rfl, rfl, by rw [upd_ne n23, upd_same], upd_same, Nat.le_trans (m := 2) (by cases bb <;> exact Nat.le_of_ble_eq_true rfl) (by rw [sizeLine_eq]; decide), fun l4 hl4' => ?_⟩
        have sC := (sB.new' (o := .lst [V.int ((j : Int) + ((D.w : Nat) : Int))]) hl3').new' (o := .lst ((List.replicate (if bb = true then (1 : Int) else 0).toNat [V.int ((j : Int) + 1)]).flatten ++ [V.int ((j : Int) + ((D.w : Nat) : Int))])) hl4'
        have h4 : upd (upd (upd (upd H2 l1 (.lst [.int ((j : Int) + 1)])) l2 (.lst (List.replicate (if bb = true then (1 : Int) else 0).toNat [V.int ((j : Int) + 1)]).flatten)) l3 (.lst [V.int ((j : Int) + ((D.w : Nat) : Int))])) l4 (.lst ((List.replicate (if bb = true then (1 : Int) else 0).toNat [V.int ((j : Int) + 1)]).flatten ++ [V.int ((j : Int) + ((D.w : Nat) : Int))])) l4 = some (.lst (natsV ((if bb = true then [j + 1] else []) ++ [j + D.w]))) := by
          rw [upd_same]
          cases bb <;> rfl
        have nl4 : l ≠ l4 := fun z => by
          have e := ((sB.new' (o := .lst [V.int ((j : Int) + ((D.w : Nat) : Int))]) hl3')) _ _ hl2
          rw [z, hl4'] at e
          cases e
        generalize upd (upd (upd (upd H2 l1 (.lst [.int ((j : Int) + 1)])) l2 (.lst (List.replicate (if bb = true then (1 : Int) else 0).toNat [V.int ((j : Int) + 1)]).flatten)) l3 (.lst [V.int ((j : Int) + ((D.w : Nat) : Int))])) l4 (.lst ((List.replicate (if bb = true then (1 : Int) else 0).toNat [V.int ((j : Int) + 1)]).flatten ++ [V.int ((j : Int) + ((D.w : Nat) : Int))])) = H5 at *
        generalize ((if bb = true then [j + 1] else []) ++ [j + D.w]) = os at *
        have s5 := s2.trans sC
        have hl5 := sC _ _ hl2
        clear sA sB sC hl1' hl2' hl3' hl4' n23
        refine ⟨l4, rfl, ⟨_, SqL.of h4⟩, ?_⟩
        refine for_it (walk_list (xs := natsV os)) (fun _ σ H' => ∃ (v7 v8 : Option V) (fs : List Nat), σ = [some (.ref p), some (.ref mk), some (.ref l), some (.int (0 + (i : Nat))), some (.int (j : Nat)), some (.int (Int.fmod ((j : Nat) : Int) ((D.w : Nat) : Int))), some (.ref l2), v7, v8, none, none] ∧ Same H H' ∧ H' l4 = some (.lst (natsV os)) ∧ H' l = some (.lst (natsV fs)) ∧ fs.length = n ∧ ∀ x ∈ fs, x < n)
          ⟨v7, v8, fs, rfl, s5, h4, hl5, hfl, hfs⟩ ?_ ?_ ?_
        · rintro m σ H' hm' ⟨v7, v8, fs, rfl, s6, h6, _⟩
          exact SqL.of h6
        · rintro m x σ H6' H6 hm' ⟨v7, v8, fs, rfl, s6, h6, hl6, hfl, hfs⟩ y
          obtain ⟨rfl, hx⟩ := y
          unfold natsV at hx
          rw [List.getElem?_map] at hx
          obtain ⟨ot, hot, rfl⟩ := Option.map_eq_some_iff.mp hx
          refine ⟨_, rfl, _, rfl, p, pdx, _, rfl, s6.slt q1, p, D, rfl, hp.mono s6, o, _, _, rfl, rfl, _, rfl, ite2 (fun e => ?_) (fun e => ?_)⟩
          · have e := of_decide_eq_true e
            have hon : ot < n := by
              have e : ((ot : Nat) : Int) < ((D.w * D.h : Nat) : Int) := e
              rw [hn] at e
              omega
            have hm6 := s6 _ _ hm
            refine ⟨_, rfl, _, rfl, mk, _, _, _, rfl, rfl, SqL.of hm6, atI_nat (natsV_at (by omega)), _, rfl, _, rfl, mk, _, _, _, rfl, rfl, SqL.of hm6, atI_nat (natsV_at (by omega)), rfl, _, rfl, ite2 (fun e2 => ?_) (fun e2 => ?_)⟩
            · have hjl : j < fs.length := by omega
              have hol : ot < fs.length := by omega
              have hfj := hfs _ (List.getElem_mem hjl)
              have hfo := hfs _ (List.getElem_mem hol)
              refine ⟨_, rfl, _, rfl, l, _, _, _, rfl, rfl, SqL.of hl6, atI_nat (natsV_at hjl), _, rfl, _, rfl, l, _, _, _, rfl, rfl, SqL.of hl6, atI_nat (natsV_at hol), _, _, rfl, ?_⟩
              obtain ⟨lt, elt, hlt⟩ : ∃ lt : Nat, (if ((fs[ot] : Nat) : Int) < ((fs[j] : Nat) : Int) then ((fs[ot] : Nat) : Int) else ((fs[j] : Nat) : Int)) = (lt : Nat) ∧ lt < n := by
                by_cases q : ((fs[ot] : Nat) : Int) < ((fs[j] : Nat) : Int)
                · exact ⟨fs[ot], if_pos q, hfo⟩
                · exact ⟨fs[j], if_neg q, hfj⟩
              rw [elt]
              refine ⟨_, rfl, _, rfl, by show 2 ≤ sizeLine; decide, fun t ht => ?_⟩
              have s7 : Same H6 (upd H6 t (.tup [.int (lt : Nat), .int (lt : Nat)])) := Same.new ht
              have hl7 := s7 _ _ hl6
              have h7 := s7 _ _ h6
              refine ⟨t, _, rfl, SqT.of upd_same, rfl, _, _, rfl, _, rfl, _, rfl, l, _, _, j, rfl, rfl, hl7, ixN_nat (by rw [natsV_len]; exact hjl), _, _, rfl, _, rfl, _, rfl, l, _, _, ot, rfl, rfl, upd_same, ixN_nat (by rw [List.length_set, natsV_len]; exact hol), rfl, ?_⟩
              rw [upd_upd, natsV_set, natsV_set]
              refine ⟨_, _, (fs.set j lt).set ot lt, rfl, (s6.trans s7).upd hl, by rw [upd_ne (Ne.symm nl4)]; exact h7, upd_same, by rw [List.length_set, List.length_set]; exact hfl, fun x hx => ?_⟩
              rcases List.mem_or_eq_of_mem_set hx with hx | rfl
              · rcases List.mem_or_eq_of_mem_set hx with hx | rfl
                · exact hfs x hx
                · exact hlt
              · exact hlt
            · exact ⟨_, _, fs, rfl, s6, h6, hl6, hfl, hfs⟩
          · exact ⟨_, _, fs, rfl, s6, h6, hl6, hfl, hfs⟩
        · rintro σ H6 ⟨v7, v8, fs, rfl, s6, h6, hl6, hfl, hfs⟩
          exact ⟨_, _, _, v7, v8, fs, rfl, s6, hl6, hfl, hfs⟩
      · rintro σ H2 ⟨v4, v5, v6, v7, v8, fs, rfl, s2, hl2, hfl, hfs⟩
        exact ⟨_, v4, v5, v6, v7, v8, fs, rfl, s2, hl2, hfl, hfs⟩
    · rintro σ H1 ⟨v3, v4, v5, v6, v7, v8, fs, rfl, s1, hl1, hfl, hfs⟩
      have en : natsV fs = (fs.map fun x => ((x : Nat) : Int)).map V.int := by rw [List.map_map]; rfl
      refine ⟨_, rfl, l, fs.map fun x => ((x : Nat) : Int), rfl, by rw [← en]; exact SqL.of hl1, by rw [List.length_map]; omega, fun zs q hz hzl hq => ?_⟩
      rw [List.length_map] at hzl
      have s2 : Same H1 (upd H1 q (.lst (zs.map V.int))) := Same.new hq
      have hq2 : upd H1 q (.lst (zs.map V.int)) q = some (.lst (zs.map V.int)) := upd_same
      show gName 9 _ _ (upd H1 q (.lst (zs.map V.int))) _
      generalize upd H1 q (.lst (zs.map V.int)) = H2 at *
      refine ⟨_, rfl, l, rfl, ⟨_, SqL.of (s2 _ _ hl1)⟩, fun L hL => ?_⟩
      refine lc_it (walk_list (xs := natsV fs)) (fun i H' => Same H2 H' ∧ ∃ js : List Nat, H' L = some (.lst (natsV js)) ∧ js.length = i ∧ ∀ x ∈ js, x ≤ 9) ⟨Same.new hL, [], upd_same, rfl, fun x hx => by cases hx⟩ (fun i H' _ z => SqL.of (z.1 _ _ (s2 _ _ hl1))) (fun i x H3' H3 hi z y => ?_) (fun H3 z => ?_)
      · obtain ⟨s3, js, hjs, hjl, hj9⟩ := z
        obtain ⟨rfl, hx⟩ := y
        rw [natsV_len] at hi
        rw [natsV_at hi] at hx
        cases hx
        refine ⟨rfl, ?_⟩
        unfold tYes
        dsimp only
        rw [if_pos rfl]
        have hmem : ((fs[i] : Nat) : Int) ∈ zs := (hz _).mpr (List.mem_map.mpr ⟨fs[i], List.getElem_mem hi, rfl⟩)
        obtain ⟨jj, g1, g2, g3⟩ := first_at hmem
        refine ⟨_, rfl, .inl ⟨rfl, _, SqL.of (s3 _ _ hq2)⟩, _, rfl, q, _, _, jj, _, rfl, rfl, SqL.of (s3 _ _ hq2), rfl, flat_ints zs, g2, by show (((fs[i] : Nat) : Int) == ((fs[i] : Nat) : Int)) = true; exact beq_self_eq_true _, g3, ?_⟩
        refine ⟨_, hjs, by rw [natsV_len, hjl]; exact small1000 (by omega), s3.upd hL, js ++ [jj], by rw [upd_same, natsV_app], by rw [List.length_append, hjl]; rfl, fun x hx => ?_⟩
        rcases List.mem_append.mp hx with hx | hx
        · exact hj9 x hx
        · rw [List.mem_singleton.mp hx]
          omega
      · obtain ⟨s3, js, hjs, hjl, hj9⟩ := z
        rw [natsV_len] at hjl
        refine ⟨L, _, rfl, .inl ⟨SqL.of hjs, fun v hv => ?_⟩⟩
        exact k v js _ ((s1.trans (s2.trans s3)).new' hv) upd_same (by omega) hj9
end
end S57


set_option Elab.async false
set_option linter.all false
set_option maxRecDepth 100000
set_option maxHeartbeats 4000000
namespace S57
open PySem PySem.Spec PyProof.Rows L2 TL
theorem cut_to (xs : List V) {k : Nat} (h : k ≤ xs.length) : cutV xs none (some ((k : Nat) : Int)) = xs.take k := by
  unfold cutV
  rw [show HT.sIx xs.length xs.length (some ((k : Nat) : Int)) = k from HT.sIx_nat _ _ k |>.trans (by omega), HT.sIx_none]
  simp
theorem cut_from (xs : List V) {k : Nat} (h : k ≤ xs.length) : cutV xs (some ((k : Nat) : Int)) none = xs.drop k := by
  unfold cutV
  rw [show HT.sIx xs.length 0 (some ((k : Nat) : Int)) = k from HT.sIx_nat _ _ k |>.trans (by omega), HT.sIx_none]
  rw [List.take_of_length_le]
  rw [List.length_drop]
  omega
def facM : Nat → Nat
  | 0 => 1
  | n + 1 => (n + 1) * facM n
theorem perm_pick {l : List Nat} {k : Nat} (h : k < l.length) {r : List Nat} (p : r.Perm (l.take k ++ l.drop (k + 1))) : (l[k] :: r).Perm l := by
  have e : l = l.take k ++ l[k] :: l.drop (k + 1) := by
    rw [← List.drop_eq_getElem_cons h, List.take_append_drop]
  have h2 : (l[k] :: r).Perm (l[k] :: (l.take k ++ l.drop (k + 1))) := p.cons _
  have h3 : (l[k] :: (l.take k ++ l.drop (k + 1))).Perm (l.take k ++ l[k] :: l.drop (k + 1)) := List.perm_middle.symm
  have h4 := h2.trans h3
  rw [← e] at h4
  exact h4
def TupsAt (H : Hp) : List Addr → List (List Nat) → Prop := Paired fun a o => H a = some (.tup (natsV o))
theorem TupsAt.same {H H' : Hp} {oa : List Addr} {os : List (List Nat)} (h : TupsAt H oa os) (s : Same H H') : TupsAt H' oa os := Paired.mapP h fun _ _ e => s _ _ e
theorem TupsAt.upd {H : Hp} {oa : List Addr} {os : List (List Nat)} {x : Addr} {xs : List V} {o : HO} (h : TupsAt H oa os) (hx : H x = some (.lst xs)) : TupsAt (L2.upd H x o) oa os := Paired.mapP h fun a _ e => by
  rw [upd_ne (fun z => by rw [z, hx] at e; cases e)]
  exact e
def sp_orders : Nat → Sp := fun n vs H Q _ => ∃ (v : Addr) (l : List Nat), vs = [.ref v] ∧ H v = some (.lst (natsV l)) ∧ l.length = n ∧ n ≤ 3 ∧
  ∀ r oa os H', Same H H' → H r = none → H' r = some (.lst (oa.map V.ref)) → TupsAt H' oa os → os.length = facM n → (∀ o ∈ os, o.Perm l) → Q (.ref r) H'
def sp_ordersB : Nat → Sp
  | 0 => fun _ _ _ _ => False
  | n + 1 => sp_orders n
theorem fac_le : ∀ n, n ≤ 3 → facM n ≤ 6 ∧ 1 ≤ facM n := by decide
section
variable {P : Program} {w : World} {K : Fr} {mg : Str → Option Value} {base : Heap}
def sp__law_pattern (K : Fr) : Sp := fun vs H Q _ => ∃ (a sc : Addr) (ns : List Int) (p : Addr) (D : PkS), vs = [.ref a, .ref p] ∧ RwAt K H a sc ns ∧ PkAt K H p D ∧ D.ok ∧
  ∀ q ws H', Off [a] H H' → RwAt K H' a sc ns → H' q = some (.tup (natsV ws)) → ws.length = D.w * D.h → (∀ x ∈ ws, x ≤ 9) → Q (.ref q) H'
theorem sc__law_pattern0 : FnScope ["_law_row_here", "_law_packet_here", "_law_cell"] ["_law_row_here", "_law_packet_here"] (defScope s__law_pattern) := ⟨rfl, rfl, rfl, by decide +kernel, rfl, by decide +kernel, by decide +kernel⟩
theorem ok__law_pattern (T : Txt K mg w) : FnR P w K mg base CX0 4 (a__law_pattern K) (sp__law_pattern K) := by
  refine fnr0 (d__law_pattern T) sc__law_pattern0 (fun _ _ _ _ _ _ us hl => match us, hl with | [_, _], _ => rfl) (fun vs H Q E h => ?_) (fun cdv A outer s H vs Q E hr h => ?_)
  · obtain ⟨a, sc, ns, p, D, rfl, _⟩ := h
    rfl
  · obtain ⟨a, sc, ns, p, D, rfl, hR, hp, o, k⟩ := h
    refine ⟨_, (pss_one (ps_ret (pe_g (ok__law_parted T) (hr.mono (by decide)) (g__law_parted T) (kp__law_parted T) pass0 (pa_cons (pv 1) (pa_cons (pe_lc (own := [("_law_cell", 2)]) (g := gName 2) (tt := tYes) rfl sc__law_pattern0.nd (pi_range1 (by rfl) (n_range T) (pa_cons (SlX.pe_propSl (pv 1) (sc_Packet T) (pr_Packet_cells T).at_ (pr_Packet_cells T).get (pr_Packet_cells T).tak (pr_Packet_cells T).rec_ (ok_Packet_cells T) (hr.mono (by decide)) pass0p) pa_nil)) (blkOk_by (own := [("_law_cell", 2)]) (N := ["_law_row_here", "_law_packet_here", "_law_cell"]) (sc := defScope s__law_pattern) (by decide +kernel)) (fun _ _ _ _ _ => (pg_name (i := 2) sc__law_pattern0.nd rfl (by first | exact Or.inl rfl | exact Or.inr rfl))) (fun _ _ _ _ _ => pts_nil) (fun _ _ _ _ _ => (pe_g (ok__law_taken T) (hr.mono (by decide)) (g__law_taken T) (kp__law_taken T) pass0 (pa_cons (pv 0) (pa_cons pe_int pa_nil))))) pa_nil))))), ?_⟩
    obtain ⟨c1, c6⟩ := o.cells
    obtain ⟨pdx, pt, ps, q1, q2, q3⟩ := hp.parts
    refine ⟨_, rfl, _, rfl, p, pdx, _, rfl, q1, p, D, rfl, hp, o, ?_⟩
    refine ⟨((D.w * D.h : Nat) : Int), rfl, by omega, by omega, fun L hL => ?_⟩
    rw [Int.toNat_natCast]
    have naL : a ≠ L := fun z => by obtain ⟨u, e⟩ := hR.there; rw [z, hL] at e; cases e
    refine lc_it walk_range (fun j H' => Off [a] H H' ∧ RwAt K H' a sc ns ∧ ∃ ms : List Nat, H' L = some (.lst (natsV ms)) ∧ ms.length = j) ⟨(Off.refl _ _).updN hL, hR.keep ((Off.refl _ _).updN hL) hR (fun u e => by rw [upd_ne naL]; exact e), [], upd_same, rfl⟩ (fun _ _ _ _ => trivial) (fun j x H1' H1 hj q y => ?_) (fun H1 q => ?_)
    · obtain ⟨o1, hR1, ms, hms, hml⟩ := q
      obtain ⟨rfl, rfl⟩ := y
      refine ⟨rfl, ?_⟩
      unfold tYes
      dsimp only
      rw [if_pos rfl]
      refine ⟨_, rfl, a, sc, ns, 3, rfl, hR1, by decide, by decide, fun r H2 hr2 o2 hR2 => ?_⟩
      have hms2 := o2.old _ _ (by simpa using Ne.symm naL) hms
      exact ⟨_, hms2, by rw [natsV_len, hml]; exact small1000 (by omega), (o1.trans o2).updN hL, hR.keep ((o1.trans o2).updN hL) hR2 (fun u e => by rw [upd_ne naL]; exact e), ms ++ [r], by rw [upd_same, natsV_app], by rw [List.length_append, hml]; rfl⟩
    · obtain ⟨o1, hR1, ms, hms, hml⟩ := q
      refine ⟨p, L, D, ms, rfl, hp.offR hR o1, o, hms, hml, fun q ws H2 s2 hq hwl hw9 => ?_⟩
      exact k q ws H2 (o1.trans (Off.of s2)) (hR1.same s2) hq hwl hw9
theorem sc__law_orders0 : FnScope ["_law_values", "_law_found", "_law_k", "_law_rest"] ["_law_values"] (defScope s__law_orders) := ⟨rfl, rfl, rfl, by decide +kernel, rfl, by decide +kernel, by decide +kernel⟩
theorem ok_orders_of (T : Txt K mg w) {n k : Nat} (F : FnR P w K mg base CX0 k (a__law_orders K) (sp_ordersB n)) : FnR P w K mg base CX0 (k+1) (a__law_orders K) (sp_orders n) := by
  refine fnr0 (d__law_orders T) sc__law_orders0 (fun _ _ _ _ _ _ us hl => match us, hl with | [_], _ => rfl) (fun vs H Q E h => ?_) (fun cdv A outer s H vs Q E hr h => ?_)
  · obtain ⟨v, l, rfl, _⟩ := h
    rfl
  · obtain ⟨v, l, rfl, hv, hl, hn, kk⟩ := h
    refine ⟨_, (pss_cons (ps_if (pt_cmpR (op_eqE hr.units0) (pv 0) (pe_lst pa_nil) (nomark _)) (pss_one (ps_ret (pe_lst (pa_cons (pe_tup pa_nil) pa_nil)))) pss_nil)
    (pss_cons (ps_set (i := 1) sc__law_orders0.nd rfl (by first | exact Or.inl rfl | exact Or.inr rfl) (pe_lst pa_nil))
    (pss_cons (ps_for PassesOwn.never rfl (pi_range1 (by rfl) (n_range T) (pa_cons (pe_callB call_len_seq (by rfl) (n_len T) boot_len (pa_cons (pv 0) pa_nil)) pa_nil)) (pg_name (i := 2) sc__law_orders0.nd rfl (by first | exact Or.inl rfl | exact Or.inr rfl))
    (pss_one (ps_set (i := 1) sc__law_orders0.nd rfl (by first | exact Or.inl rfl | exact Or.inr rfl) (pe_op op_cat (pv 1) (pe_lc (own := [("_law_rest", 3)]) (g := gName 3) (tt := tYes) rfl sc__law_orders0.nd (pi_list (pe_g F hr (g__law_orders T) (kp__law_orders T) pass0 (pa_cons (pe_op op_cat (pe_slice sl_list (pv 0) po_none (po_some (pv 2))) (pe_slice sl_list (pv 0) (po_some (pe_op op_add (pv 2) pe_int)) po_none)) pa_nil))) (blkOk_by (own := [("_law_rest", 3)]) (N := ["_law_values", "_law_found", "_law_k", "_law_rest"]) (sc := defScope s__law_orders) (by decide +kernel)) (fun _ _ _ _ _ => (pg_name (i := 3) sc__law_orders0.nd rfl (by first | exact Or.inl rfl | exact Or.inr rfl))) (fun _ _ _ _ _ => pts_nil) (fun _ _ _ _ _ => (pe_op (show OpR _ _ (rCatT K) from op_catT) (pe_tup (pa_cons (pe_ix (show IxR _ (rIxL K) from ix_list) (pv 0) (pv 2) (fun _ _ => rfl)) pa_nil)) (pv 3))))))))
    (pss_one (ps_ret (pv 1)))))), ?_⟩
    refine ⟨_, rfl, Nat.zero_le _, fun e he => ?_⟩
    have sE : Same H (upd H e (.lst [])) := Same.new he
    refine ⟨v, e, natsV l, rfl, rfl, SqL.of (sE _ _ hv), SqL.of upd_same, _, rfl, ?_⟩
    cases n with
    | zero =>
      have e0 : l = [] := List.eq_nil_of_length_eq_zero hl
      subst e0
      refine iteT ⟨Nat.zero_le _, fun t ht => ⟨Nat.succ_le_of_lt (by rw [sizeLine_eq]; decide), fun r hr' => ?_⟩⟩
      have sT := sE.new' (o := .tup []) ht
      have sR := sT.new' (o := .lst [V.ref t]) hr'
      refine kk r [t] [[]] _ sR (sT.free hr') upd_same (.cons ?_ .nil) rfl (fun o ho => by rw [List.mem_singleton.mp ho])
      exact (Same.new hr') _ _ upd_same
    | succ n =>
      have hne : (natsV l).isEmpty = false := by
        cases l with
        | nil => cases hl
        | cons a b => rfl
      rw [hne]
      refine iteF ⟨Nat.zero_le _, fun f0 hf0 => ?_⟩
      have sF := sE.new' (o := .lst []) hf0
      have hvF := sF _ _ hv
      have hF0 : upd (upd H e (.lst [])) f0 (.lst []) f0 = some (.lst []) := upd_same
      have hf00 : H f0 = none := sE.free hf0
      generalize upd (upd H e (.lst [])) f0 (.lst []) = H1 at *
      refine ⟨_, rfl, v, _, rfl, .inl (SqL.of hvF), (((natsV l).length : Nat) : Int), rfl, by omega, by rw [natsV_len]; omega, ?_⟩
      rw [Int.toNat_natCast, natsV_len]
      refine for_range (lo := 0) (n := l.length) (fun i σ H' => ∃ (v2 : Option V) (f : Addr) (oa : List Addr) (os : List (List Nat)), σ = [some (.ref v), some (.ref f), v2, none] ∧ Same H1 H' ∧ H f = none ∧ H' f = some (.lst (oa.map V.ref)) ∧ TupsAt H' oa os ∧ os.length = i * facM n ∧ ∀ o ∈ os, o.Perm l) ⟨none, f0, [], [], rfl, Same.refl _, hf00, hF0, .nil, by simp, fun o ho => by cases ho⟩ ?_ ?_
      · rintro i σ H2 hi ⟨v2, f, oa, os, rfl, s2, hf, hfl, hto, hol, hperm⟩
        have ei : ((0 : Int) + (i : Nat)) = ((i : Nat) : Int) := by omega
        rw [ei]
        have hv2 := s2 _ _ hvF
        have hil : i < l.length := hi
        refine ⟨_, rfl, _, rfl, _, rfl, ((i : Nat) : Int), rfl, v, natsV l, rfl, SqL.of hv2, fun p1 hp1 => ?_⟩
        have sA : Same H2 (upd H2 p1 (.lst (cutV (natsV l) none (some ((i : Nat) : Int))))) := Same.new hp1
        refine ⟨_, rfl, _, rfl, _, _, rfl, rfl, ((i : Nat) : Int) + 1, rfl, v, natsV l, rfl, SqL.of (sA _ _ hv2), fun p2 hp2 => ?_⟩
        have sB := sA.new' (o := .lst (cutV (natsV l) (some (((i : Nat) : Int) + 1)) none)) hp2
        have n12 : p1 ≠ p2 := fun z => by rw [← z, upd_same] at hp2; cases hp2
        have c1 : cutV (natsV l) none (some ((i : Nat) : Int)) = natsV (l.take i) := by
          rw [cut_to _ (by rw [natsV_len]; omega)]
          unfold natsV
          rw [List.map_take]
        have c2 : cutV (natsV l) (some (((i : Nat) : Int) + 1)) none = natsV (l.drop (i + 1)) := by
          have := cut_from (natsV l) (k := i + 1) (by rw [natsV_len]; omega)
          rw [show (((i + 1 : Nat)) : Int) = ((i : Nat) : Int) + 1 from rfl] at this
          rw [this]
          unfold natsV
          rw [List.map_drop]
        refine ⟨p1, p2, _, _, rfl, rfl, by rw [upd_ne n12, upd_same], upd_same, ?_, fun p3 hp3 => ?_⟩
        · rw [c1, c2, natsV_len, natsV_len, List.length_take, List.length_drop]
          exact Nat.le_of_lt (small1000 (by omega))
        have sC := sB.new' (o := .lst (cutV (natsV l) none (some ((i : Nat) : Int)) ++ cutV (natsV l) (some (((i : Nat) : Int) + 1)) none)) hp3
        have hP3 : upd (upd (upd H2 p1 (.lst (cutV (natsV l) none (some ((i : Nat) : Int))))) p2 (.lst (cutV (natsV l) (some (((i : Nat) : Int) + 1)) none))) p3 (.lst (cutV (natsV l) none (some ((i : Nat) : Int)) ++ cutV (natsV l) (some (((i : Nat) : Int) + 1)) none)) p3 = some (.lst (natsV (l.take i ++ l.drop (i + 1)))) := by
          rw [upd_same, c1, c2, natsV_apps]
        refine ⟨p3, l.take i ++ l.drop (i + 1), rfl, hP3, by rw [List.length_append, List.length_take, List.length_drop]; omega, by omega, fun r oa2 os2 H4 s4 hr4 hrl hT4 hl4 hp4 => ?_⟩
        have s14 := sC.trans s4
        have hos6 : os2.length ≤ 6 := by rw [hl4]; exact (fac_le n (by omega)).1
        have hoa2 : oa2.length = os2.length := Paired.length hT4
        refine ⟨r, rfl, ⟨_, SqL.of hrl⟩, fun L hL => ?_⟩
        refine lc_it (walk_list (xs := oa2.map V.ref)) (fun j H' => Same H4 H' ∧ ∃ (ca : List Addr) (cs : List (List Nat)), H' L = some (.lst (ca.map V.ref)) ∧ TupsAt H' ca cs ∧ cs.length = j ∧ ∀ o ∈ cs, o.Perm l) ⟨Same.new hL, [], [], upd_same, .nil, rfl, fun o ho => by cases ho⟩ (fun j H' _ z => SqL.of (z.1 _ _ hrl)) (fun j x H5' H5 hj z y => ?_) (fun H5 z => ?_)
        · obtain ⟨s5, ca, cs, hca, hcs, hcl, hcp⟩ := z
          obtain ⟨rfl, hx⟩ := y
          rw [List.length_map] at hj
          rw [List.getElem?_map] at hx
          obtain ⟨ra, hra, rfl⟩ := Option.map_eq_some_iff.mp hx
          obtain ⟨rest, hrest, hraT⟩ := Paired.get hT4 hra
          have hpm := hp4 rest (List.mem_of_getElem? hrest)
          have hrl6 : rest.length ≤ 3 := by
            rw [hpm.length_eq, List.length_append, List.length_take, List.length_drop]
            omega
          have hv5 := s5 _ _ (s14 _ _ hv2)
          refine ⟨rfl, ?_⟩
          unfold tYes
          dsimp only
          rw [if_pos rfl]
          refine ⟨_, rfl, _, rfl, v, _, _, _, rfl, rfl, SqL.of hv5, atI_nat (natsV_at hil), Nat.succ_le_of_lt (by rw [sizeLine_eq]; decide), fun t ht => ?_⟩
          have s6 : Same H5 (upd H5 t (.tup [.int ((l[i] : Nat) : Int)])) := Same.new ht
          have hca6 := s6 _ _ hca
          have hcal : ca.length = cs.length := Paired.length hcs
          have fin : ∀ (H6 : Hp) (q : Addr), Same H5 H6 → H6 q = some (.tup (natsV (l[i] :: rest))) → ∃ acc, H6 L = some (.lst acc) ∧ acc.length < sizeLine ∧ (Same H4 (upd H6 L (.lst (acc ++ [.ref q]))) ∧ ∃ (ca : List Addr) (cs : List (List Nat)), upd H6 L (.lst (acc ++ [.ref q])) L = some (.lst (ca.map V.ref)) ∧ TupsAt (upd H6 L (.lst (acc ++ [.ref q]))) ca cs ∧ cs.length = j + 1 ∧ ∀ o ∈ cs, o.Perm l) := fun H6 q sq hq => by
            have hL6 := sq _ _ hca
            refine ⟨_, hL6, by rw [List.length_map]; exact small1000 (by omega), (s5.trans sq).upd hL, ca ++ [q], cs ++ [l[i] :: rest], by rw [upd_same, List.map_append]; rfl, TupsAt.upd (Paired.app (hcs.same sq) (.cons hq .nil)) hL6, by rw [List.length_append, hcl]; rfl, fun o ho => ?_⟩
            rcases List.mem_append.mp ho with ho | ho
            · exact hcp o ho
            · rw [List.mem_singleton.mp ho]
              exact perm_pick hil hpm
          refine ⟨_, rfl, t, ra, _, natsV rest, rfl, rfl, SqT.of upd_same, SqT.of (s6 _ _ (s5 _ _ hraT)), by simp, by rw [natsV_len]; exact Nat.le_of_lt (small1000 (show 1 + rest.length ≤ 1000 by omega)), fun en => ?_, fun en q hq => ?_⟩
          · have er : rest = [] := by
              cases rest with
              | nil => rfl
              | cons a b => cases en
            exact fin _ t s6 (by rw [upd_same, er]; rfl)
          · exact fin _ q (s6.new' hq) (by rw [upd_same]; rfl)
        · obtain ⟨s5, ca, cs, hca, hcs, hcl, hcp⟩ := z
          rw [List.length_map, hoa2, hl4] at hcl
          have hf5 := s5 _ _ (s14 _ _ hfl)
          have h6 := (fac_le n (by omega)).1
          have hcal : ca.length = cs.length := Paired.length hcs
          have hoal : oa.length = os.length := Paired.length hto
          have him : i * facM n ≤ 3 * 6 := Nat.mul_le_mul (by omega) h6
          refine ⟨f, L, _, _, rfl, rfl, hf5, hca, by rw [List.length_map, List.length_map]; exact Nat.le_of_lt (small1000 (by omega)), fun f2 hf2 => ?_⟩
          have s7 := (s14.trans s5).new' (o := .lst (oa.map V.ref ++ ca.map V.ref)) hf2
          refine ⟨_, f2, oa ++ ca, os ++ cs, rfl, s2.trans s7, sF.free (s2.free ((s14.trans s5).free hf2)), by rw [upd_same, List.map_append], TupsAt.same (Paired.app (hto.same (s14.trans s5)) hcs) (Same.new hf2), by rw [List.length_append, hol, hcl, Nat.succ_mul], fun o ho => ?_⟩
          rcases List.mem_append.mp ho with ho | ho
          · exact hperm o ho
          · exact hcp o ho
      · rintro σ H2 ⟨v2, f, oa, os, rfl, s2, hf, hfl, hto, hol, hperm⟩
        exact ⟨_, rfl, kk f oa os H2 (sF.trans s2) hf hfl hto (by rw [hol, hl]; rfl) hperm⟩
end
end S57


set_option Elab.async false
set_option linter.all false
set_option maxRecDepth 100000
set_option maxHeartbeats 4000000
namespace S57
open PySem PySem.Spec PyProof.Rows L2 TL
theorem Off.free {M : List Addr} {H H' : Hp} {x : Addr} (o : Off M H H') (h : H' x = none) : H x = none := by
  cases q : H x with
  | none => rfl
  | some u => obtain ⟨u', e⟩ := o.there _ _ q; rw [h] at e; cases e
theorem RwAt.new {K : Fr} {H : Hp} {a sc x : Addr} {ns : List Int} (h : RwAt K H a sc ns) (e : H x = none) : x ∉ [a] := fun z => by
  obtain ⟨u, q⟩ := h.there
  rw [List.mem_singleton.mp z, q] at e
  cases e
def sp__law_orders : Sp := fun vs H Q E => ∃ n, sp_orders n vs H Q E
theorem pick3 {r4 r3 : Nat} (h3 : r3 < 3) (h4 : r4 < 4) : ∃ v : Nat, v < 4 ∧ ([V.int 0, .int 0, .int (r4 : Nat)] : List V)[r3]? = some (.int (v : Nat)) := by
  match r3, h3 with
  | 0, _ => exact ⟨0, by decide, rfl⟩
  | 1, _ => exact ⟨0, by decide, rfl⟩
  | 2, _ => exact ⟨r4, h4, rfl⟩
theorem vals_none {h : Str} {nums : List Nat} : Wd.vals ⟨h, nums, none⟩ = .str h :: natsV nums := by
  show V.str h :: (natsV nums ++ []) = _
  rw [List.append_nil]
theorem perm_op {D : PkS} {v : Nat} {o : List Nat} (p : o.Perm (List.range D.sh.length)) : (Op.exchange v o).ok D :=
  ⟨by rw [p.length_eq, List.length_range], p.nodup_iff.mpr List.nodup_range, fun x hx => List.mem_range.mp (p.mem_iff.mp hx)⟩
section
variable {P : Program} {w : World} {K : Fr} {mg : Str → Option Value} {base : Heap}
theorem ok_orders0 (T : Txt K mg w) : FnR P w K mg base CX0 2 (a__law_orders K) (sp_orders 0) := ok_orders_of (k := 1) T (fun _ _ _ _ _ _ _ _ _ _ _ h => h.elim)
theorem ok_orders1 (T : Txt K mg w) : FnR P w K mg base CX0 3 (a__law_orders K) (sp_orders 1) := ok_orders_of (n := 1) T (ok_orders0 T)
theorem ok_orders2 (T : Txt K mg w) : FnR P w K mg base CX0 4 (a__law_orders K) (sp_orders 2) := ok_orders_of (n := 2) T (ok_orders1 T)
theorem ok_orders3 (T : Txt K mg w) : FnR P w K mg base CX0 5 (a__law_orders K) (sp_orders 3) := ok_orders_of (n := 3) T (ok_orders2 T)
theorem ok__law_orders (T : Txt K mg w) : FnR P w K mg base CX0 5 (a__law_orders K) sp__law_orders := fun A outer s H us vs Q E hr e0 r h => by
  obtain ⟨n, h⟩ := h
  have h3 : n ≤ 3 := by obtain ⟨_, _, _, _, _, q, _⟩ := id h; exact q
  match n, h, h3 with
  | 0, h, _ => exact (ok_orders0 T).mono (by decide) A outer s H us vs Q E hr e0 r h
  | 1, h, _ => exact (ok_orders1 T).mono (by decide) A outer s H us vs Q E hr e0 r h
  | 2, h, _ => exact (ok_orders2 T).mono (by decide) A outer s H us vs Q E hr e0 r h
  | 3, h, _ => exact ok_orders3 T A outer s H us vs Q E hr e0 r h
def sp__law_row (K : Fr) : Sp := fun vs H Q _ => ∃ (a sc : Addr) (ns : List Int) (p : Addr) (D : PkS), vs = [.ref a, .ref p] ∧ RwAt K H a sc ns ∧ PkAt K H p D ∧ D.ok ∧
  ∀ r (x : Row) H', Off [a] H H' → RwAt K H' a sc ns → H r = none → H' r = some (.lst x.wd.vals) → x.ok D → Q (.ref r) H'
theorem sc__law_row0 : FnScope ["_law_row_here", "_law_packet_here", "_law_pick", "_law_some", "_law_number"] ["_law_row_here", "_law_packet_here"] (defScope s__law_row) := ⟨rfl, rfl, rfl, by decide +kernel, rfl, by decide +kernel, by decide +kernel⟩
theorem ok__law_row (T : Txt K mg w) : FnR P w K mg base CX0 6 (a__law_row K) (sp__law_row K) := by
  refine fnr0 (d__law_row T) sc__law_row0 (fun _ _ _ _ _ _ us hl => match us, hl with | [_, _], _ => rfl) (fun vs H Q E h => ?_) (fun cdv A outer s H vs Q E hr h => ?_)
  · obtain ⟨a, sc, ns, p, D, rfl, _⟩ := h
    rfl
  · obtain ⟨a, sc, ns, p, D, rfl, hR, hp, o, k⟩ := h
    refine ⟨_, (pss_cons (ps_par (i := 2) (j := 3) rfl sc__law_row0.nd rfl rfl (by decide) rfl rfl (pa_cons (pe_g (ok__law_taken T) (hr.mono (by decide)) (g__law_taken T) (kp__law_taken T) pass0 (pa_cons (pv 0) (pa_cons pe_int pa_nil))) (pa_cons (pe_g (ok__law_orders T) (hr.mono (by decide)) (g__law_orders T) (kp__law_orders T) pass0 (pa_cons (pe_listRg rfl rfl (n_list T) (prg_1 rfl (n_range T) (pe_callB (call_lenO (fs_Packet_len T).1 (fs_Packet_len T).2 (ok_Packet_len T) (hr.mono (by decide)) pass0) (by rfl) (n_len T) boot_len (pa_cons (pv 1) pa_nil)))) pa_nil)) pa_nil)) (by rfl))
    (pss_cons (ps_if (pt_cmpR op_lt (pv 2) pe_int (nomark _)) (pss_one (ps_ret (pe_op op_cat (pe_lst (pa_cons pe_str pa_nil)) (pe_callTy call_list_of (by rfl) (n_list T) (by decide +kernel) (pa_cons (pe_g (ok__law_pattern T) (hr.mono (by decide)) (g__law_pattern T) (kp__law_pattern T) pass0 (pa_cons (pv 0) (pa_cons (pv 1) pa_nil))) pa_nil))))) pss_nil)
    (pss_cons (ps_if (pt_cmpR op_lt (pv 2) pe_int (nomark _)) (pss_one (ps_ret (pe_op op_cat (pe_lst (pa_cons pe_str (pa_cons (pe_ix ix_list (pe_lst (pa_cons pe_int (pa_cons pe_int (pa_cons (pe_g (ok__law_taken T) (hr.mono (by decide)) (g__law_taken T) (kp__law_taken T) pass0 (pa_cons (pv 0) (pa_cons pe_int pa_nil))) pa_nil)))) (pe_g (ok__law_taken T) (hr.mono (by decide)) (g__law_taken T) (kp__law_taken T) pass0 (pa_cons (pv 0) (pa_cons pe_int pa_nil))) (fun _ _ => rfl)) pa_nil))) (pe_callTy call_list_of (by rfl) (n_list T) (by decide +kernel) (pa_cons (pe_ix ix_list (pv 3) (pe_g (ok__law_taken T) (hr.mono (by decide)) (g__law_taken T) (kp__law_taken T) pass0 (pa_cons (pv 0) (pa_cons (pe_callB call_len_seq (by rfl) (n_len T) boot_len (pa_cons (pv 3) pa_nil)) pa_nil))) (fun _ _ => rfl)) pa_nil))))) pss_nil)
    (pss_cons (ps_if (pt_cmpR op_lt (pv 2) pe_int (nomark _)) (pss_one (ps_ret (pe_lst (pa_cons pe_str pa_nil)))) pss_nil)
    (pss_cons (ps_set (i := 4) sc__law_row0.nd rfl (by first | exact Or.inl rfl | exact Or.inr rfl) (pe_ix ix_list (pe_lst (pa_cons pe_int (pa_cons pe_int (pa_cons (pe_g (ok__law_taken T) (hr.mono (by decide)) (g__law_taken T) (kp__law_taken T) pass0 (pa_cons (pv 0) (pa_cons pe_int pa_nil))) pa_nil)))) (pe_g (ok__law_taken T) (hr.mono (by decide)) (g__law_taken T) (kp__law_taken T) pass0 (pa_cons (pv 0) (pa_cons pe_int pa_nil))) (fun _ _ => rfl)))
    (pss_one (ps_ret (pe_ifExp (pt_cmpR op_lt (pv 2) pe_int (nomark _)) (pe_lst (pa_cons pe_str (pa_cons (pv 4) pa_nil))) (pe_lst (pa_cons pe_str (pa_cons (pv 4) pa_nil))))))))))), ?_⟩
    have n1 := o.n1; have n3 := o.n3
    refine ⟨_, rfl, a, sc, ns, 12, rfl, hR, by decide, by decide, fun pk H1 hpk o1 hR1 => ?_⟩
    have hp1 := hp.offR hR o1
    obtain ⟨pdx, pt, ps, q1, q2, q3⟩ := hp1.parts
    refine ⟨_, rfl, p, pdx, _, rfl, q1, p, D, rfl, hp1, _, rfl, by omega, _, rfl, ⟨by omega, by omega, by omega, by omega, by omega⟩, fun t ht => ?_⟩
    rw [rgV_nat]
    refine ⟨D.sh.length, t, List.range D.sh.length, rfl, upd_same, List.length_range, n3, fun so oa os H2 s2' hso hsl hT hol hpm => ?_⟩
    have s2 : Same H1 H2 := (Same.new ht).trans s2'
    have hso1 : H1 so = none := (Same.new ht).free hso
    have o2 := o1.trans (Off.of s2)
    have hR2 := hR1.same s2
    have hp2 := hp1.mono s2
    have fac := fac_le D.sh.length n3
    have hoa : oa.length = os.length := Paired.length hT
    refine ⟨_, _, rfl, ?_⟩
    clear s2' hso ht
    refine ⟨_, rfl, _, _, rfl, rfl, _, rfl, ite2 (fun e => ?_) (fun e => ?_)⟩
    · refine ⟨Nat.succ_le_of_lt (by rw [sizeLine_eq]; decide), fun l1 hl1 => ?_⟩
      have sA : Same H2 (upd H2 l1 (.lst [.str "saw"])) := Same.new hl1
      refine ⟨_, rfl, _, rfl, a, sc, ns, p, D, rfl, hR2.same sA, hp2.mono sA, o, fun q ws H3 o3 hR3 hq hwl hw9 => ?_⟩
      have h13 := o3.old _ _ (hR2.new hl1) (show upd H2 l1 (.lst [.str "saw"]) l1 = some (.lst [.str "saw"]) from upd_same)
      refine ⟨q, natsV ws, rfl, .inr (SqT.of hq), fun l2 hl2 => ?_⟩
      have sB : Same H3 (upd H3 l2 (.lst (natsV ws))) := Same.new hl2
      have h6 := o.cells.2
      refine ⟨l1, l2, _, _, rfl, rfl, sB _ _ h13, upd_same, Nat.le_of_lt (small1000 (by rw [natsV_len]; show 1 + ws.length ≤ 1000; omega)), fun r hr0 => ?_⟩
      have sC := sB.new' (o := .lst ([V.str "saw"] ++ natsV ws)) hr0
      refine k r (.saw ws) _ ((o2.trans (Off.of sA)).trans (o3.trans (Off.of sC))) (hR3.same sC) (Off.free o2 (sA.free (Off.free o3 (sB.free hr0)))) ?_ ⟨hwl, hw9⟩
      rw [upd_same]
      exact congrArg (fun z => some (HO.lst z)) vals_none.symm
    refine ⟨_, rfl, _, _, rfl, rfl, _, rfl, ite2 (fun e => ?_) (fun e => ?_)⟩
    · refine ⟨_, rfl, a, sc, ns, 4, rfl, hR2, by decide, by decide, fun r4 H3 hr4 o3 hR3 => ⟨Nat.le_of_lt (small1000 (show 3 ≤ 1000 by decide)), fun l0 hl0 => ?_⟩⟩
      have sA : Same H3 (upd H3 l0 (.lst [.int 0, .int 0, .int (r4 : Nat)])) := Same.new hl0
      refine ⟨_, rfl, a, sc, ns, 3, rfl, hR3.same sA, by decide, by decide, fun r3 H4 hr3 o4 hR4 => ?_⟩
      have h04 := o4.old _ _ (hR3.new hl0) (show upd H3 l0 (.lst [.int 0, .int 0, .int (r4 : Nat)]) l0 = some (.lst [.int 0, .int 0, .int (r4 : Nat)]) from upd_same)
      obtain ⟨v, hv4, hv⟩ := pick3 hr3 hr4
      refine ⟨l0, _, _, _, rfl, rfl, SqL.of h04, atI_nat hv, Nat.le_of_lt (small1000 (show 2 ≤ 1000 by decide)), fun l1 hl1 => ?_⟩
      have sB : Same H4 (upd H4 l1 (.lst [.str "exchange", .int (v : Nat)])) := Same.new hl1
      have oB : Off [a] H2 (upd H4 l1 (.lst [.str "exchange", .int (v : Nat)])) := (o3.trans (Off.of sA)).trans (o4.trans (Off.of sB))
      have hRB := hR4.same sB
      have hB1 : upd H4 l1 (.lst [.str "exchange", .int (v : Nat)]) l1 = some (.lst [.str "exchange", .int (v : Nat)]) := upd_same
      have nl1 : l1 ∉ [a] := hR4.new hl1
      have nl1H := Off.free o2 (Off.free (o3.trans (Off.of sA)) (Off.free o4 hl1))
      generalize upd H4 l1 (.lst [.str "exchange", .int (v : Nat)]) = H5 at *
      have nso : so ∉ [a] := hR1.new hso1
      have hs5 := oB.old _ _ nso hsl
      refine ⟨_, rfl, _, rfl, _, rfl, so, _, rfl, .inl (SqL.of hs5), a, sc, ns, (oa.map V.ref).length, rfl, hRB, by rw [List.length_map]; omega, by rw [List.length_map]; omega, fun r5 H6 hr5 o6 hR6 => ?_⟩
      rw [List.length_map] at hr5
      have hg : oa[r5]? = some oa[r5] := List.getElem?_eq_getElem hr5
      obtain ⟨od, hod, hodT⟩ := Paired.get hT hg
      have hpo := hpm od (List.mem_of_getElem? hod)
      have hodl : od.length = D.sh.length := by rw [hpo.length_eq, List.length_range]
      refine ⟨so, _, _, _, rfl, rfl, SqL.of (o6.old _ _ nso hs5), atI_nat (by rw [List.getElem?_map, hg]; rfl), ?_⟩
      refine ⟨oa[r5], natsV od, rfl, .inr (SqT.of (o6.tup _ _ (oB.tup _ _ hodT))), fun l2 hl2 => ?_⟩
      have sD : Same H6 (upd H6 l2 (.lst (natsV od))) := Same.new hl2
      refine ⟨l1, l2, _, _, rfl, rfl, sD _ _ (o6.old _ _ nl1 hB1), upd_same, Nat.le_of_lt (small1000 (by rw [natsV_len]; show 2 + od.length ≤ 1000; omega)), fun r hr0 => ?_⟩
      have sE := sD.new' (o := .lst ([V.str "exchange", .int (v : Nat)] ++ natsV od)) hr0
      refine k r (.exchange v od) _ (o2.trans (oB.trans (o6.trans (Off.of sE)))) (hR6.same sE) (Off.free o2 (Off.free oB (Off.free o6 (sD.free hr0)))) ?_ ⟨by omega, perm_op hpo⟩
      rw [upd_same]
      exact congrArg (fun z => some (HO.lst z)) (vals_none (h := "exchange") (nums := v :: od)).symm
    refine ⟨_, rfl, _, _, rfl, rfl, _, rfl, ite2 (fun e => ?_) (fun e => ?_)⟩
    · refine ⟨Nat.succ_le_of_lt (by rw [sizeLine_eq]; decide), fun r hr0 => ?_⟩
      exact k r .glue _ (o2.new hr0) (hR2.same (Same.new hr0)) (Off.free o2 hr0) (by rw [upd_same]; rfl) trivial
    refine ⟨_, rfl, a, sc, ns, 4, rfl, hR2, by decide, by decide, fun r4 H3 hr4 o3 hR3 => ⟨Nat.le_of_lt (small1000 (show 3 ≤ 1000 by decide)), fun l0 hl0 => ?_⟩⟩
    have sA : Same H3 (upd H3 l0 (.lst [.int 0, .int 0, .int (r4 : Nat)])) := Same.new hl0
    refine ⟨_, rfl, a, sc, ns, 3, rfl, hR3.same sA, by decide, by decide, fun r3 H4 hr3 o4 hR4 => ?_⟩
    have h04 := o4.old _ _ (hR3.new hl0) (show upd H3 l0 (.lst [.int 0, .int 0, .int (r4 : Nat)]) l0 = some (.lst [.int 0, .int 0, .int (r4 : Nat)]) from upd_same)
    obtain ⟨v, hv4, hv⟩ := pick3 hr3 hr4
    refine ⟨l0, _, _, _, rfl, rfl, SqL.of h04, atI_nat hv, ?_⟩
    have oB := (o3.trans (Off.of sA)).trans o4
    refine ⟨_, rfl, _, _, rfl, rfl, _, rfl, ite2 (fun e => ?_) (fun e => ?_)⟩
    · refine ⟨_, rfl, Nat.le_of_lt (small1000 (show 2 ≤ 1000 by decide)), fun r hr0 => ?_⟩
      exact k r (.over v) _ ((o2.trans oB).new hr0) (hR4.same (Same.new hr0)) (Off.free (o2.trans oB) hr0) (by rw [upd_same]; rfl) (show v < 100 by omega)
    · refine ⟨_, rfl, Nat.le_of_lt (small1000 (show 2 ≤ 1000 by decide)), fun r hr0 => ?_⟩
      exact k r (.shw v) _ ((o2.trans oB).new hr0) (hR4.same (Same.new hr0)) (Off.free (o2.trans oB) hr0) (by rw [upd_same]; rfl) (show v < 100 by omega)
end
end S57


set_option Elab.async false
set_option linter.all false
set_option maxRecDepth 100000
set_option maxHeartbeats 4000000
namespace S57
open PySem PySem.Spec PyProof.Rows L2 TL
def NN (H : Hp) (f : Addr) : Addr → Prop := fun x => (∃ u, H x = some u) ∨ x = f
structure TreeI (K : Fr) (H : Hp) (a sc : Addr) (ns : List Int) (D : PkS) (d : Nat) (f : Addr) (i : Nat) (H' : Hp) (t : Tree) (l : List Addr) : Prop where
  off : Off [a] H H'
  rw' : RwAt K H' a sc ns
  at' : H' f = some (.lst (l.map V.ref))
  tr : TrL H' (NN H f) t l
  ok : t.ok D
  sl : Slim d t
  ct : t.cnt = i
  ln : l.length = i
theorem slim_row (d : Nat) (x : Row) : Slim d (.row x .nil) := by cases d <;> simp only [Slim]
theorem TreeI.push {K : Fr} {H H' H6 : Hp} {a sc : Addr} {ns : List Int} {D : PkS} {d : Nat} {f it : Addr} {i : Nat} {t t1 : Tree} {l : List Addr} (I : TreeI K H a sc ns D d f i H' t l) (hR : RwAt K H a sc ns) (hf : H f = none) (o6 : Off [a] H' H6) (hR6 : RwAt K H6 a sc ns)
    (h1 : TrL H6 (NN H f) t1 [it]) (ok1 : t1.ok D) (sl1 : Slim d t1) (c1 : t1.cnt = 1) : H6 f = some (.lst (l.map V.ref)) ∧ TreeI K H a sc ns D d f (i + 1) (upd H6 f (.lst (l.map V.ref ++ [.ref it]))) (t.app t1) (l ++ [it]) := by
  have nfa : f ∉ [a] := hR.new hf
  have hf6 := o6.old _ _ nfa I.at'
  have of : Off [f] H6 (upd H6 f (.lst (l.map V.ref ++ [.ref it]))) := Off.mut (by simp) hf6 (fun _ z => by cases z) (fun z => by cases z)
  have oall := (I.off.trans o6).updN (o := .lst (l.map V.ref ++ [.ref it])) hf
  have naf : a ≠ f := fun z => nfa (by rw [z]; simp)
  have h6 : TrL H6 (NN H f) t l := I.tr.go o6 (fun y hy => by rw [List.mem_singleton.mp hy]; exact .inl hR.there) (fun y hy => .inl hy)
  refine ⟨hf6, oall, hR.keep oall hR6 (fun u e => by rw [upd_ne naf]; exact e), by rw [upd_same, List.map_append]; rfl, ?_, (ok_app _ _).mpr ⟨I.ok, ok1⟩, slim_app I.sl sl1, by rw [cnt_app, I.ct, c1], by rw [List.length_append, I.ln]; rfl⟩
  have hM : ∀ y ∈ [f], NN H f y := fun y hy => .inr (List.mem_singleton.mp hy)
  exact TrL.app (h1.go of hM (fun y hy => .inl hy)) (h6.go of hM (fun y hy => .inl hy))
def sp_tree (K : Fr) : Nat → Sp := fun d vs H Q _ => ∃ (a sc : Addr) (ns : List Int) (p : Addr) (D : PkS), vs = [.ref a, .ref p, .int (d : Nat)] ∧ RwAt K H a sc ns ∧ PkAt K H p D ∧ D.ok ∧
  ∀ r t H', Off [a] H H' → RwAt K H' a sc ns → TrAt H' (fun x => ∃ u, H x = some u) r t → t.ok D → Slim d t → t.cnt ≤ 4 → Q (.ref r) H'
def sp_treeB (K : Fr) : Nat → Sp
  | 0 => fun _ _ _ _ => False
  | d + 1 => sp_tree K d
section
variable {P : Program} {w : World} {K : Fr} {mg : Str → Option Value} {base : Heap}
theorem sc__law_tree0 : FnScope ["_law_row_here", "_law_packet_here", "_law_depth", "_law_found", "_law_k", "_law_pick", "_law_words"] ["_law_row_here", "_law_packet_here", "_law_depth"] (defScope s__law_tree) := ⟨rfl, rfl, rfl, by decide +kernel, rfl, by decide +kernel, by decide +kernel⟩
theorem ok_tree_of (T : Txt K mg w) {d k : Nat} (hk : 6 ≤ k) (F : FnR P w K mg base CX0 k (a__law_tree K) (sp_treeB K d)) : FnR P w K mg base CX0 (k+1) (a__law_tree K) (sp_tree K d) := by
  refine fnr0 (d__law_tree T) sc__law_tree0 (fun _ _ _ _ _ _ us hl => match us, hl with | [_, _, _], _ => rfl) (fun vs H Q E h => ?_) (fun cdv A outer s H vs Q E hr h => ?_)
  · obtain ⟨a, sc, ns, p, D, rfl, _⟩ := h
    rfl
  · obtain ⟨a, sc, ns, p, D, rfl, hR, hp, o, kk⟩ := h
    refine ⟨_, (pss_cons (ps_set (i := 3) sc__law_tree0.nd rfl (by first | exact Or.inl rfl | exact Or.inr rfl) (pe_lst pa_nil))
    (pss_cons (ps_for PassesOwn.never rfl (pi_range1 (by rfl) (n_range T) (pa_cons (pe_op op_add pe_int (pe_g (ok__law_taken T) (hr.mono (by omega)) (g__law_taken T) (kp__law_taken T) pass0 (pa_cons (pv 0) (pa_cons pe_int pa_nil)))) pa_nil)) (pg_name (i := 4) sc__law_tree0.nd rfl (by first | exact Or.inl rfl | exact Or.inr rfl))
    (pss_cons (ps_set (i := 5) sc__law_tree0.nd rfl (by first | exact Or.inl rfl | exact Or.inr rfl) (pe_g (ok__law_taken T) (hr.mono (by omega)) (g__law_taken T) (kp__law_taken T) pass0 (pa_cons (pv 0) (pa_cons pe_int pa_nil))))
    (pss_one (ps_if (PW.pt (pw_and (pt_cmpR op_gt (pv 2) pe_int (nomark _)) (pw_and1 (pt_cmpR op_eq (pv 5) pe_int (nomark _))))) (pss_one (ps_expr (pe_bm PySem.F.plainAttrs_list PySem.F.slot_list_append PySem.F.type_list_append mt_append (pv 3) (pa_cons (pe_tup (pa_cons (pe_lst (pa_cons pe_str (pa_cons (pe_g (ok__law_taken T) (hr.mono (by omega)) (g__law_taken T) (kp__law_taken T) pass0 (pa_cons (pv 0) (pa_cons pe_int pa_nil))) pa_nil))) (pa_cons (pe_g F hr (g__law_tree T) (kp__law_tree T) pass0 (pa_cons (pv 0) (pa_cons (pv 1) (pa_cons (pe_op op_sub (pv 2) pe_int) pa_nil)))) pa_nil))) pa_nil)))) (pss_one (ps_if (PW.pt (pw_and (pt_cmpR op_gt (pv 2) pe_int (nomark _)) (pw_and1 (pt_cmpR op_eq (pv 5) pe_int (nomark _))))) (pss_cons (ps_set (i := 6) sc__law_tree0.nd rfl (by first | exact Or.inl rfl | exact Or.inr rfl) (pe_lst (pa_cons pe_str (pa_cons (pe_ix ix_list (pe_lst (pa_cons pe_int (pa_cons pe_int (pa_cons pe_int pa_nil)))) (pe_g (ok__law_taken T) (hr.mono (by omega)) (g__law_taken T) (kp__law_taken T) pass0 (pa_cons (pv 0) (pa_cons pe_int pa_nil))) (fun _ _ => rfl)) (pa_cons pe_int (pa_cons (pe_ix ix_str pe_str (pe_g (ok__law_taken T) (hr.mono (by omega)) (g__law_taken T) (kp__law_taken T) pass0 (pa_cons (pv 0) (pa_cons pe_int pa_nil))) (fun _ _ => rfl)) pa_nil))))))
    (pss_one (ps_expr (pe_bm PySem.F.plainAttrs_list PySem.F.slot_list_append PySem.F.type_list_append mt_append (pv 3) (pa_cons (pe_tup (pa_cons (pv 6) (pa_cons (pe_g F hr (g__law_tree T) (kp__law_tree T) pass0 (pa_cons (pv 0) (pa_cons (pv 1) (pa_cons (pe_op op_sub (pv 2) pe_int) pa_nil)))) pa_nil))) pa_nil))))) (pss_one (ps_expr (pe_bm PySem.F.plainAttrs_list PySem.F.slot_list_append PySem.F.type_list_append mt_append (pv 3) (pa_cons (pe_g (ok__law_row T) (hr.mono (by omega)) (g__law_row T) (kp__law_row T) pass0 (pa_cons (pv 0) (pa_cons (pv 1) pa_nil))) pa_nil))))))))))
    (pss_one (ps_ret (pv 3))))), ?_⟩
    refine ⟨Nat.zero_le _, fun f hf => ?_⟩
    have s0 : Same H (upd H f (.lst [])) := Same.new hf
    refine ⟨_, rfl, a, sc, ns, 4, rfl, hR.same s0, by decide, by decide, fun r0 H1 hr0 o1 hR1 => ?_⟩
    have hf1 := o1.old _ _ (hR.new hf) (show upd H f (.lst []) f = some (.lst []) from upd_same)
    have o01 : Off [a] H H1 := (Off.of s0).trans o1
    refine ⟨_, _, rfl, rfl, ((1 + r0 : Nat) : Int), by rw [Int.natCast_add]; rfl, by omega, by omega, ?_⟩
    rw [Int.toNat_natCast]
    refine for_range (lo := 0) (n := 1 + r0) (fun i σ H' => ∃ (v4 v5 v6 : Option V) (t : Tree) (l : List Addr), σ = [some (.ref a), some (.ref p), some (.int (d : Nat)), some (.ref f), v4, v5, v6] ∧ TreeI K H a sc ns D d f i H' t l)
      ⟨none, none, none, .nil, [], rfl, o01, hR1, hf1, rfl, trivial, by simp only [Slim], rfl, rfl⟩ ?_ ?_
    · rintro i σ H2 hi ⟨v4, v5, v6, t, l, rfl, I⟩
      refine ⟨_, rfl, a, sc, ns, 6, rfl, I.rw', by decide, by decide, fun pk H3 hpk o3 hR3 => ?_⟩
      have hp3 := (hp.offR hR I.off).offR I.rw' o3
      have nfa : f ∉ [a] := hR.new hf
      have hf3 := o3.old _ _ nfa I.at'
      have o03 := I.off.trans o3
      have hln := I.ln
      have hsz : (l.map V.ref).length < sizeLine := by rw [List.length_map]; exact small1000 (by omega)
      cases d with
      | zero =>
        refine ⟨_, rfl, _, _, rfl, rfl, _, rfl, iteF ?_⟩
        refine ⟨_, rfl, _, _, rfl, rfl, _, rfl, iteF ?_⟩
        refine ⟨_, rfl, .inl ⟨rfl, _, SqL.of hf3⟩, _, rfl, _, rfl, a, sc, ns, p, D, rfl, hR3, hp3, o, fun r x H6 o6 hR6 hr hrw hx => ?_⟩
        have nr : ¬ NN H f r := fun z => by
          rcases z with ⟨u, z⟩ | z
          · rw [Off.free o03 hr] at z; cases z
          · rw [z, hf3] at hr; cases hr
        obtain ⟨hf6, I'⟩ := I.push hR hf (o3.trans o6) hR6 (t1 := .row x .nil) (it := r) ⟨r, [], rfl, ⟨nr, hrw⟩, rfl⟩ ⟨hx, trivial⟩ (slim_row _ _) rfl
        exact ⟨f, _, _, rfl, rfl, hf6, hsz, _, _, _, _, _, rfl, I'⟩
      | succ d =>
        have hd0 : decide ((0 : Int) < (((d + 1 : Nat)) : Int)) = true := decide_eq_true (by omega)
        have ed : (((d + 1 : Nat) : Int) - 1) = ((d : Nat) : Int) := by omega
        have eargs : [V.ref a, V.ref p, V.int (((d + 1 : Nat) : Int) - 1)] = [V.ref a, V.ref p, V.int ((d : Nat) : Int)] := by rw [ed]
        have blk : ∀ (H4 H6 : Hp) (wl b tp : Addr) (h : Hdr) (tb : Tree), Off [a] H2 H4 → RwAt K H4 a sc ns → H4 wl = none → ∀ (o6 : Off [a] (upd H4 wl (.lst h.wd.vals)) H6) (hR6 : RwAt K H6 a sc ns), TrAt H6 (fun x => ∃ u, upd H4 wl (.lst h.wd.vals) x = some u) b tb → tb.ok D → Slim d tb → tb.cnt ≤ 4 → h.ok → (∀ n, h = .rep n → n ≤ 3) → H6 tp = none →
            upd H6 tp (.tup [.ref wl, .ref b]) f = some (.lst (l.map V.ref)) ∧ ∃ t' l', TreeI K H a sc ns D (d + 1) f (i + 1) (upd (upd H6 tp (.tup [.ref wl, .ref b])) f (.lst (l.map V.ref ++ [.ref tp]))) t' l' := fun H4 H6 wl b tp h tb o4 hR4 hwl o6 hR6 hb hok hsl hct hh hn htp => by
          have sW : Same H4 (upd H4 wl (.lst h.wd.vals)) := Same.new hwl
          have hf4 := o4.old _ _ nfa I.at'
          have o04 := I.off.trans o4
          have sT : Same H6 (upd H6 tp (.tup [.ref wl, .ref b])) := Same.new htp
          have hw6 := o6.old _ _ (hR4.new hwl) (show upd H4 wl (.lst h.wd.vals) wl = some (.lst h.wd.vals) from upd_same)
          have nw : ¬ NN H f wl := fun z => by
            rcases z with ⟨u, z⟩ | z
            · rw [Off.free o04 hwl] at z; cases z
            · rw [z, hf4] at hwl; cases hwl
          have hNb : ∀ y, NN H f y → (∃ u, upd H4 wl (.lst h.wd.vals) y = some u) ∨ H6 y = none := fun y hy => by
            rcases hy with ⟨u, hy⟩ | hy
            · obtain ⟨u', e⟩ := o04.there _ _ hy
              exact .inl ⟨_, sW _ _ e⟩
            · exact .inl ⟨_, by rw [hy]; exact sW _ _ hf4⟩
          obtain ⟨nb, bl, hbl, hbt⟩ := hb.same sT hNb
          obtain ⟨q1, q2⟩ := I.push hR hf ((o4.trans (Off.of sW)).trans (o6.trans (Off.of sT))) (hR6.same sT) (t1 := .blk h tb .nil) (it := tp) ⟨tp, [], wl, b, bl, rfl, upd_same, ⟨nw, sT _ _ hw6⟩, nb, hbl, hbt, rfl⟩ ⟨hh, hok, trivial⟩ ⟨hsl, hct, hn, by simp only [Slim]⟩ rfl
          exact ⟨q1, _, _, q2⟩
        refine ⟨_, rfl, _, _, rfl, rfl, _, rfl, ?_⟩
        rw [show decide ((0 : Int) < (((d + 1 : Nat)) : Int)) = true from hd0]
        refine iteT ⟨_, rfl, rfl, _, rfl, ite2 (fun e => ?_) (fun e => ?_)⟩
        · refine ⟨_, rfl, .inl ⟨rfl, _, SqL.of hf3⟩, _, rfl, a, sc, ns, 4, rfl, hR3, by decide, by decide, fun r4 H4 hr4 o4 hR4 => ⟨Nat.le_of_lt (small1000 (show 2 ≤ 1000 by decide)), fun wl hwl => ?_⟩⟩
          have sW : Same H4 (upd H4 wl (.lst [.str "repeat", .int (r4 : Nat)])) := Same.new hwl
          refine ⟨_, rfl, _, rfl, _, rfl, _, _, rfl, rfl, a, sc, ns, p, D, eargs, hR4.same sW, (hp3.offR hR3 o4).mono sW, o, fun b tb H6 o6 hR6 hb hok hsl hct => ⟨Nat.le_of_lt (small1000 (show 2 ≤ 1000 by decide)), fun tp htp => ?_⟩⟩
          obtain ⟨q1, t', l', q2⟩ := blk H4 H6 wl b tp (.rep r4) tb (o3.trans o4) hR4 hwl o6 hR6 hb hok hsl hct (show r4 < 100 by omega) (fun n en => by cases en; omega) htp
          exact ⟨f, _, _, rfl, rfl, q1, hsz, _, _, _, t', l', rfl, q2⟩
        refine ⟨_, rfl, _, _, rfl, rfl, _, rfl, ?_⟩
        rw [show decide ((0 : Int) < (((d + 1 : Nat)) : Int)) = true from hd0]
        refine iteT ⟨_, rfl, rfl, _, rfl, ite2 (fun e => ?_) (fun e => ?_)⟩
        · refine ⟨Nat.le_of_lt (small1000 (show 3 ≤ 1000 by decide)), fun l0 hl0 => ?_⟩
          have sA : Same H3 (upd H3 l0 (.lst [.int 0, .int 0, .int 1])) := Same.new hl0
          refine ⟨_, rfl, a, sc, ns, 3, rfl, hR3.same sA, by decide, by decide, fun r3 H4 hr3 o4 hR4 => ?_⟩
          have h04 := o4.old _ _ (hR3.new hl0) (show upd H3 l0 (.lst [.int 0, .int 0, .int 1]) l0 = some (.lst [.int 0, .int 0, .int 1]) from upd_same)
          obtain ⟨v, hv4, hv⟩ := pick3 (r4 := 1) hr3 (by decide)
          refine ⟨l0, _, _, _, rfl, rfl, SqL.of h04, atI_nat hv, ?_⟩
          refine ⟨_, rfl, a, sc, ns, 3, rfl, hR4, by decide, by decide, fun r5 H5 hr5 o5 hR5 => ⟨"abc", _, 97 + r5, rfl, rfl, by decide, abc_at hr5, ?_⟩⟩
          have o35 := (Off.of (M := [a]) sA).trans (o4.trans o5)
          have hp5 := hp3.offR hR3 o35
          refine ⟨Nat.le_of_lt (small1000 (show 4 ≤ 1000 by decide)), fun wl hwl => ?_⟩
          have sW : Same H5 (upd H5 wl (.lst [.str "when", .int (v : Nat), .int 0, .str (chr1 (97 + r5))])) := Same.new hwl
          have hf5 := sW _ _ (o35.old _ _ nfa hf3)
          refine ⟨_, rfl, .inl ⟨rfl, _, SqL.of hf5⟩, _, rfl, _, rfl, _, rfl, _, rfl, _, _, rfl, rfl, a, sc, ns, p, D, eargs, hR5.same sW, hp5.mono sW, o, fun b tb H6 o6 hR6 hb hok hsl hct => ⟨Nat.le_of_lt (small1000 (show 2 ≤ 1000 by decide)), fun tp htp => ?_⟩⟩
          obtain ⟨q1, t', l', q2⟩ := blk H5 H6 wl b tp (.whn v 0 (97 + r5)) tb (o3.trans o35) hR5 hwl o6 hR6 hb hok hsl hct ⟨by omega, by decide, by omega, by omega⟩ (fun n en => by cases en) htp
          exact ⟨f, _, _, rfl, rfl, q1, hsz, _, _, _, t', l', rfl, q2⟩
        · refine ⟨_, rfl, .inl ⟨rfl, _, SqL.of hf3⟩, _, rfl, _, rfl, a, sc, ns, p, D, rfl, hR3, hp3, o, fun r x H6 o6 hR6 hr hrw hx => ?_⟩
          have nr : ¬ NN H f r := fun z => by
            rcases z with ⟨u, z⟩ | z
            · rw [Off.free o03 hr] at z; cases z
            · rw [z, hf3] at hr; cases hr
          obtain ⟨hf6, I'⟩ := I.push hR hf (o3.trans o6) hR6 (t1 := .row x .nil) (it := r) ⟨r, [], rfl, ⟨nr, hrw⟩, rfl⟩ ⟨hx, trivial⟩ (slim_row _ _) rfl
          exact ⟨f, _, _, rfl, rfl, hf6, hsz, _, _, _, _, _, rfl, I'⟩
    · rintro σ H2 ⟨v4, v5, v6, t, l, rfl, I⟩
      have hct := I.ct
      refine ⟨_, rfl, kk f t H2 I.off I.rw' ⟨fun z => ?_, l, I.at', I.tr.go (Off.refl [] _) (by simp) (fun y hy => .inl (.inl hy))⟩ I.ok I.sl (by omega)⟩
      obtain ⟨u, z⟩ := z
      rw [hf] at z
      cases z
theorem ok_tree0 (T : Txt K mg w) : FnR P w K mg base CX0 7 (a__law_tree K) (sp_tree K 0) := ok_tree_of (k := 6) T (Nat.le_refl _) (fun _ _ _ _ _ _ _ _ _ _ _ h => h.elim)
theorem ok_tree1 (T : Txt K mg w) : FnR P w K mg base CX0 8 (a__law_tree K) (sp_tree K 1) := ok_tree_of (d := 1) T (by decide) (ok_tree0 T)
theorem ok__law_tree (T : Txt K mg w) : FnR P w K mg base CX0 9 (a__law_tree K) (sp_tree K 2) := ok_tree_of (d := 2) T (by decide) (ok_tree1 T)
end
end S57


set_option Elab.async false
set_option linter.all false
set_option maxRecDepth 100000
set_option maxHeartbeats 4000000
namespace S57
open PySem PySem.Spec PyProof.Rows L2 TL
/-- a word of a row, and its text -/
inductive WV : V → Str → Prop
  | int (n : Nat) (h : n < 100) : WV (.int (n : Nat)) (numT n)
  | str (z : Str) : WV (.str z) z
theorem wv_nums : ∀ {ns : List Nat}, (∀ n ∈ ns, n < 100) → Paired WV (natsV ns) (ns.map numT)
  | [], _ => .nil
  | n :: r, h => .cons (.int n (h n (by simp))) (wv_nums fun m hm => h m (List.mem_cons_of_mem _ hm))
theorem wv_words {x : Wd} (h : x.okW) : Paired WV x.vals x.words := by
  refine .cons (.str _) (Paired.app (wv_nums h.sm) ?_)
  cases x.lt with
  | none => exact .nil
  | some c => exact .cons (.str _) .nil
theorem words_sum {D : PkS} {x : Wd} (h : x.okW) (hm : (x.head, x.nums.length) ∈ cntM D) : (x.words.map (·.length)).sum + x.words.length * (" " : Str).length ≤ 16777216 := by
  obtain ⟨h1, h2, h3⟩ := wd_facts h hm
  have e : (" " : Str).length = 1 := by decide
  have := sum_le (B := 8) (x.words.map (·.length)) (fun y hy => by
    obtain ⟨z, hz, rfl⟩ := List.mem_map.mp hy
    show z.length ≤ 8
    rw [len_tl]
    exact (h1 z hz).ln)
  rw [List.length_map] at this
  rw [e]
  omega
theorem end_line : lineT (Tok.wd .fin) = "end" := by decide +kernel
def linesV (t : Tree) : List V := (toks t).map fun k => V.str (lineT k.wd)
theorem linesV_app (a b : Tree) : linesV (a.app b) = linesV a ++ linesV b := by
  unfold linesV
  rw [toks_app, List.map_append]
theorem linesV_blk (h : Hdr) (b : Tree) : linesV (.blk h b .nil) = .str (lineT h.wd) :: (linesV b ++ [.str "end"]) := by
  show V.str (lineT h.wd) :: (toks b ++ [Tok.fin]).map (fun k => V.str (lineT k.wd)) = _
  rw [List.map_append]
  show _ :: (_ ++ [V.str (lineT (Tok.wd .fin))]) = _
  rw [end_line]
  rfl
theorem linesV_len (t : Tree) : (linesV t).length = (toks t).length := by simp [linesV]
theorem TrL.off1 {H H' : Hp} {N : Addr → Prop} {t : Tree} {l : List Addr} {f : Addr} (h : TrL H N t l) (s : Same H H') (hf : H f = none) : TrL H' (fun x => N x ∨ x = f) t l := h.go (Off.of (M := []) s) (fun y hy => by cases hy) (fun y hy => hy.imp id (fun z => by rw [z]; exact hf))
def sp_lines : Nat → Sp := fun d vs H Q _ => ∃ (v : Addr) (N : Addr → Prop) (D : PkS) (t : Tree), vs = [.ref v] ∧ TrAt H N v t ∧ D.ok ∧ t.ok D ∧ t.depth ≤ d ∧ (toks t).length ≤ 100000 ∧
  ∀ r H', Same H H' → H r = none → H' r = some (.lst (linesV t)) → Q (.ref r) H'
def sp_linesB : Nat → Sp
  | 0 => fun _ _ _ _ => False
  | d + 1 => sp_lines d
section
variable {P : Program} {w : World} {K : Fr} {mg : Str → Option Value} {base : Heap}
theorem sc__law_lines0 : FnScope ["_law_tree_here", "_law_found", "_law_one", "_law_words", "_law_word"] ["_law_tree_here"] (defScope s__law_lines) := ⟨rfl, rfl, rfl, by decide +kernel, rfl, by decide +kernel, by decide +kernel⟩
theorem ok_lines_of (T : Txt K mg w) {d k : Nat} (F : FnR P w K mg base CX0 k (a__law_lines K) (sp_linesB d)) : FnR P w K mg base CX0 (k+1) (a__law_lines K) (sp_lines d) := by
  refine fnr0 (d__law_lines T) sc__law_lines0 (fun _ _ _ _ _ _ us hl => match us, hl with | [_], _ => rfl) (fun vs H Q E h => ?_) (fun cdv A outer s H vs Q E hr h => ?_)
  · obtain ⟨v, N, D, t, rfl, _⟩ := h
    rfl
  · obtain ⟨v, N, D, t, rfl, ⟨hNv, l, hv, ht⟩, o, hok, hd, hlen, kk⟩ := h
    refine ⟨_, (pss_cons (ps_set (i := 1) sc__law_lines0.nd rfl (by first | exact Or.inl rfl | exact Or.inr rfl) (pe_lst pa_nil))
    (pss_cons (ps_for PassesOwn.never rfl (pi_list (pv 0)) (pg_name (i := 2) sc__law_lines0.nd rfl (by first | exact Or.inl rfl | exact Or.inr rfl))
    (pss_cons (ps_set (i := 3) sc__law_lines0.nd rfl (by first | exact Or.inl rfl | exact Or.inr rfl) (pe_ifExp (pt_val (pe_callB call_isi (by rfl) (n_isinstance T) (by decide +kernel) (pa_cons (pv 2) (pa_cons (pe_bltn (v := .ty "tuple") rfl (n_tuple T) boot_tuple rfl) pa_nil)))) (pe_ix ix_seq (pv 2) pe_int (fun _ _ => rfl)) (pv 2)))
    (pss_cons (ps_expr (pe_bm PySem.F.plainAttrs_list PySem.F.slot_list_append PySem.F.type_list_append mt_append (pv 1) (pa_cons (pe_join pe_str (pe_lc (own := [("_law_word", 4)]) (g := gName 4) (tt := tYes) rfl sc__law_lines0.nd (pi_list (pv 3)) (blkOk_by (own := [("_law_word", 4)]) (N := ["_law_tree_here", "_law_found", "_law_one", "_law_words", "_law_word"]) (sc := defScope s__law_lines) (by decide +kernel)) (fun _ _ _ _ _ => (pg_name (i := 4) sc__law_lines0.nd rfl (by first | exact Or.inl rfl | exact Or.inr rfl))) (fun _ _ _ _ _ => pts_nil) (fun _ _ _ _ _ => (pe_callTy (call_str_int.or SkE.call_str_str) (by rfl) (n_str T) (by decide +kernel) (pa_cons (pv 4) pa_nil))))) pa_nil)))
    (pss_one (ps_if (pt_val (pe_callB call_isi (by rfl) (n_isinstance T) (by decide +kernel) (pa_cons (pv 2) (pa_cons (pe_bltn (v := .ty "tuple") rfl (n_tuple T) boot_tuple rfl) pa_nil)))) (pss_one (ps_set (i := 1) sc__law_lines0.nd rfl (by first | exact Or.inl rfl | exact Or.inr rfl) (pe_op op_cat (pe_op op_cat (pv 1) (pe_g F hr (g__law_lines T) (kp__law_lines T) pass0 (pa_cons (pe_ix ix_seq (pv 2) pe_int (fun _ _ => rfl)) pa_nil))) (pe_lst (pa_cons pe_str pa_nil))))) pss_nil)))))
    (pss_one (ps_ret (pv 1))))), ?_⟩
    have hsz : ∀ {n : Nat}, n ≤ 200000 → n < sizeLine := fun h => by rw [sizeLine_eq]; omega
    have hll := ht.len
    refine ⟨Nat.zero_le _, fun f0 hf0 => ?_⟩
    refine ⟨_, rfl, v, rfl, ⟨_, SqL.of (Same.new hf0 _ _ hv)⟩, ?_⟩
    refine for_it (walk_list (xs := l.map V.ref)) (fun i σ H' => ∃ (v2 v3 : Option V) (f : Addr) (t1 t3 : Tree), σ = [some (.ref v), some (.ref f), v2, v3, none] ∧ Same H H' ∧ H f = none ∧ H' f = some (.lst (linesV t1)) ∧ t = t1.app t3 ∧ TrL H N t3 (l.drop i)) ⟨none, none, f0, .nil, t, rfl, Same.new hf0, hf0, upd_same, rfl, ht⟩ ?_ ?_ ?_
    · rintro i σ H' hi ⟨v2, v3, f, t1, t3, rfl, s, _⟩
      exact SqL.of (s _ _ hv)
    · rintro i x σ H1' H1 hi ⟨v2, v3, f, t1, t3, rfl, s1, hf, hf1, et, h3⟩ y
      obtain ⟨rfl, hx⟩ := y
      rw [List.getElem?_map] at hx
      obtain ⟨a, ha, rfl⟩ := Option.map_eq_some_iff.mp hx
      have hdr : l.drop i = a :: l.drop (i + 1) := by
        have hi' : i < l.length := by rw [List.length_map] at hi; exact hi
        rw [List.drop_eq_getElem_cons hi']
        rw [List.getElem?_eq_getElem hi'] at ha
        rw [Option.some.inj ha]
      rw [hdr] at h3
      have htl : (toks t).length = (toks t1).length + (toks t3).length := by rw [et, toks_app, List.length_append]
      have hokt : t3.ok D := ((ok_app _ _).mp (et ▸ hok)).2
      have hdt : t3.depth ≤ d := by rw [et, depth_app] at hd; omega
      cases t3 with
      | nil => cases h3
      | row r t4 =>
        obtain ⟨a', l', e, ⟨_, hrw⟩, h4⟩ := h3
        cases e
        have hrw1 := s1 _ _ hrw
        obtain ⟨okw, inM⟩ := tok_okW (k := .row r) o hokt.1
        have okw : r.wd.okW := okw
        have inM : (r.wd.head, r.wd.nums.length) ∈ cntM D := inM
        refine ⟨_, rfl, _, _, .type "list", .type "tuple", false, rfl, .ty _, .base (.lst hrw1), kit_ty (by decide +kernel), false, rfl, iteF ⟨_, rfl, ?_⟩⟩
        refine ⟨_, rfl, .inl ⟨rfl, _, SqL.of hf1⟩, ⟨_, rfl⟩, _, rfl, a, rfl, ⟨_, SqL.of hrw1⟩, fun L hL => ?_⟩
        refine lc_map walk_list (r.wd.words.map V.str) (by rw [List.length_map]; exact (Paired.length (wv_words okw)).symm) (by have := (wd_facts okw inM).2.1; rw [Paired.length (wv_words okw)]; exact small1000 (by omega)) hL (fun _ s => SqL.of (s _ _ hrw1)) (fun j y H2' H2 C hj s2 y' kc => ?_) mono_gName (fun H2 s2 hL2 => ?_)
        · obtain ⟨rfl, hy⟩ := y'
          obtain ⟨z, hz, hwv⟩ := Paired.get (wv_words okw) hy
          refine ⟨rfl, _, rfl, ?_⟩
          have fin : ∀ q, q = z → C (.str q) H2 := fun q eq => kc _ _ (Same.refl _) (by rw [List.getElem?_map, hz, eq]; rfl)
          cases hwv with
          | int n hn => exact .inl ⟨_, rfl, Nat.lt_of_le_of_lt (Nat.log2_le_self _) (by show ((n : Nat) : Int).natAbs < 1920; omega), fin _ rfl⟩
          | str z => exact .inr ⟨_, rfl, fin _ rfl⟩
        · have hf2 := s2 _ _ hf1
          refine ⟨" ", L, r.wd.words, rfl, rfl, .inl (SqL.of hL2), words_sum okw inM, f, _, _, rfl, rfl, hf2, hsz (by rw [linesV_len]; omega), ?_⟩
          refine ⟨_, rfl, _, _, .type "list", .type "tuple", false, rfl, .ty _, .base (.lst (by rw [upd_ne (fun z => by rw [z, hf] at hrw; cases hrw)]; exact s2 _ _ hrw1)), kit_ty (by decide +kernel), false, rfl, iteF ?_⟩
          refine ⟨_, _, f, t1.app (.row r .nil), t4, rfl, (s1.trans s2).upd hf, hf, ?_, by rw [Tree.app_assoc]; exact et, h4⟩
          rw [upd_same, linesV_app]
          rfl
      | blk h b t4 =>
        obtain ⟨a', l', wa, ba, bl, e, hta, ⟨_, hwa⟩, hNb, hba, hbt, h4⟩ := h3
        cases e
        have hta1 := s1 _ _ hta
        have hwa1 := s1 _ _ hwa
        obtain ⟨okw, inM⟩ := tok_okW (k := .hdr h) o hokt.1
        have okw : h.wd.okW := okw
        have inM : (h.wd.head, h.wd.nums.length) ∈ cntM D := inM
        refine ⟨_, rfl, _, _, .type "tuple", .type "tuple", true, rfl, .ty _, .base (.tup hta1), kit_ty (by decide +kernel), true, rfl, iteT ⟨_, rfl, .inr (.inl ⟨a, _, _, _, rfl, rfl, SqT.of hta1, atI_nat (j := 0) rfl, ?_⟩)⟩⟩
        refine ⟨_, rfl, .inl ⟨rfl, _, SqL.of hf1⟩, ⟨_, rfl⟩, _, rfl, wa, rfl, ⟨_, SqL.of hwa1⟩, fun L hL => ?_⟩
        refine lc_map walk_list (h.wd.words.map V.str) (by rw [List.length_map]; exact (Paired.length (wv_words okw)).symm) (by have := (wd_facts okw inM).2.1; rw [Paired.length (wv_words okw)]; exact small1000 (by omega)) hL (fun _ s => SqL.of (s _ _ hwa1)) (fun j y H2' H2 C hj s2 y' kc => ?_) mono_gName (fun H2 s2 hL2 => ?_)
        · obtain ⟨rfl, hy⟩ := y'
          obtain ⟨z, hz, hwv⟩ := Paired.get (wv_words okw) hy
          refine ⟨rfl, _, rfl, ?_⟩
          have fin : ∀ q, q = z → C (.str q) H2 := fun q eq => kc _ _ (Same.refl _) (by rw [List.getElem?_map, hz, eq]; rfl)
          cases hwv with
          | int n hn => exact .inl ⟨_, rfl, Nat.lt_of_le_of_lt (Nat.log2_le_self _) (by show ((n : Nat) : Int).natAbs < 1920; omega), fin _ rfl⟩
          | str z => exact .inr ⟨_, rfl, fin _ rfl⟩
        · have hf2 := s2 _ _ hf1
          refine ⟨" ", L, h.wd.words, rfl, rfl, .inl (SqL.of hL2), words_sum okw inM, f, _, _, rfl, rfl, hf2, hsz (by rw [linesV_len]; omega), ?_⟩
          have sU : Same H (upd H2 f (.lst (linesV t1 ++ [.str (lineT h.wd)]))) := (s1.trans s2).upd hf
          have hU : upd H2 f (.lst (linesV t1 ++ [.str (lineT h.wd)])) f = some (.lst (linesV t1 ++ [.str (lineT h.wd)])) := upd_same
          have htk : (toks (.blk h b t4)).length = (toks b).length + (toks t4).length + 2 := by
            show (Tok.hdr h :: (toks b ++ .fin :: toks t4)).length = _
            rw [List.length_cons, List.length_append, List.length_cons]
            omega
          show tSeq _ _ _ _ (upd H2 f (.lst (linesV t1 ++ [.str (lineT h.wd)])))
          generalize upd H2 f (.lst (linesV t1 ++ [.str (lineT h.wd)])) = H3 at *
          have hta3 := sU _ _ hta
          refine ⟨_, rfl, _, _, .type "tuple", .type "tuple", true, rfl, .ty _, .base (.tup hta3), kit_ty (by decide +kernel), true, rfl, iteT ?_⟩
          refine ⟨_, rfl, _, rfl, .inr (.inl ⟨a, _, _, _, rfl, rfl, SqT.of hta3, atI_nat (j := 1) rfl, ?_⟩)⟩
          cases d with
          | zero => exact absurd (show max (b.depth + 1) t4.depth ≤ 0 from hdt) (by omega)
          | succ d =>
            have hd' : max (b.depth + 1) t4.depth ≤ d + 1 := hdt
            refine ⟨ba, N, D, b, rfl, TrAt.same (N := N) ⟨hNb, bl, hba, hbt⟩ sU (fun y hy => .inl hy), o, hokt.2.1, by omega, by omega, fun r2 H4 s4 hr2n hr2 => ?_⟩
            have hf4 := s4 _ _ hU
            refine ⟨f, r2, _, _, rfl, rfl, hf4, hr2, Nat.le_of_lt (hsz (by rw [List.length_append, linesV_len, linesV_len]; show (toks t1).length + 1 + _ ≤ _; omega)), fun q hq => ⟨Nat.le_of_lt (hsz (show 1 ≤ 200000 by decide)), fun e he => ?_⟩⟩
            have s5 : Same H4 (upd H4 q (.lst (linesV t1 ++ [.str (lineT h.wd)] ++ linesV b))) := Same.new hq
            have s6 := s5.new' (o := .lst [V.str "end"]) he
            have nqe : q ≠ e := fun z => by rw [← z, upd_same] at he; cases he
            refine ⟨q, e, _, _, rfl, rfl, by rw [upd_ne nqe, upd_same], upd_same, Nat.le_of_lt (hsz (by rw [List.length_append, List.length_append, linesV_len, linesV_len]; show (toks t1).length + 1 + _ + 1 ≤ _; omega)), fun f2 hf2 => ?_⟩
            have s7 := (s4.trans s6).new' (o := .lst (linesV t1 ++ [.str (lineT h.wd)] ++ linesV b ++ [V.str "end"])) hf2
            refine ⟨_, _, f2, t1.app (.blk h b .nil), t4, rfl, sU.trans s7, sU.free ((s4.trans s6).free hf2), ?_, by rw [Tree.app_assoc]; exact et, h4⟩
            rw [upd_same, linesV_app, linesV_blk]
            show some (HO.lst (linesV t1 ++ [.str (lineT h.wd)] ++ linesV b ++ [V.str "end"])) = _
            rw [List.append_assoc, List.append_assoc]
            rfl
    · rintro σ H1 ⟨v2, v3, f, t1, t3, rfl, s1, hf, hf1, et, h3⟩
      have hnil : t3 = .nil := by
        rw [List.length_map, List.drop_length] at h3
        cases t3 with
        | nil => rfl
        | row r t => obtain ⟨a, l', e, _⟩ := h3; cases e
        | blk h b t => obtain ⟨a, l', _, _, _, e, _⟩ := h3; cases e
      subst hnil
      rw [Tree.app_nil] at et
      subst et
      exact ⟨_, rfl, kk f H1 s1 hf hf1⟩
theorem ok_lines0 (T : Txt K mg w) : FnR P w K mg base CX0 2 (a__law_lines K) (sp_lines 0) := ok_lines_of (k := 1) T (fun _ _ _ _ _ _ _ _ _ _ _ h => h.elim)
theorem ok_lines1 (T : Txt K mg w) : FnR P w K mg base CX0 3 (a__law_lines K) (sp_lines 1) := ok_lines_of (d := 1) T (ok_lines0 T)
theorem ok__law_lines (T : Txt K mg w) : FnR P w K mg base CX0 4 (a__law_lines K) (sp_lines 2) := ok_lines_of (d := 2) T (ok_lines1 T)
end
end S57


set_option Elab.async false
set_option linter.all false
set_option maxRecDepth 100000
set_option maxHeartbeats 4000000
namespace S57
open PySem PySem.Spec PyProof.Rows L2 TL
theorem rolled_app : ∀ a b : Tree, rolledM (a.app b) = (rolledM a).app (rolledM b)
  | .nil, _ => rfl
  | .row r t, b => by show Tree.row r (rolledM (t.app b)) = Tree.row r ((rolledM t).app _); rw [rolled_app t b]
  | .blk (.rep n) c t, b => by
    show ((rolledM c).times n).app (rolledM (t.app b)) = (((rolledM c).times n).app (rolledM t)).app (rolledM b)
    rw [rolled_app t b, Tree.app_assoc]
  | .blk (.whn p q l) c t, b => by
    show Tree.blk (.whn p q l) (rolledM c) (rolledM (t.app b)) = Tree.blk (.whn p q l) (rolledM c) ((rolledM t).app (rolledM b))
    rw [rolled_app t b]
theorem times_end (u : Tree) : ∀ n, u.times (n + 1) = (u.times n).app u
  | 0 => by show u.app .nil = Tree.nil.app u; rw [Tree.app_nil]; rfl
  | n + 1 => by
    show u.app (u.times (n + 1)) = (u.app (u.times n)).app u
    rw [times_end u n, Tree.app_assoc]
theorem times_len (u : Tree) {i n : Nat} (h : i ≤ n) : (toks (u.times i)).length ≤ (toks (u.times n)).length := by
  rw [toks_times, toks_times]
  exact Nat.mul_le_mul h (Nat.le_refl _)
def NF (N : Addr → Prop) (f : Addr) : Addr → Prop := fun x => N x ∨ x = f
theorem TrL.addr {H : Hp} {N : Addr → Prop} : ∀ {t : Tree} {l : List Addr}, TrL H N t l → True := fun _ => trivial
def sp_rolled : Nat → Sp := fun d vs H Q _ => ∃ (v : Addr) (N : Addr → Prop) (t : Tree), vs = [.ref v] ∧ TrAt H N v t ∧ (∀ x, N x → ∃ u, H x = some u) ∧ t.depth ≤ d ∧ (∃ D : PkS, t.ok D) ∧ (toks (rolledM t)).length ≤ 100000 ∧
  ∀ r H', Same H H' → H r = none → TrAt H' N r (rolledM t) → Q (.ref r) H'
def sp_rolledB : Nat → Sp
  | 0 => fun _ _ _ _ => False
  | d + 1 => sp_rolled d
section
variable {P : Program} {w : World} {K : Fr} {mg : Str → Option Value} {base : Heap}
theorem sc__law_rolled0 : FnScope ["_law_tree_here", "_law_found", "_law_one", "_law_turn"] ["_law_tree_here"] (defScope s__law_rolled) := ⟨rfl, rfl, rfl, by decide +kernel, rfl, by decide +kernel, by decide +kernel⟩
theorem ok_rolled_of (T : Txt K mg w) {d k : Nat} (F : FnR P w K mg base CX0 k (a__law_rolled K) (sp_rolledB d)) : FnR P w K mg base CX0 (k+1) (a__law_rolled K) (sp_rolled d) := by
  refine fnr0 (d__law_rolled T) sc__law_rolled0 (fun _ _ _ _ _ _ us hl => match us, hl with | [_], _ => rfl) (fun vs H Q E h => ?_) (fun cdv A outer s H vs Q E hr h => ?_)
  · obtain ⟨v, N, t, rfl, _⟩ := h
    rfl
  · obtain ⟨v, N, t, rfl, ⟨hNv, l, hv, ht⟩, hN, hd, ⟨D, hok⟩, hlen, kk⟩ := h
    refine ⟨_, (pss_cons (ps_set (i := 1) sc__law_rolled0.nd rfl (by first | exact Or.inl rfl | exact Or.inr rfl) (pe_lst pa_nil))
    (pss_cons (ps_for PassesOwn.never rfl (pi_list (pv 0)) (pg_name (i := 2) sc__law_rolled0.nd rfl (by first | exact Or.inl rfl | exact Or.inr rfl))
    (pss_one (ps_if (pt_not (pt_val (pe_callB call_isi (by rfl) (n_isinstance T) (by decide +kernel) (pa_cons (pv 2) (pa_cons (pe_bltn (v := .ty "tuple") rfl (n_tuple T) boot_tuple rfl) pa_nil))))) (pss_one (ps_expr (pe_bm PySem.F.plainAttrs_list PySem.F.slot_list_append PySem.F.type_list_append mt_append (pv 1) (pa_cons (pv 2) pa_nil)))) (pss_one (ps_if (pt_cmpR op_eq (pe_ix ix_seq (pe_ix ix_seq (pv 2) pe_int (fun _ _ => rfl)) pe_int (fun _ _ => rfl)) pe_str (nomark _)) (pss_one (ps_for PassesOwn.never rfl (pi_range1 (by rfl) (n_range T) (pa_cons (pe_ix ix_seq (pe_ix ix_seq (pv 2) pe_int (fun _ _ => rfl)) pe_int (fun _ _ => rfl)) pa_nil)) (pg_name (i := 3) sc__law_rolled0.nd rfl (by first | exact Or.inl rfl | exact Or.inr rfl))
    (pss_one (ps_set (i := 1) sc__law_rolled0.nd rfl (by first | exact Or.inl rfl | exact Or.inr rfl) (pe_op op_cat (pv 1) (pe_g F hr (g__law_rolled T) (kp__law_rolled T) pass0 (pa_cons (pe_ix ix_seq (pv 2) pe_int (fun _ _ => rfl)) pa_nil))))))) (pss_one (ps_expr (pe_bm PySem.F.plainAttrs_list PySem.F.slot_list_append PySem.F.type_list_append mt_append (pv 1) (pa_cons (pe_tup (pa_cons (pe_ix ix_seq (pv 2) pe_int (fun _ _ => rfl)) (pa_cons (pe_g F hr (g__law_rolled T) (kp__law_rolled T) pass0 (pa_cons (pe_ix ix_seq (pv 2) pe_int (fun _ _ => rfl)) pa_nil)) pa_nil))) pa_nil)))))))))
    (pss_one (ps_ret (pv 1))))), ?_⟩
    have hsz : ∀ {n : Nat}, n ≤ 200000 → n < sizeLine := fun h => by rw [sizeLine_eq]; omega
    refine ⟨Nat.zero_le _, fun f0 hf0 => ?_⟩
    refine ⟨_, rfl, v, rfl, ⟨_, SqL.of (Same.new hf0 _ _ hv)⟩, ?_⟩
    refine for_it (walk_list (xs := l.map V.ref)) (fun i σ H' => ∃ (v2 v3 : Option V) (f : Addr) (lf : List Addr) (t1 t3 : Tree), σ = [some (.ref v), some (.ref f), v2, v3] ∧ Same H H' ∧ H f = none ∧ H' f = some (.lst (lf.map V.ref)) ∧ TrL H' (NF N f) (rolledM t1) lf ∧ t = t1.app t3 ∧ TrL H N t3 (l.drop i)) ⟨none, none, f0, [], .nil, t, rfl, Same.new hf0, hf0, upd_same, rfl, rfl, ht⟩ ?_ ?_ ?_
    · rintro i σ H' hi ⟨v2, v3, f, lf, t1, t3, rfl, s, _⟩
      exact SqL.of (s _ _ hv)
    · rintro i x σ H1' H1 hi ⟨v2, v3, f, lf, t1, t3, rfl, s1, hf, hf1, hr1, et, h3⟩ y
      obtain ⟨rfl, hx⟩ := y
      rw [List.getElem?_map] at hx
      obtain ⟨a, ha, rfl⟩ := Option.map_eq_some_iff.mp hx
      have hdr : l.drop i = a :: l.drop (i + 1) := by
        have hi' : i < l.length := by rw [List.length_map] at hi; exact hi
        rw [List.drop_eq_getElem_cons hi']
        rw [List.getElem?_eq_getElem hi'] at ha
        rw [Option.some.inj ha]
      rw [hdr] at h3
      have hlt : (toks (rolledM t)).length = (toks (rolledM t1)).length + (toks (rolledM t3)).length := by rw [et, rolled_app, toks_app, List.length_append]
      have hokt : t3.ok D := ((ok_app _ _).mp (et ▸ hok)).2
      have hdt : t3.depth ≤ d := by rw [et, depth_app] at hd; omega
      have hlf := hr1.len
      have hNs : ∀ {H2 : Hp}, Same H H2 → ∀ x, NF N f x → H2 f ≠ none → ∃ u, H2 x = some u := fun s x hx hne => by
        rcases hx with hx | hx
        · obtain ⟨u, hu⟩ := hN x hx
          exact ⟨u, s _ _ hu⟩
        · rw [hx]
          exact Option.ne_none_iff_exists'.mp hne
      cases t3 with
      | nil => cases h3
      | row r t4 =>
        obtain ⟨a', l', e, hrw, h4⟩ := h3
        cases e
        have hrw1 := s1 _ _ hrw.2
        have hl4 : (toks (rolledM (.row r t4))).length = (toks (rolledM t4)).length + 1 := rfl
        refine ⟨_, rfl, _, _, .type "list", .type "tuple", false, rfl, .ty _, .base (.lst hrw1), kit_ty (by decide +kernel), false, rfl, iteT ?_⟩
        refine ⟨_, rfl, .inl ⟨rfl, _, SqL.of hf1⟩, _, rfl, f, _, _, rfl, rfl, hf1, hsz (by rw [List.length_map]; omega), ?_⟩
        have nfa : a ≠ f := fun z => by rw [← z, hrw.2] at hf; cases hf
        have of : Off [f] H1 (upd H1 f (.lst (lf.map V.ref ++ [.ref a]))) := Off.mut (by simp) hf1 (fun _ z => by cases z) (fun z => by cases z)
        refine ⟨_, _, f, lf ++ [a], t1.app (.row r .nil), t4, rfl, s1.upd hf, hf, by rw [upd_same, List.map_append]; rfl, ?_, by rw [Tree.app_assoc]; exact et, h4⟩
        rw [rolled_app]
        refine TrL.app ?_ (hr1.go of (fun y hy => .inr (List.mem_singleton.mp hy)) (fun y hy => .inl hy))
        refine ⟨a, [], rfl, ⟨fun z => ?_, by rw [upd_ne nfa]; exact hrw1⟩, rfl⟩
        rcases z with z | z
        · exact hrw.1 z
        · exact nfa z
      | blk h b t4 =>
        obtain ⟨a', l', wa, ba, bl, e, hta, hwa, hNb, hba, hbt, h4⟩ := h3
        cases e
        have hta1 := s1 _ _ hta
        have hwa1 := s1 _ _ hwa.2
        refine ⟨_, rfl, _, _, .type "tuple", .type "tuple", true, rfl, .ty _, .base (.tup hta1), kit_ty (by decide +kernel), true, rfl, iteF ?_⟩
        refine ⟨_, rfl, .inr (.inl ⟨a, _, _, _, rfl, rfl, SqT.of hta1, atI_nat (j := 0) rfl, .inl ⟨wa, _, _, _, rfl, rfl, SqL.of hwa1, atI_nat (j := 0) rfl, ?_⟩⟩)⟩
        cases d with
        | zero => exact absurd (show max (b.depth + 1) t4.depth ≤ 0 from hdt) (by omega)
        | succ d =>
          have hd' : max (b.depth + 1) t4.depth ≤ d + 1 := hdt
          -- a call for the block's rows
          have callf : ∀ (H2 : Hp) (g : Addr), Same H H2 → H g = none → (∃ u, H2 g = some u) → TrAt H2 (NF N g) ba b ∧ ∀ x, NF N g x → ∃ u, H2 x = some u := fun H2 g s2 hg hg2 =>
            ⟨TrAt.same (N := N) ⟨hNb, bl, hba, hbt⟩ s2 (fun y hy => hy.imp id (fun z => by rw [z]; exact hg)), fun x hx => by
              rcases hx with hx | hx
              · obtain ⟨u, hu⟩ := hN x hx
                exact ⟨u, s2 _ _ hu⟩
              · rw [hx]; exact hg2⟩
          cases h with
          | rep n =>
            have hn3 : n < 100 := hokt.1
            have hl4 : (toks (rolledM (.blk (.rep n) b t4))).length = n * (toks (rolledM b)).length + (toks (rolledM t4)).length := by
              show (toks (((rolledM b).times n).app (rolledM t4))).length = _
              rw [toks_app, List.length_append, toks_times]
            refine ⟨rfl, _, rfl, iteT ?_⟩
            refine ⟨_, rfl, .inr (.inl ⟨a, _, _, _, rfl, rfl, SqT.of hta1, atI_nat (j := 0) rfl, .inl ⟨wa, _, _, _, rfl, rfl, SqL.of hwa1, atI_nat (j := 1) rfl, ?_⟩⟩)⟩
            refine ⟨((n : Nat) : Int), rfl, by omega, by omega, ?_⟩
            rw [Int.toNat_natCast]
            refine for_range (lo := 0) (n := n) (fun j σ H' => ∃ (v3 : Option V) (f : Addr) (lf : List Addr), σ = [some (.ref v), some (.ref f), some (.ref a), v3] ∧ Same H H' ∧ H f = none ∧ H' f = some (.lst (lf.map V.ref)) ∧ TrL H' (NF N f) ((rolledM t1).app ((rolledM b).times j)) lf) ⟨v3, f, lf, rfl, s1, hf, hf1, by show TrL H1 (NF N f) ((rolledM t1).app .nil) lf; rw [Tree.app_nil]; exact hr1⟩ ?_ ?_
            · rintro j σ H2 hj ⟨v3, f, lf, rfl, s2, hf, hf2, hr2⟩
              have hta2 := s2 _ _ hta
              have hmul : (j + 1) * (toks (rolledM b)).length ≤ n * (toks (rolledM b)).length := Nat.mul_le_mul hj (Nat.le_refl _)
              rw [Nat.succ_mul] at hmul
              have hlf2 := hr2.len
              rw [toks_app, List.length_append, toks_times] at hlf2
              refine ⟨_, rfl, _, rfl, .inr (.inl ⟨a, _, _, _, rfl, rfl, SqT.of hta2, atI_nat (j := 1) rfl, ?_⟩)⟩
              refine ⟨ba, NF N f, b, rfl, (callf H2 f s2 hf ⟨_, hf2⟩).1, (callf H2 f s2 hf ⟨_, hf2⟩).2, by omega, ⟨D, hokt.2.1⟩, by omega, fun r2 H3 s3 hr2n hT => ?_⟩
              obtain ⟨nr2, l2, hl2, hT2⟩ := hT
              have hl2l := hT2.len
              refine ⟨f, r2, _, _, rfl, rfl, s3 _ _ hf2, hl2, Nat.le_of_lt (hsz (by rw [List.length_map, List.length_map]; omega)), fun f2 hf2' => ?_⟩
              have s4 := s3.new' (o := .lst (lf.map V.ref ++ l2.map V.ref)) hf2'
              have hf2H := s2.free (s3.free hf2')
              have tr : ∀ {t : Tree} {l : List Addr}, TrL H3 (NF N f) t l → TrL (upd H3 f2 (.lst (lf.map V.ref ++ l2.map V.ref))) (NF N f2) t l := fun q => q.go (Off.of (M := []) (Same.new hf2')) (fun y hy => by cases hy) (fun y hy => by
                rcases hy with hy | hy
                · exact .inl (.inl hy)
                · exact .inr (by rw [hy]; exact hf2'))
              refine ⟨_, f2, lf ++ l2, rfl, s2.trans s4, hf2H, by rw [upd_same, List.map_append], ?_⟩
              rw [times_end, ← Tree.app_assoc]
              exact TrL.app (tr hT2) (tr (hr2.go (Off.of (M := []) s3) (fun y hy => by cases hy) (fun y hy => .inl hy)))
            · rintro σ H2 ⟨v3, f, lf, rfl, s2, hf, hf2, hr2⟩
              refine ⟨_, v3, f, lf, t1.app (.blk (.rep n) b .nil), t4, rfl, s2, hf, hf2, ?_, by rw [Tree.app_assoc]; exact et, h4⟩
              rw [rolled_app]
              show TrL H2 (NF N f) ((rolledM t1).app (((rolledM b).times n).app .nil)) lf
              rw [Tree.app_nil]
              exact hr2
          | whn p c q =>
            have hl4 : (toks (rolledM (.blk (.whn p c q) b t4))).length = (toks (rolledM b)).length + (toks (rolledM t4)).length + 2 := by
              show (Tok.hdr (.whn p c q) :: (toks (rolledM b) ++ .fin :: toks (rolledM t4))).length = _
              rw [List.length_cons, List.length_append, List.length_cons]
              omega
            refine ⟨rfl, _, rfl, iteF ?_⟩
            refine ⟨_, rfl, .inl ⟨rfl, _, SqL.of hf1⟩, _, rfl, .inr (.inl ⟨a, _, _, _, rfl, rfl, SqT.of hta1, atI_nat (j := 0) rfl, ?_⟩)⟩
            refine ⟨_, rfl, .inr (.inl ⟨a, _, _, _, rfl, rfl, SqT.of hta1, atI_nat (j := 1) rfl, ?_⟩)⟩
            refine ⟨ba, NF N f, b, rfl, (callf H1 f s1 hf ⟨_, hf1⟩).1, (callf H1 f s1 hf ⟨_, hf1⟩).2, by omega, ⟨D, hokt.2.1⟩, by omega, fun r2 H3 s3 hr2n hT => ?_⟩
            refine ⟨Nat.le_of_lt (hsz (show 2 ≤ 200000 by decide)), fun tp htp => ?_⟩
            have sT : Same H3 (upd H3 tp (.tup [.ref wa, .ref r2])) := Same.new htp
            have s4 := s3.trans sT
            have hf4 := s4 _ _ hf1
            refine ⟨f, _, _, rfl, rfl, hf4, hsz (by rw [List.length_map]; omega), ?_⟩
            have of : Off [f] (upd H3 tp (.tup [.ref wa, .ref r2])) (upd (upd H3 tp (.tup [.ref wa, .ref r2])) f (.lst (lf.map V.ref ++ [.ref tp]))) := Off.mut (by simp) hf4 (fun _ z => by cases z) (fun z => by cases z)
            refine ⟨_, _, f, lf ++ [tp], t1.app (.blk (.whn p c q) b .nil), t4, rfl, (s1.trans s4).upd hf, hf, by rw [upd_same, List.map_append]; rfl, ?_, by rw [Tree.app_assoc]; exact et, h4⟩
            rw [rolled_app]
            obtain ⟨nr2, l2, hl2, hT2⟩ := hT
            have hM : ∀ y ∈ [f], NF N f y := fun y hy => .inr (List.mem_singleton.mp hy)
            refine TrL.app (TrL.go of hM (fun y hy => .inl hy) (t := .blk (.whn p c q) (rolledM b) .nil) (l := [tp]) ?_) (hr1.go ((Off.of (M := [f]) s4).trans of) hM (fun y hy => .inl hy))
            refine ⟨tp, [], wa, r2, l2, rfl, upd_same, ⟨fun z => ?_, sT _ _ (s3 _ _ hwa1)⟩, nr2, sT _ _ hl2, hT2.go (Off.of (M := []) sT) (fun y hy => by cases hy) (fun y hy => .inl hy), rfl⟩
            rcases z with z | z
            · exact hwa.1 z
            · have e := hwa.2
              rw [z, hf] at e
              cases e
    · rintro σ H1 ⟨v2, v3, f, lf, t1, t3, rfl, s1, hf, hf1, hr1, et, h3⟩
      have hnil : t3 = .nil := by
        rw [List.length_map, List.drop_length] at h3
        cases t3 with
        | nil => rfl
        | row r t => obtain ⟨a, l', e, _⟩ := h3; cases e
        | blk h b t => obtain ⟨a, l', _, _, _, e, _⟩ := h3; cases e
      subst hnil
      rw [Tree.app_nil] at et
      subst et
      refine ⟨_, rfl, kk f H1 s1 hf ⟨fun z => ?_, lf, hf1, hr1.go (Off.refl [] _) (by simp) (fun y hy => .inl (.inl hy))⟩⟩
      obtain ⟨u, z⟩ := hN _ z
      rw [hf] at z
      cases z
theorem ok_rolled0 (T : Txt K mg w) : FnR P w K mg base CX0 2 (a__law_rolled K) (sp_rolled 0) := ok_rolled_of (k := 1) T (fun _ _ _ _ _ _ _ _ _ _ _ h => h.elim)
theorem ok_rolled1 (T : Txt K mg w) : FnR P w K mg base CX0 3 (a__law_rolled K) (sp_rolled 1) := ok_rolled_of (d := 1) T (ok_rolled0 T)
theorem ok__law_rolled (T : Txt K mg w) : FnR P w K mg base CX0 4 (a__law_rolled K) (sp_rolled 2) := ok_rolled_of (d := 2) T (ok_rolled1 T)
end
end S57


set_option Elab.async false
set_option linter.all false
set_option maxRecDepth 100000
set_option maxHeartbeats 4000000
namespace S57
open PySem PySem.Spec PyProof.Rows L2 TL
/-- a call of a def of ours, what it lets out told by the slots -/
def tCallRS (sp : Sp) (E : L2.St → XK) (t : TA) : TE := fun σ H Q => t σ H fun vs H1 => sp vs H1 Q (E σ)
theorem pe_gS {X : Cx} {CX : CXT} {k : Nat} {f : Addr} {sp : Sp} {E : L2.St → XK} {x : Str} {ps pos : Pos} {e : Expr} {es : List Expr} {t : TA} (F : FnR X.prog X.w X.K X.mg X.base CX k f sp) (hr : Room k X.A) (hm : X.mg x = some (.ref f)) (hk : PySem.W.keepIn X.K (.ref f) = true) (hx : ∀ σ, PassesAt CX X σ (E σ)) (ha : PA X (e :: es) t) (hg : Gl X x := by rfl)
    (hd : (x == ("__debug__" : Str)) = false := by decide) (h1 : starEach (e :: es) X.env = (false, eval e X.env) :: starEach es X.env := by rfl) (h2 : (backTo pos (starEach es X.env)).any (·.1) = false := by rfl) :
    PE X (.Call (.Name x ps) (e :: es) [] pos) (tCallRS sp E t) := by
  refine ⟨fun pins s σ H Q I h => wpAny_Call_Name_kw (ld_glob I hg hm ?_ hd)⟩
  refine PySem.W.callWith_K (h₀ := X.base) I.ok.mod.kin hk (thn (ha.run pos pins s σ H _ I h) fun us s1 ⟨vs, H1, I1, r, q⟩ => ⟨I1.kIn, ?_⟩) h1 h2
  refine wpAny_call (codeAny_mono (F X.A X.stack s1 H1 us vs Q (E σ) hr I1.env0 r q) fun r s' hq => ?_)
  cases r with
  | error e => exact hx σ pins H1 s1 e s' I1 hq
  | ok fl =>
    cases fl with
    | ret u => exact I1.after hq
    | next => exact hq.elim
    | brk => exact hq.elim
    | cont => exact hq.elim
/-- join, told with the written part named -/
def rJn (K : Fr) : V → List V → Hp → VK → Prop := fun x xs H Q => ∃ a p, ∃ ys : List Str, x = V.str a ∧ xs = [V.ref p] ∧ (SqL K H p (ys.map V.str) ∨ SqT K H p (ys.map V.str)) ∧ (ys.map (·.length)).sum + ys.length * a.length ≤ 16777216 ∧ Q (.str (Txt.join a ys)) H
/-- what a script's run is told by -/
def ResAt (H : Hp) (r : Addr) (S : BS) (outs : List Str) : Prop := ∃ (sA v o l : Addr) (os : List Addr), H r = some (.tup [.ref sA, .ref v, .ref o, .ref l]) ∧ H sA = some (.tup (S.D.sh.map V.str)) ∧ H v = some (.tup (natsV S.ws)) ∧ H o = some (.lst (outs.map V.str)) ∧ H l = some (.lst (os.map V.ref)) ∧ Paired (OpAt H) os S.past
theorem ResAt.same {H H' : Hp} {r : Addr} {S : BS} {outs : List Str} (h : ResAt H r S outs) (s : Same H H') : ResAt H' r S outs := by
  obtain ⟨sA, v, o, l, os, h1, h2, h3, h4, h5, h6⟩ := h
  exact ⟨sA, v, o, l, os, s _ _ h1, s _ _ h2, s _ _ h3, s _ _ h4, s _ _ h5, Paired.mapP h6 fun _ _ z => z.off (Off.of s) (M := [])⟩
theorem lines_sum {D : PkS} (o : D.ok) {ts : List Tok} (h : ∀ k ∈ ts, k.ok D) (hl : ts.length < 60) : ((ts.map fun k => lineT k.wd).map (·.length)).sum + (ts.map fun k => lineT k.wd).length * ("\n" : Str).length ≤ 16777216 := by
  have e : ("\n" : Str).length = 1 := by decide
  have := sum_le (B := 108) ((ts.map fun k => lineT k.wd).map (·.length)) (fun y hy => by
    obtain ⟨z, hz, rfl⟩ := List.mem_map.mp hy
    obtain ⟨k, hk, rfl⟩ := List.mem_map.mp hz
    exact (line_facts (tok_okW o (h k hk)).1 (tok_okW o (h k hk)).2).2.1)
  rw [List.length_map, List.length_map] at this
  rw [e, List.length_map]
  omega
section
variable {P : Program} {w : World} {K : Fr} {mg : Str → Option Value} {base : Heap}
def sp__law_run (K : Fr) : Sp := fun vs H Q _ => ∃ (p v : Addr) (N : Addr → Prop) (D : PkS) (t : Tree), vs = [.ref p, .ref v] ∧ PkAt K H p D ∧ D.ok ∧ TrAt H N v t ∧ t.ok D ∧ t.depth ≤ 2 ∧ (toks t).length < 60 ∧ stepsT t ≤ 300 ∧
  (∀ S' outs, runT t (startS D, []) = some (S', outs) → ∀ r H', Same H H' → ResAt H' r S' outs → S'.past.length ≤ 300 → outs.length ≤ 300 → Q (.ref r) H') ∧ (runT t (startS D, []) = none → ∀ H', Same H H' → Q .non H')
theorem sc__law_run0 : FnScope ["_law_packet_here", "_law_tree_here", "_law_bench", "_law_output"] ["_law_packet_here", "_law_tree_here"] (defScope s__law_run) := ⟨rfl, rfl, rfl, by decide +kernel, rfl, by decide +kernel, by decide +kernel⟩
theorem ok__law_run (T : Txt K mg w) : FnR P w K mg base CX0 16 (a__law_run K) (sp__law_run K) := by
  refine fnr0 (d__law_run T) sc__law_run0 (fun _ _ _ _ _ _ us hl => match us, hl with | [_, _], _ => rfl) (fun vs H Q E h => ?_) (fun cdv A outer s H vs Q E hr h => ?_)
  · obtain ⟨p, v, N, D, t, rfl, _⟩ := h
    rfl
  · obtain ⟨p, v, N, D, t, rfl, hp, o, hT, ht, hd, hl, hst, k, kN⟩ := h
    refine ⟨_, (pss_cons (ps_try_only (c := .ref (C_SheetError K)) (tb := fun W => tAsg (tCallRS (sp_run_script K) (WE W) (tCons (tVar 0) (tCons (tM1 (rJn K) (tC (.str "\n")) (tCallR (sp_lines 2) E0 (tCons (tVar 1) tNil))) tNil))) (gTup K 2 (gCons (gName 2) (gCons (gName 3) gNil)))) rfl rfl ⟨by rfl, by decide, .inl (g_SheetError T)⟩ takes0 (fun W pn xe tkb pob => pss_one (ps_asg (pe_gS (ok_run_script T) (hr.mono (by decide)) (g_run_script T) (kp_run_script T) (L2.passAt tkb) (pa_cons (pv 0) (pa_cons (pe_join pe_str (pe_g (ok__law_lines T) (hr.mono (by decide)) (g__law_lines T) (kp__law_lines T) pass0 (pa_cons (pv 1) pa_nil))) pa_nil))) (pg_tup rfl (pgs_cons (pg_name (i := 2) sc__law_run0.nd rfl (by first | exact Or.inl rfl | exact Or.inr rfl)) (pgs_cons (pg_name (i := 3) sc__law_run0.nd rfl (by first | exact Or.inl rfl | exact Or.inr rfl)) pgs_nil))))) (fun a oe cls d pn _ _ => pss_one (ps_ret pe_non)))
    (pss_one (ps_ret (pe_tup (pa_cons (SlX.pe_propSl (pe_propR (pv 2) (cl_Bench T) (pr_Bench_packet_now T) (ok_Bench_packet_now T) (hr.mono (by decide)) pass0p) (sc_Packet T) (pr_Packet_sheets T).at_ (pr_Packet_sheets T).get (pr_Packet_sheets T).tak (pr_Packet_sheets T).rec_ (ok_Packet_sheets T) (hr.mono (by decide)) pass0p) (pa_cons (pe_propR (pv 2) (cl_Bench T) (pr_Bench_pattern_now T) (ok_Bench_pattern_now T) (hr.mono (by decide)) pass0p) (pa_cons (pv 3) (pa_cons (pe_propR (pv 2) (cl_Bench T) (pr_Bench_history T) (ok_Bench_history T) (hr.mono (by decide)) pass0p) pa_nil)))))))), ?_⟩
    refine ⟨_, rfl, ⟨_, rfl⟩, _, rfl, v, N, D, t, rfl, hT, o, ht, hd, by omega, fun r1 H1 s1 hn1 hr1 => ?_⟩
    have hk := toks_ok ht
    have e1 : linesV t = ((toks t).map fun k => lineT k.wd).map V.str := by unfold linesV; rw [List.map_map]; rfl
    refine ⟨"\n", r1, (toks t).map fun k => lineT k.wd, rfl, rfl, .inl (by rw [← e1]; exact SqL.of hr1), lines_sum o hk hl, ?_⟩
    refine ⟨p, D, t, rfl, hp.mono s1, o, ht, hd, hl, hst, fun S' outs h2 M b oo st dst r H2 s2 hB hpl hol hoo hr2 => ?_, fun h2 dd H2 s2 => ⟨true, xm_ExecutionFailed T, fun _ a ha => kN h2 H2 (s1.trans s2), fun q => Bool.noConfusion q⟩⟩
    refine ⟨r, _, rfl, SqT.of hr2, rfl, _, _, rfl, _, _, rfl, rfl, ?_⟩
    have s02 := s1.trans s2
    obtain ⟨dxb, f0, p0, sh0, u0, a1, _⟩ := id hB
    refine ⟨_, rfl, b, dxb, _, rfl, a1, M, b, st, dst, S', rfl, hB, fun pk hpk f3 => ?_⟩
    obtain ⟨pdx, pt, ps, q1, q2, q3⟩ := f3.parts
    refine ⟨pk, pdx, _, rfl, q1, pk, S'.D, rfl, f3, fun sA hsA => ?_⟩
    refine ⟨_, rfl, b, dxb, _, rfl, a1, M, b, st, dst, S', rfl, hB, fun vv hvv => ?_⟩
    refine ⟨_, rfl, _, rfl, b, dxb, _, rfl, a1, M, b, st, dst, S', rfl, hB, by omega, fun l os H3 s3 hl3 hO => ⟨by show 4 ≤ sizeLine; decide, fun rr hrr => ?_⟩⟩
    have s4 := s3.new' (o := .tup [.ref sA, .ref vv, .ref oo, .ref l]) hrr
    exact k S' outs h2 rr _ (s02.trans s4) ⟨sA, vv, oo, l, os, upd_same, s4 _ _ hsA, s4 _ _ hvv, s4 _ _ hoo, (Same.new hrr) _ _ hl3, Paired.mapP hO fun _ _ z => z.off (Off.of (Same.new hrr)) (M := [])⟩ hpl hol
end
end S57


set_option Elab.async false
set_option linter.all false
set_option maxRecDepth 100000
set_option maxHeartbeats 4000000
namespace S57
open PySem PySem.Spec PyProof.Rows L2 TL
theorem passX0 {X : Cx} {P : Program} {w : World} (h : X.prog = P) (h2 : X.w = w) : Passes (L2.CX P w) X E0 := fun _ _ _ _ _ _ _ c => by
  obtain ⟨_, _, _, _, _, _, _, _, _, _, _, _, h⟩ := c
  exact h.elim
/-- a def of ours that raises nothing, for the head -/
theorem fnok0 {P : Program} {w : World} {K : Fr} {mg : Str → Option Value} {base : Heap} {k : Nat} {f : Addr} {sp : Sp} {N ps : List Str} {x qual : Str} {st : Stmt} {fd : FuncData} (F : FunP K x qual st f fd) (S : FnScope N ps (defScope st)) (len : ∀ vs H Q E, sp vs H Q E → vs.length = ps.length)
    (hbody : ∀ (cdv : Value) (A : Around) (outer : List Env) (s : Shared) (H : Hp) (vs : List V) (Q : VK) (E : XK), Room k (A.deeper (envOfC qual (defScope st) s.heap.objs.size f cdv)) → sp vs H Q E →
      ∃ t, PSs (cxOf CX0 P w K mg base N qual (defScope st) f cdv A outer s H E).nox (defBody st) t ∧ t { nx := fun _ H' => Q .non H', rt := Q } (L2.start N vs) H) : FnOk P w K mg base CX0 (k + 1) f fd ps sp :=
  F.ok S len fun cdv A outer s H vs Q E hr h => let ⟨t, h1, h2⟩ := hbody cdv A outer s H vs Q E hr h; ⟨t, h1.nox, h2⟩
/-! ### what the law compares, as data -/
def opD : Op → PyData
  | .saw ws => .tuple [.str "saw", .tuple (natsD ws)]
  | .exchange p o => .tuple [.str "exchange", .int (p : Nat), .tuple (natsD o)]
  | .glue => .tuple [.str "glue"]
  | .over i => .tuple [.str "over", .int (i : Nat)]
theorem dp_op {K : Fr} {H : Hp} {a : Addr} {op : Op} (h : OpAt H a op) : Dp K H (.ref a) (opD op) := by
  cases op with
  | saw ws =>
    obtain ⟨t, h1, h2⟩ := h
    exact .tup (SqT.of h1) (.cons (.str _) (.cons (.tup (SqT.of h2) (dpAll_nat ws)) .nil))
  | exchange p o =>
    obtain ⟨t, h1, h2⟩ := h
    exact .tup (SqT.of h1) (.cons (.str _) (.cons (.int _) (.cons (.tup (SqT.of h2) (dpAll_nat o)) .nil)))
  | glue => exact .tup (SqT.of h) (.cons (.str _) .nil)
  | over i => exact .tup (SqT.of h) (.cons (.str _) (.cons (.int _) .nil))
theorem dp_ops {K : Fr} {H : Hp} : ∀ {os : List Addr} {past : List Op}, Paired (OpAt H) os past → DpAll K H (os.map V.ref) (past.map opD)
  | _, _, .nil => .nil
  | _, _, .cons h t => .cons (dp_op h) (dp_ops t)
theorem lay_nat : ∀ ws : List Nat, PyData.canLayAll0 (natsD ws) = true
  | [] => rfl
  | _ :: r => by
    show PyData.canLayAll0 (PyData.int _ :: natsD r) = true
    rw [PyData.canLayAll0, lay_nat r]
    rfl
theorem dep_nat : ∀ ws : List Nat, PyData.depthAll (natsD ws) = 0
  | [] => rfl
  | _ :: r => by
    show PyData.depthAll (PyData.int _ :: natsD r) = 0
    rw [PyData.depthAll, dep_nat r]
    rfl
theorem lay_op (op : Op) : (opD op).canLay0 = true := by
  have e1 : PyData.strOk "saw" = true := by decide +kernel
  have e2 : PyData.strOk "exchange" = true := by decide +kernel
  have e3 : PyData.strOk "glue" = true := by decide +kernel
  have e4 : PyData.strOk "over" = true := by decide +kernel
  cases op with
  | saw ws => simp [opD, PyData.canLay0, PyData.canLayAll0, lay_nat, e1]
  | exchange p o => simp [opD, PyData.canLay0, PyData.canLayAll0, lay_nat, e2]
  | glue => simp [opD, PyData.canLay0, PyData.canLayAll0, e3]
  | over i => simp [opD, PyData.canLay0, PyData.canLayAll0, e4]
theorem dep_op (op : Op) : (opD op).depth ≤ 2 := by
  cases op <;> simp [opD, PyData.depth, PyData.depthAll, dep_nat]
theorem lay_ops : ∀ past : List Op, PyData.canLayAll0 (past.map opD) = true
  | [] => rfl
  | op :: r => by rw [List.map_cons, PyData.canLayAll0, lay_ops r, lay_op op]; rfl
theorem dep_ops : ∀ past : List Op, PyData.depthAll (past.map opD) ≤ 2
  | [] => by simp [PyData.depthAll]
  | op :: r => by
    rw [List.map_cons, PyData.depthAll]
    have := dep_op op
    have := dep_ops r
    omega
def resD (S : BS) (outs : List Str) : PyData := .tuple [.tuple (S.D.sh.map PyData.str), .tuple (natsD S.ws), .list (outs.map PyData.str), .list (S.past.map opD)]
def res3D (S : BS) : PyData := .tuple [.tuple (S.D.sh.map PyData.str), .tuple (natsD S.ws), .list (S.past.map opD)]
theorem resD_shaped {D : PkS} {S : BS} {outs : List Str} (k : Keep D (S, outs)) : SeqAt.shaped (resD S outs) = true ∧ SeqAt.shaped (res3D S) = true := by
  have l1 : PyData.canLayAll0 (S.D.sh.map PyData.str) = true := lay_str _ fun z hz => lowS_let (k.ok.D.let_ z hz)
  have l2 : PyData.canLayAll0 (outs.map PyData.str) = true := lay_str _ k.lo
  have d1 := dep_ops S.past
  constructor
  · unfold SeqAt.shaped
    have a : (resD S outs).canLay0 = true := by simp [resD, PyData.canLay0, PyData.canLayAll0, l1, l2, lay_nat, lay_ops]
    have b : (resD S outs).depth ≤ 64 := by
      simp [resD, PyData.depth, PyData.depthAll, dep_nat, dep_str]
      omega
    rw [a, decide_eq_true b]
    rfl
  · unfold SeqAt.shaped
    have a : (res3D S).canLay0 = true := by simp [res3D, PyData.canLay0, PyData.canLayAll0, l1, lay_nat, lay_ops]
    have b : (res3D S).depth ≤ 64 := by
      simp [res3D, PyData.depth, PyData.depthAll, dep_nat, dep_str]
      omega
    rw [a, decide_eq_true b]
    rfl
theorem ResAt.dp {K : Fr} {H : Hp} {r : Addr} {S : BS} {outs : List Str} (h : ResAt H r S outs) : Dp K H (.ref r) (resD S outs) := by
  obtain ⟨sA, v, o, l, os, h1, h2, h3, h4, h5, h6⟩ := h
  exact .tup (SqT.of h1) (.cons (.tup (SqT.of h2) (dpAll_str _)) (.cons (.tup (SqT.of h3) (dpAll_nat _)) (.cons (.lst (SqL.of h4) (dpAll_str _)) (.cons (.lst (SqL.of h5) (dp_ops h6)) .nil))))
theorem dp_res3 {K : Fr} {H : Hp} {r sA v l : Addr} {os : List Addr} {S : BS} (h1 : H r = some (.tup [.ref sA, .ref v, .ref l])) (h2 : H sA = some (.tup (S.D.sh.map V.str))) (h3 : H v = some (.tup (natsV S.ws))) (h5 : H l = some (.lst (os.map V.ref))) (h6 : Paired (OpAt H) os S.past) : Dp K H (.ref r) (res3D S) :=
  .tup (SqT.of h1) (.cons (.tup (SqT.of h2) (dpAll_str _)) (.cons (.tup (SqT.of h3) (dpAll_nat _)) (.cons (.lst (SqL.of h5) (dp_ops h6)) .nil)))
theorem eqv_same {d : PyData} (h : SeqAt.shaped d = true) : PyData.eqv d d = true := SeqAt.eqv_refl d (SeqAt.canLay_of_shaped h)
/-! ### trees that the law makes by itself -/
theorem more_end : ∀ (n k : Nat), moreT k (n + 1) = (moreT k n).app (.row (.shw (k + n)) .nil)
  | 0, k => rfl
  | n + 1, k => by
    show Tree.row (.shw k) (moreT (k + 1) (n + 1)) = Tree.row (.shw k) ((moreT (k + 1) n).app _)
    rw [more_end n (k + 1), show k + 1 + n = k + (n + 1) by omega]
/-- what follows a statement is shown once -/
theorem seq4 {a b c d e : TS} {D : Ends} {σ : L2.St} {H : Hp} (C : L2.St → Hp → Prop) (k : ∀ e' : TS, (∀ σ' H', C σ' H' → e' D σ' H') → tSeq a (tSeq b (tSeq c (tSeq d e'))) D σ H) (h : ∀ σ' H', C σ' H' → e D σ' H') : tSeq a (tSeq b (tSeq c (tSeq d e))) D σ H := k e h
theorem seq2 {a b e : TS} {D : Ends} {σ : L2.St} {H : Hp} (C : L2.St → Hp → Prop) (k : ∀ e' : TS, (∀ σ' H', C σ' H' → e' D σ' H') → tSeq a (tSeq b e') D σ H) (h : ∀ σ' H', C σ' H' → e D σ' H') : tSeq a (tSeq b e) D σ H := k e h
end S57

set_option Elab.async false
set_option linter.all false
set_option maxRecDepth 100000
set_option maxHeartbeats 4000000
namespace S57
open PySem PySem.Spec PyProof.Rows L2 TL
section
variable {P : Program} {w : World} {K : Fr} {mg : Str → Option Value} {base : Heap}
def sp_law (K : Fr) : Sp := fun vs H Q _ => ∃ (sc : Addr) (ns : List Int), vs = [.ref sc] ∧ SqL K H sc (ns.map V.int) ∧ ∀ H', Same H H' → Q (.bl true) H'
theorem sc_law0 : FnScope ["_law_script", "_law_row_here", "_law_turn", "_law_packet_here", "_law_tree_here", "_law_rolled_here", "_law_told", "_law_sheets", "_law_pattern_here", "_law_output", "_law_history", "_law_more", "_law_bench", "_law_away", "_law_k"] ["_law_script"] (defScope s_law) := ⟨rfl, rfl, rfl, by decide +kernel, rfl, by decide +kernel, by decide +kernel⟩
theorem okF_law (T : Txt K mg w) {fd : FuncData} (F : FunP K "law" "law" s_law (a_law K) fd) : FnOk P w K mg base CX0 17 (a_law K) fd ["_law_script"] (sp_law K) := by
  refine fnok0 F sc_law0 (fun vs H Q E h => ?_) (fun cdv A outer s H vs Q E hr h => ?_)
  · obtain ⟨sc, ns, rfl, _⟩ := h
    rfl
  · obtain ⟨sc, ns, rfl, hsc, k⟩ := h
    refine ⟨_, (pss_cons (ps_set (i := 1) sc_law0.nd rfl (by first | exact Or.inl rfl | exact Or.inr rfl) (pe_lst (pa_cons (pv 0) (pa_cons pe_int (pa_cons pe_int (pa_cons pe_int pa_nil))))))
    (pss_cons (ps_for PassesOwn.never rfl (pi_range1 (by rfl) (n_range T) (pa_cons pe_int pa_nil)) (pg_name (i := 2) sc_law0.nd rfl (by first | exact Or.inl rfl | exact Or.inr rfl))
    (pss_cons (ps_set (i := 3) sc_law0.nd rfl (by first | exact Or.inl rfl | exact Or.inr rfl) (pe_g (ok__law_packet T) (hr.mono (by decide)) (g__law_packet T) (kp__law_packet T) pass0 (pa_cons (pv 1) (pa_cons pe_int pa_nil))))
    (pss_cons (ps_set (i := 4) sc_law0.nd rfl (by first | exact Or.inl rfl | exact Or.inr rfl) (pe_g (ok__law_tree T) (hr.mono (by decide)) (g__law_tree T) (kp__law_tree T) pass0 (pa_cons (pv 1) (pa_cons (pv 3) (pa_cons pe_int pa_nil)))))
    (pss_cons (ps_set (i := 5) sc_law0.nd rfl (by first | exact Or.inl rfl | exact Or.inr rfl) (pe_g (ok__law_rolled T) (hr.mono (by decide)) (g__law_rolled T) (kp__law_rolled T) pass0 (pa_cons (pv 4) pa_nil)))
    (pss_cons (ps_if (PW.pt (pw_and (pt_cmpR op_lt (pe_callB call_len_seq (by rfl) (n_len T) boot_len (pa_cons (pe_g (ok__law_lines T) (hr.mono (by decide)) (g__law_lines T) (kp__law_lines T) pass0 (pa_cons (pv 4) pa_nil)) pa_nil)) pe_int (nomark _)) (pw_and1 (pt_cmpR op_lt (pe_callB call_len_seq (by rfl) (n_len T) boot_len (pa_cons (pe_g (ok__law_lines T) (hr.mono (by decide)) (g__law_lines T) (kp__law_lines T) pass0 (pa_cons (pv 5) pa_nil)) pa_nil)) pe_int (nomark _))))) (pss_cons (ps_set (i := 6) sc_law0.nd rfl (by first | exact Or.inl rfl | exact Or.inr rfl) (pe_g (ok__law_run T) (hr.mono (by decide)) (g__law_run T) (kp__law_run T) pass0 (pa_cons (pv 3) (pa_cons (pv 4) pa_nil))))
    (pss_cons (ps_if (pt_cmpR (op_neD hr.units) (pe_g (ok__law_run T) (hr.mono (by decide)) (g__law_run T) (kp__law_run T) pass0 (pa_cons (pv 3) (pa_cons (pv 5) pa_nil))) (pv 6) (nomark _)) (pss_one (ps_ret pe_bl)) pss_nil)
    (pss_one (ps_if (pt_cmpR op_notN (pv 6) pe_non (nomark _)) (pss_cons (ps_asg (pv 6) (pg_tup rfl (pgs_cons (pg_name (i := 7) sc_law0.nd rfl (by first | exact Or.inl rfl | exact Or.inr rfl)) (pgs_cons (pg_name (i := 8) sc_law0.nd rfl (by first | exact Or.inl rfl | exact Or.inr rfl)) (pgs_cons (pg_name (i := 9) sc_law0.nd rfl (by first | exact Or.inl rfl | exact Or.inr rfl)) (pgs_cons (pg_name (i := 10) sc_law0.nd rfl (by first | exact Or.inl rfl | exact Or.inr rfl)) pgs_nil))))))
    (pss_cons (ps_setLc (i := 11) (own := [("_law_k", 14)]) (g := gName 14) (tt := tYes) rfl sc_law0.nd rfl rfl (sw_true rfl rfl rfl (by decide +kernel)) (pi_range1 (by rfl) (n_range T) (pa_cons (pe_callB (call_lenO (fs_Packet_len T).1 (fs_Packet_len T).2 (ok_Packet_len T) (hr.mono (by decide)) pass0) (by rfl) (n_len T) boot_len (pa_cons (pv 3) pa_nil)) pa_nil)) (blkOk_by (own := [("_law_k", 14)]) (N := ["_law_script", "_law_row_here", "_law_turn", "_law_packet_here", "_law_tree_here", "_law_rolled_here", "_law_told", "_law_sheets", "_law_pattern_here", "_law_output", "_law_history", "_law_more", "_law_bench", "_law_away", "_law_k"]) (sc := defScope s_law) (by decide +kernel)) (fun _ _ _ _ _ => (pg_name (i := 14) sc_law0.nd rfl (by first | exact Or.inl rfl | exact Or.inr rfl))) (fun _ _ _ _ _ => pts_nil) (fun _ _ _ _ _ => (pe_lst (pa_cons pe_str (pa_cons (pv 14) pa_nil)))))
    (pss_cons (ps_if (pt_cmpR (op_neD hr.units) (pe_g (ok__law_run T) (hr.mono (by decide)) (g__law_run T) (kp__law_run T) pass0 (pa_cons (pv 3) (pa_cons (pe_op op_cat (pv 4) (pv 11)) pa_nil))) (pe_tup (pa_cons (pv 7) (pa_cons (pv 8) (pa_cons (pe_op op_cat (pv 9) (pe_callTy call_list_of (by rfl) (n_list T) (by decide +kernel) (pa_cons (pv 7) pa_nil))) (pa_cons (pv 10) pa_nil))))) (nomark _)) (pss_one (ps_ret pe_bl)) pss_nil)
    (pss_cons (ps_set (i := 12) sc_law0.nd rfl (by first | exact Or.inl rfl | exact Or.inr rfl) (ClX.pe_cmeth (pe_glob (v := .ref _) rfl (g_Bench T) rfl) (cr_Bench T) (cm_Bench_replay T) (ok_Bench_replay T) (hr.mono (by decide)) pass0 (pa_cons (pv 3) (pa_cons (pv 10) pa_nil))))
    (pss_cons (ps_if (pt_cmpR (op_neD hr.units) (pe_tup (pa_cons (SlX.pe_propSl (pe_propR (pv 12) (cl_Bench T) (pr_Bench_packet_now T) (ok_Bench_packet_now T) (hr.mono (by decide)) pass0p) (sc_Packet T) (pr_Packet_sheets T).at_ (pr_Packet_sheets T).get (pr_Packet_sheets T).tak (pr_Packet_sheets T).rec_ (ok_Packet_sheets T) (hr.mono (by decide)) pass0p) (pa_cons (pe_propR (pv 12) (cl_Bench T) (pr_Bench_pattern_now T) (ok_Bench_pattern_now T) (hr.mono (by decide)) pass0p) (pa_cons (pe_propR (pv 12) (cl_Bench T) (pr_Bench_history T) (ok_Bench_history T) (hr.mono (by decide)) pass0p) pa_nil)))) (pe_tup (pa_cons (pv 7) (pa_cons (pv 8) (pa_cons (pv 10) pa_nil)))) (nomark _)) (pss_one (ps_ret pe_bl)) pss_nil)
    (pss_cons (ps_set (i := 13) sc_law0.nd rfl (by first | exact Or.inl rfl | exact Or.inr rfl) (pe_lst (pa_cons (pe_tup (pa_cons (pe_lst (pa_cons pe_str (pa_cons pe_int pa_nil))) (pa_cons (pe_lst (pa_cons (pe_lst (pa_cons pe_str (pa_cons pe_int pa_nil))) pa_nil)) pa_nil))) (pa_cons (pe_tup (pa_cons (pe_lst (pa_cons pe_str (pa_cons pe_int (pa_cons pe_int (pa_cons pe_str pa_nil))))) (pa_cons (pe_lst (pa_cons (pe_lst (pa_cons pe_str (pa_cons pe_int pa_nil))) pa_nil)) pa_nil))) pa_nil))))
    (pss_one (ps_if (pt_cmpR (op_neD hr.units) (pe_g (ok__law_run T) (hr.mono (by decide)) (g__law_run T) (kp__law_run T) pass0 (pa_cons (pv 3) (pa_cons (pe_op op_cat (pv 4) (pv 13)) pa_nil))) (pv 6) (nomark _)) (pss_one (ps_ret pe_bl)) pss_nil)))))))) pss_nil)))) pss_nil)
    (pss_cons (ps_asg (pe_g (ok_run_script T) (hr.mono (by decide)) (g_run_script T) (kp_run_script T) (passX0 rfl rfl) (pa_cons (pv 3) (pa_cons pe_str pa_nil))) (pg_tup rfl (pgs_cons (pg_name (i := 12) sc_law0.nd rfl (by first | exact Or.inl rfl | exact Or.inr rfl)) (pgs_cons (pg_name (i := 9) sc_law0.nd rfl (by first | exact Or.inl rfl | exact Or.inr rfl)) pgs_nil))))
    (pss_one (ps_if (PW.pt (pw_or (pt_cmpR (op_neE hr.units0) (pv 9) (pe_lst pa_nil) (nomark _)) (pw_or (pt_cmpR (op_neE hr.units0) (pe_propR (pv 12) (cl_Bench T) (pr_Bench_history T) (ok_Bench_history T) (hr.mono (by decide)) pass0p) (pe_lst pa_nil) (nomark _)) (pw_or (pt_cmpR (op_neOwn (isi_Packet T).cm (ne_Packet T) (fs_Packet_eq T).1 (fs_Packet_eq T).2 (ok_Packet_eq T) (hr.mono (by decide)) pass0) (pe_propR (pv 12) (cl_Bench T) (pr_Bench_packet_now T) (ok_Bench_packet_now T) (hr.mono (by decide)) pass0p) (pv 3) (nomark _)) (pw_or1 (pt_cmpR op_ne (pe_propR (pv 12) (cl_Bench T) (pr_Bench_length_now T) (ok_Bench_length_now T) (hr.mono (by decide)) pass0p) pe_int (nomark _))))))) (pss_one (ps_ret pe_bl)) pss_nil))))))))
    (pss_one (ps_ret pe_bl)))), ?_⟩
    have hsz : ∀ {n : Nat}, n ≤ 1000 → n ≤ sizeLine := fun h => Nat.le_of_lt (small1000 h)
    refine ⟨_, rfl, hsz (show 4 ≤ 1000 by decide), fun a ha => ?_⟩
    have hR0 : RwAt K (upd H a (.lst [.ref sc, .int 0, .int 0, .int 0])) a sc ns := ⟨(Same.new ha).seq hsc, 0, 0, 0, upd_same, by decide⟩
    refine ⟨4, rfl, by decide, by decide, ?_⟩
    refine for_range (lo := 0) (n := 4) (fun i σ H' => ∃ (v2 v3 v4 v5 v6 v7 v8 v9 v10 v11 v12 v13 : Option V), σ = [some (.ref sc), some (.ref a), v2, v3, v4, v5, v6, v7, v8, v9, v10, v11, v12, v13, none] ∧ Same H H' ∧ RwAt K H' a sc ns)
      ⟨none, none, none, none, none, none, none, none, none, none, none, none, rfl, Same.new ha, hR0⟩ ?_ ?_
    · rintro i σ H1 hi ⟨v2, v3, v4, v5, v6, v7, v8, v9, v10, v11, v12, v13, rfl, s1, hR1⟩
      have hnew : ∀ x ∈ [a], H x = none := fun x hx => by rw [List.mem_singleton.mp hx]; exact ha
      refine ⟨_, rfl, a, sc, ns, rfl, hR1, fun p D H2 o2 hR2 hp2 hD h3 => ?_⟩
      refine ⟨_, rfl, _, rfl, a, sc, ns, p, D, rfl, hR2, hp2, hD, fun r t H3 o3 hR3 hT hok hsl hct => ?_⟩
      have hp3 := hp2.offR hR2 o3
      have s3 : Same H H3 := (o2.trans o3).back s1 hnew
      dsimp only [gName]
      have hkeep := keep_start hD h3
      obtain ⟨sl1, sl2, sl3⟩ := slim2 hsl hct
      have hdep := slim_depth hsl
      refine seq2 (C := fun σ' H' => ∃ (v4 v5 v6 v7 v8 v9 v10 v11 v12 v13 : Option V), σ' = [some (.ref sc), some (.ref a), some (.int (0 + (i : Nat))), some (.ref p), v4, v5, v6, v7, v8, v9, v10, v11, v12, v13, none] ∧ Same H H' ∧ RwAt K H' a sc ns ∧ PkAt K H' p D) (fun rest part2 => ?_) (fun σ' H' c => ?_)
      · have hT0 : TrAt H3 (fun _ => False) r t := hT.go (Off.refl [] _) (by simp) (fun y hy => hy.elim)
        refine ⟨_, rfl, r, (fun _ => False), t, rfl, hT0, (fun x hx => hx.elim), hdep, ⟨D, hok⟩, by omega, fun r' H4 s4 hn4 hT4 => ?_⟩
        have hp4 := hp3.mono s4
        have hR4 := hR3.same s4
        have s04 := s3.trans s4
        have hTt4 := hT0.same (N' := fun _ => False) s4 (fun y hy => hy.elim)
        have hdepR := Nat.le_trans (rolled_depth t) hdep
        have hokR := rolled_ok hok
        refine ⟨_, rfl, r, (fun _ => False), D, t, rfl, hTt4, hD, hok, hdep, by omega, fun l1 H5 s5 hn5 hl5 => ?_⟩
        refine ⟨l1, _, rfl, .inl (SqL.of hl5), _, _, rfl, rfl, _, rfl, ite2 (fun e1 => ?_) (fun e1 => ?_)⟩
        · have e1 := of_decide_eq_true e1
          have e1 : (((linesV t).length : Nat) : Int) < 50 := e1
          rw [linesV_len] at e1
          have hT5 := hT4.same (N' := fun _ => False) s5 (fun y hy => hy.elim)
          refine ⟨_, rfl, r', (fun _ => False), D, rolledM t, rfl, hT5, hD, hokR, hdepR, by omega, fun l2 H6 s6 hn6 hl6 => ?_⟩
          refine ⟨l2, _, rfl, .inl (SqL.of hl6), _, _, rfl, rfl, _, rfl, ite2 (fun e2 => ?_) (fun e2 => ?_)⟩
          · have e2 := of_decide_eq_true e2
            have e2 : (((linesV (rolledM t)).length : Nat) : Int) < 50 := e2
            rw [linesV_len] at e2
            have s46 := s5.trans s6
            have hp6 := hp4.mono s46
            have hTt6 := hTt4.same (N' := fun _ => False) s46 (fun y hy => hy.elim)
            have hTr6 := hT4.same (N' := fun _ => False) s46 (fun y hy => hy.elim)
            have hR6 := hR4.same s46
            have s06 := s04.trans s46
            have hstR : stepsT (rolledM t) ≤ 300 := Nat.le_trans (noRep_steps (noRep_rolled t)) (by omega)
            clear hTt4 hT4 hR4 hp4 hl5 hn5 hl6 hn6 hT5 s5 s6 s46 s04 s4 hn4 hT0
            cases hrun : runT t (startS D, []) with
            | none =>
              refine ⟨_, rfl, _, rfl, p, r, (fun _ => False), D, t, rfl, hp6, hD, hTt6, hok, hdep, by omega, by omega, (fun S' outs h2 => by rw [hrun] at h2; cases h2), fun h2 H7 s7 => ?_⟩
              refine ⟨_, rfl, _, rfl, p, r', (fun _ => False), D, rolledM t, rfl, hp6.mono s7, hD, hTr6.same (N' := fun _ => False) s7 (fun y hy => hy.elim), hokR, hdepR, by omega, hstR, (fun S' outs h2 => by rw [run_rolled, hrun] at h2; cases h2), fun h2 H8 s8 => ?_⟩
              refine ⟨_, rfl, .none, .none, .non, .non, rfl, rfl, _, rfl, iteF ?_⟩
              refine ⟨_, rfl, rfl, _, rfl, iteF ?_⟩
              have s68 := s7.trans s8
              exact part2 _ _ ⟨_, _, _, _, _, _, _, _, _, _, rfl, s06.trans s68, hR6.same s68, hp6.mono s68⟩
            | some so =>
              obtain ⟨S', outs⟩ := so
              refine ⟨_, rfl, _, rfl, p, r, (fun _ => False), D, t, rfl, hp6, hD, hTt6, hok, hdep, by omega, by omega, (fun S2 outs2 h2 r1 H7 s7 hA7 hpl hol => ?_), fun h2 H7 s7 => by rw [hrun] at h2; cases h2⟩
              rw [hrun] at h2
              cases h2
              have hkp := keep_run t _ _ hok hkeep hrun
              obtain ⟨shp1, shp3⟩ := resD_shaped hkp
              refine ⟨_, rfl, _, rfl, p, r', (fun _ => False), D, rolledM t, rfl, hp6.mono s7, hD, hTr6.same (N' := fun _ => False) s7 (fun y hy => hy.elim), hokR, hdepR, by omega, hstR, (fun S2 outs2 h2 r2 H8 s8 hA8 _ _ => ?_), fun h2 H8 s8 => by rw [run_rolled, hrun] at h2; cases h2⟩
              rw [run_rolled, hrun] at h2
              cases h2
              refine ⟨_, rfl, resD S' outs, resD S' outs, hA8.dp, (hA7.same s8).dp, shp1, shp1, _, rfl, ?_⟩
              rw [eqv_same shp1]
              refine iteF ?_
              refine ⟨_, rfl, rfl, _, rfl, iteT ?_⟩
              have hA8' := hA7.same s8
              obtain ⟨sA, vp, oo, l, os, g1, g2, g3, g4, g5, g6⟩ := id hA8'
              refine ⟨_, rfl, r1, _, rfl, SqT.of g1, rfl, _, _, rfl, _, _, rfl, _, _, rfl, _, _, rfl, rfl, ?_⟩
              have s68 := s7.trans s8
              have hp8 := hp6.mono s68
              obtain ⟨pdx, pt, ps, q1, q2, q3⟩ := hp8.parts
              have n1 := hD.n1; have n3 := hD.n3
              refine ⟨_, rfl, p, pdx, _, rfl, q1, p, D, rfl, hp8, _, rfl, by omega, ((D.sh.length : Nat) : Int), rfl, by omega, by omega, fun L hL => ?_⟩
              rw [Int.toNat_natCast]
              refine lc_it walk_range (fun j H' => Same H8 H' ∧ ∃ ls : List Addr, H' L = some (.lst (ls.map V.ref)) ∧ TrL H' (fun x => x = L) (moreT 0 j) ls ∧ ls.length = j) ⟨Same.new hL, [], upd_same, rfl, rfl⟩ (fun _ _ _ _ => trivial) (fun j x H9' H9 hj z y => ?_) (fun H9 z => ?_)
              · obtain ⟨s9, ls, hls, hTm, hln⟩ := z
                obtain ⟨rfl, rfl⟩ := y
                refine ⟨rfl, ?_⟩
                unfold tYes
                dsimp only
                rw [if_pos rfl]
                refine ⟨_, rfl, hsz (show 2 ≤ 1000 by decide), fun lw hlw => ?_⟩
                have sw : Same H9 (upd H9 lw (.lst [.str "show", .int (0 + (j : Nat))])) := Same.new hlw
                have nwL : lw ≠ L := fun z => by rw [z, hls] at hlw; cases hlw
                have hls2 := sw _ _ hls
                refine ⟨_, hls2, by rw [List.length_map]; exact small1000 (by omega), (s9.trans sw).upd hL, ls ++ [lw], by rw [upd_same, List.map_append]; rfl, ?_, by rw [List.length_append, hln]; rfl⟩
                have oL : Off [L] H9 (upd (upd H9 lw (.lst [.str "show", .int (0 + (j : Nat))])) L (.lst (ls.map V.ref ++ [.ref lw]))) := (Off.of sw).trans (Off.mut (by simp) hls2 (fun _ z => by cases z) (fun z => by cases z))
                rw [more_end]
                refine TrL.app ?_ (hTm.go oL (fun y hy => List.mem_singleton.mp hy) (fun y hy => .inl hy))
                refine ⟨lw, [], rfl, ⟨nwL, ?_⟩, rfl⟩
                show upd (upd H9 lw (.lst [.str "show", .int ((0 : Int) + (j : Nat))])) L (.lst (ls.map V.ref ++ [.ref lw])) lw = _
                rw [upd_ne nwL, upd_same, show ((0 : Int) + (j : Nat)) = ((0 + j : Nat) : Int) by omega]
                rfl
              obtain ⟨s9, ls, hls, hTm, hln⟩ := z
              have s69 := s68.trans s9
              have hp9 := hp8.mono s9
              obtain ⟨_, lt, hlt, hTl⟩ := hTt6.same (N' := fun _ => False) s69 (fun y hy => hy.elim)
              obtain ⟨mo1, mo2, mo3, mo4⟩ := more_facts D D.sh.length 0 (by omega)
              have hltl := hTl.len
              refine ⟨_, rfl, _, rfl, _, rfl, r, L, _, _, rfl, rfl, hlt, hls, hsz (by rw [List.length_map, List.length_map]; omega), fun q hq => ?_⟩
              have sq : Same H9 (upd H9 q (.lst (lt.map V.ref ++ ls.map V.ref))) := Same.new hq
              have hTq : TrAt (upd H9 q (.lst (lt.map V.ref ++ ls.map V.ref))) (fun _ => False) q (t.app (moreT 0 D.sh.length)) := ⟨fun z => z, lt ++ ls, by rw [upd_same, List.map_append], TrL.app (hTm.go (Off.of (M := []) sq) (fun y hy => by cases hy) (fun y hy => hy.elim)) (hTl.go (Off.of (M := []) sq) (fun y hy => by cases hy) (fun y hy => hy.elim))⟩
              have okM := (ok_app (D := D) t (moreT 0 D.sh.length)).mpr ⟨hok, mo1⟩
              have hrunM := run_all_more hok hkeep hrun
              have hkM := keep_run (t.app (moreT 0 D.sh.length)) _ _ okM hkeep hrunM
              refine ⟨p, q, (fun _ => False), D, t.app (moreT 0 D.sh.length), rfl, hp9.mono sq, hD, hTq, okM, by rw [depth_app, mo2]; omega, by rw [toks_app, List.length_append, mo3]; omega, by rw [steps_app, mo4]; omega, (fun S2 outs2 h2 r3 H10 s10 hA10 _ _ => ?_), fun h2 H10 s10 => by rw [hrunM] at h2; cases h2⟩
              rw [hrunM] at h2
              cases h2
              have s810 := s9.trans (sq.trans s10)
              obtain ⟨shM, _⟩ := resD_shaped hkM
              refine ⟨_, rfl, _, rfl, _, rfl, _, rfl, sA, _, rfl, .inr (SqT.of (s810 _ _ g2)), fun l2 hl2 => ?_⟩
              have sX : Same H10 (upd H10 l2 (.lst (S'.D.sh.map V.str))) := Same.new hl2
              have hshl : S'.D.sh.length = D.sh.length := hkp.sd.2.2
              refine ⟨oo, l2, _, _, rfl, rfl, sX _ _ (s810 _ _ g4), upd_same, hsz (by rw [List.length_map, List.length_map]; omega), fun l3 hl3 => ?_⟩
              have sY := sX.new' (o := .lst (outs.map V.str ++ S'.D.sh.map V.str)) hl3
              refine ⟨_, rfl, hsz (show 4 ≤ 1000 by decide), fun tp htp => ?_⟩
              have sZ : Same _ (upd _ tp (.tup [.ref sA, .ref vp, .ref l3, .ref l])) := Same.new htp
              have sXZ := sY.trans sZ
              have s8Z := s810.trans sXZ
              refine ⟨resD S' (outs ++ S'.D.sh), resD S' (outs ++ S'.D.sh), (hA10.same sXZ).dp, ResAt.dp ⟨sA, vp, l3, l, os, upd_same, s8Z _ _ g2, s8Z _ _ g3, by rw [sZ _ _ upd_same, List.map_append], s8Z _ _ g5, Paired.mapP g6 fun _ _ z => z.off (Off.of s8Z) (M := [])⟩, shM, shM, _, rfl, ?_⟩
              rw [eqv_same shM]
              refine iteF ?_
              have hpZ := hp8.mono s8Z
              refine ⟨rfl, _, rfl, _, rfl, p, l, os, D, S', S'.past, rfl, hpZ, hD, by omega, s8Z _ _ g5, Paired.mapP g6 fun _ _ z => z.off (Off.of s8Z) (M := []), hkp.po, hkp.fo, fun M b st dst H12 s12 hB => ?_⟩
              obtain ⟨dxb, f0, p0, sh0, u0, a1, _⟩ := id hB
              refine ⟨_, rfl, b, dxb, _, rfl, a1, M, b, st, dst, S', rfl, hB, fun pk hpk f3 => ?_⟩
              obtain ⟨kdx, kt, ks, k1, k2, k3⟩ := f3.parts
              refine ⟨pk, kdx, _, rfl, k1, pk, S'.D, rfl, f3, fun sB hsB => ?_⟩
              refine ⟨_, rfl, b, dxb, _, rfl, a1, M, b, st, dst, S', rfl, hB, fun vv hvv => ?_⟩
              refine ⟨_, rfl, b, dxb, _, rfl, a1, M, b, st, dst, S', rfl, hB, by omega, fun l4 os4 H13 s13 hl4 hO4 => ⟨hsz (show 3 ≤ 1000 by decide), fun t3 ht3 => ?_⟩⟩
              have sT3 : Same H13 (upd H13 t3 (.tup [.ref sB, .ref vv, .ref l4])) := Same.new ht3
              refine ⟨_, rfl, _, rfl, _, rfl, hsz (show 3 ≤ 1000 by decide), fun t4 ht4 => ?_⟩
              have sT4 : Same _ (upd _ t4 (.tup [.ref sA, .ref vp, .ref l])) := Same.new ht4
              have sTT := sT3.trans sT4
              have s8T := s8Z.trans (s12.trans (s13.trans sTT))
              refine ⟨res3D S', res3D S', dp_res3 (os := os4) (sT4 _ _ upd_same) (sTT _ _ (s13 _ _ hsB)) (sTT _ _ (s13 _ _ hvv)) (sTT _ _ hl4) (Paired.mapP hO4 fun _ _ z => z.off (Off.of sTT) (M := [])), dp_res3 (os := os) upd_same (s8T _ _ g2) (s8T _ _ g3) (s8T _ _ g5) (Paired.mapP g6 fun _ _ z => z.off (Off.of s8T) (M := [])), shp3, shp3, _, rfl, ?_⟩
              rw [eqv_same shp3]
              refine iteF ?_
              refine ⟨hsz (show 2 ≤ 1000 by decide), fun w1 hw1 => ⟨hsz (show 2 ≤ 1000 by decide), fun r1' hr1' => ⟨hsz (show 1 ≤ 1000 by decide), fun b1 hb1 => ⟨hsz (show 2 ≤ 1000 by decide), fun t1 ht1 => ⟨hsz (show 4 ≤ 1000 by decide), fun w2 hw2 => ⟨hsz (show 2 ≤ 1000 by decide), fun r2' hr2' => ⟨hsz (show 1 ≤ 1000 by decide), fun b2 hb2 => ⟨hsz (show 2 ≤ 1000 by decide), fun t2 ht2 => ⟨hsz (show 2 ≤ 1000 by decide), fun aw haw => ?_⟩⟩⟩⟩⟩⟩⟩⟩⟩
              have x1 : Same _ (upd _ w1 (.lst [.str "repeat", .int 0])) := Same.new hw1
              have x2 : Same _ (upd _ r1' (.lst [.str "over", .int 9])) := Same.new hr1'
              have x3 : Same _ (upd _ b1 (.lst [.ref r1'])) := Same.new hb1
              have x4 : Same _ (upd _ t1 (.tup [.ref w1, .ref b1])) := Same.new ht1
              have x5 : Same _ (upd _ w2 (.lst [.str "when", .int 0, .int 0, .str "z"])) := Same.new hw2
              have x6 : Same _ (upd _ r2' (.lst [.str "show", .int 99])) := Same.new hr2'
              have x7 : Same _ (upd _ b2 (.lst [.ref r2'])) := Same.new hb2
              have x8 : Same _ (upd _ t2 (.tup [.ref w2, .ref b2])) := Same.new ht2
              have x9 : Same _ (upd _ aw (.lst [.ref t1, .ref t2])) := Same.new haw
              have y8 := x8.trans x9
              have y7 := x7.trans y8
              have y6 := x6.trans y7
              have y5 := x5.trans y6
              have y4 := x4.trans y5
              have y3 := x3.trans y4
              have y2 := x2.trans y3
              have y1 := x1.trans y2
              have hzz : Wd.vals (Hdr.whn 0 0 122).wd = [.str "when", .int 0, .int 0, .str "z"] := by decide +kernel
              have hAw : TrL (upd _ aw (.lst [.ref t1, .ref t2])) (fun _ => False) awayT [t1, t2] :=
                ⟨t1, [t2], w1, b1, [r1'], rfl, y5 _ _ upd_same, ⟨fun z => z, y2 _ _ upd_same⟩, fun z => z, y4 _ _ upd_same, ⟨r1', [], rfl, ⟨fun z => z, y3 _ _ upd_same⟩, rfl⟩,
                 t2, [], w2, b2, [r2'], rfl, x9 _ _ upd_same, ⟨fun z => z, by rw [hzz]; exact y6 _ _ upd_same⟩, fun z => z, y8 _ _ upd_same, ⟨r2', [], rfl, ⟨fun z => z, y7 _ _ upd_same⟩, rfl⟩, rfl⟩
              have s8A := s8T.trans y1
              have hpA := hp8.mono s8A
              obtain ⟨_, lt2, hlt2, hTl2⟩ := hTt6.same (N' := fun _ => False) (s68.trans s8A) (fun y hy => hy.elim)
              obtain ⟨aw1, aw2, aw3, aw4⟩ := away_facts D
              have hltl2 := hTl2.len
              refine ⟨_, rfl, _, rfl, _, rfl, r, aw, _, _, rfl, rfl, hlt2, upd_same, hsz (by rw [List.length_map]; show lt2.length + 2 ≤ 1000; omega), fun qa hqa => ?_⟩
              have sqa : Same _ (upd _ qa (.lst (lt2.map V.ref ++ [.ref t1, .ref t2]))) := Same.new hqa
              have okA := (ok_app (D := D) t awayT).mpr ⟨hok, aw1⟩
              have hrunA := (run_all_away hok hkeep).trans hrun
              refine ⟨p, qa, (fun _ => False), D, t.app awayT, rfl, hpA.mono sqa, hD, ⟨fun z => z, lt2 ++ [t1, t2], by rw [upd_same, List.map_append]; rfl, TrL.app (hAw.go (Off.of (M := []) sqa) (fun y hy => by cases hy) (fun y hy => hy.elim)) (hTl2.go (Off.of (M := []) sqa) (fun y hy => by cases hy) (fun y hy => hy.elim))⟩, okA, by rw [depth_app, aw2]; omega, by rw [toks_app, List.length_append, aw3]; omega, by rw [steps_app, aw4]; omega, (fun S2 outs2 h2 r4 H16 s16 hA16 _ _ => ?_), fun h2 H16 s16 => by rw [hrunA] at h2; cases h2⟩
              rw [hrunA] at h2
              cases h2
              have s8F := s8A.trans (sqa.trans s16)
              refine ⟨_, rfl, resD S' outs, resD S' outs, hA16.dp, (hA8'.same s8F).dp, shp1, shp1, _, rfl, ?_⟩
              rw [eqv_same shp1]
              refine iteF ?_
              have s6F := s68.trans s8F
              exact part2 _ _ ⟨_, _, _, _, _, _, _, _, _, _, rfl, s06.trans s6F, hR6.same s6F, hp6.mono s6F⟩
          · exact part2 _ _ ⟨_, _, _, _, _, _, _, _, _, _, rfl, s04.trans (s5.trans s6), hR4.same (s5.trans s6), hp4.mono (s5.trans s6)⟩
        · exact part2 _ _ ⟨_, _, _, _, _, _, _, _, _, _, rfl, s04.trans s5, hR4.same s5, hp4.mono s5⟩
      · obtain ⟨v4, v5, v6, v7, v8, v9, v10, v11, v12, v13, rfl, s4, hR4, hp4⟩ := c
        have e0 : [V.ref p, V.str ""] = [V.ref p, V.str (scriptT (toks .nil))] := by rw [show scriptT (toks .nil) = "" from by decide +kernel]
        refine ⟨_, rfl, p, D, .nil, e0, hp4, hD, trivial, Nat.zero_le _, (show 0 < 60 by decide), (show 0 ≤ 300 by decide), fun S' outs h2 M b oo st dst rr H5 s5 hB hpl hol hoo hrr => ?_, fun h2 => by cases h2⟩
        cases h2
        refine ⟨rr, _, rfl, SqT.of hrr, rfl, _, _, rfl, _, _, rfl, rfl, ?_⟩
        obtain ⟨dxb, f0, p0, sh0, u0, a1, _⟩ := id hB
        refine ⟨_, rfl, Nat.zero_le _, fun e he => ?_⟩
        have se : Same H5 (upd H5 e (.lst [])) := Same.new he
        refine ⟨oo, e, _, rfl, rfl, SqL.of (se _ _ hoo), SqL.of upd_same, _, rfl, iteF ?_⟩
        refine ⟨_, rfl, b, dxb, _, rfl, se _ _ a1, M, b, st, dst, startS D, rfl, hB.same se, (show 0 < 900 by decide), fun l os H6 s6 hl hO => ⟨Nat.zero_le _, fun e2 he2 => ?_⟩⟩
        have hos : os = [] := by
          have := Paired.length hO
          exact List.eq_nil_of_length_eq_zero this
        subst hos
        have se2 : Same H6 (upd H6 e2 (.lst [])) := Same.new he2
        refine ⟨l, e2, _, rfl, rfl, SqL.of (se2 _ _ hl), SqL.of upd_same, _, rfl, iteF ?_⟩
        have s56 := se.trans (s6.trans se2)
        have hB6 := hB.same s56
        have hp6 := hp4.mono (s5.trans s56)
        obtain ⟨qdx, qt, qs, w1, w2, w3⟩ := hp6.parts
        refine ⟨_, rfl, b, dxb, _, rfl, s56 _ _ a1, M, b, st, dst, startS D, rfl, hB6, fun pk hpk f3 => ?_⟩
        have f3 : PkAt K _ pk D := f3
        obtain ⟨pdx, pt, ps, q1, q2, q3⟩ := f3.parts
        refine ⟨_, rfl, pk, pdx, _, p, qdx, _, rfl, rfl, q1, w1, pk, p, D, D, rfl, f3, hp6, hD, hD, fun bb H8 hbb s8 => ?_⟩
        obtain rfl := hbb rfl
        refine ⟨true, rfl, _, rfl, iteF ?_⟩
        refine ⟨_, rfl, b, dxb, _, rfl, s8 _ _ (s56 _ _ a1), M, b, st, dst, startS D, rfl, hB6.same s8, rfl, _, rfl, iteF ?_⟩
        have s58 := s5.trans (s56.trans s8)
        exact ⟨_, _, _, _, _, _, _, _, _, _, _, _, rfl, s4.trans s58, hR4.same s58⟩
    · rintro σ H1 ⟨v2, v3, v4, v5, v6, v7, v8, v9, v10, v11, v12, v13, rfl, s1, hR1⟩
      exact k H1 s1
end
end S57


set_option Elab.async false
set_option linter.all false
set_option maxRecDepth 100000
set_option maxHeartbeats 0
namespace S57
open PySem PySem.Spec PyProof.Rows L2
theorem law_facts {P : Program} {w : World} {K : Fr} {h : Heap} {mg : Str → Option Value} {f : Addr} (X : K.In h) (G : h.Ns mainGlobals mg) (hfa : mg ("law" : Str) = some (.ref f)) (c : obsS K = valS w) :
    ∃ fd : FuncData, (∀ (s : Shared) (v : Value), BindsTo s fd ⟨[v], []⟩ [("_law_script", v)]) ∧ ∀ base : Heap, K.In base → base.Ns mainGlobals mg → FnOk P w K mg base CX0 17 f fd ["_law_script"] (sp_law K) := by
  have T := txt_of X G c
  obtain ⟨fd, F⟩ := d_law T
  have e := hfa.symm.trans (g_law T)
  cases e
  have b := FunD.bindsA (ps := ["_law_script"]) F fun _ _ _ _ _ _ us hl => match us, hl with | [_], _ => rfl
  exact ⟨fd, fun s v => b s [v] rfl, fun base _ _ => okF_law T F⟩
end S57
open PySem PySem.W PySem.Calls PyProof.Rows
theorem PySem.Challenge.cw_sawnsheets_k57_whole_scripts_rolled_out_holds : PySem.Challenge.rw_sawnsheets_k57_whole_scripts_rolled_out.Holds := by
  w_on; o_law
  refine HandSHeadRun.head_any (r := OpenLaw.row PySem.Challenge.rw_sawnsheets_k57_whole_scripts_rolled_out) (q := view (OpenLaw.row PySem.Challenge.rw_sawnsheets_k57_whole_scripts_rolled_out).prog [78]) (H := S57.hookS) (ob := S57.obS) (M := 8000) (loose := S57.namesH) (d := HandSHeadRun.topDef (OpenLaw.row PySem.Challenge.rw_sawnsheets_k57_whole_scripts_rolled_out).prog 78) (kwd := []) S57.obS_eq
    (by kernel_rfl) (fun s => by kernel_rfl) S57.runH (by kernel_rfl) (by kernel_rfl) (by kernel_rfl) (by rfl) (by first | assumption | decide +kernel) (by decide +kernel) ⟨rfl, rfl, rfl, rfl, rfl, by decide +kernel⟩ ?hw ?hc
  case hw => w_witness2
  case hc =>
    refine L2.walk_ofE (l := PySem.Challenge.rw_sawnsheets_k57_whole_scripts_rolled_out) (n := 63) (k := 17) (x := "_law_script") (CX := L2.CX0) rfl (by decide) (by kernel_rfl) ⟨rfl, by decide, by decide⟩ ?F (fun _ _ _ _ z => z)
    intro w mg fa h Y G hmg0
    obtain ⟨K, KX, c⟩ := Y
    have hmg : mg ("law" : PySem.Str) = some (.ref fa) := by
      have e : (HandSHeadRun.topDef (OpenLaw.row PySem.Challenge.rw_sawnsheets_k57_whole_scripts_rolled_out).prog 78).name = ("law" : PySem.Str) := by kernel_rfl
      rw [← e]
      exact hmg0
    obtain ⟨fd, hb, hF⟩ := S57.law_facts (P := (PySem.Challenge.rw_sawnsheets_k57_whole_scripts_rolled_out).prog) (w := w) KX G hmg c
    exact ⟨K, fd, S57.sp_law K, KX, hb, fun H a ns hl _ hS => ⟨a, ns, rfl, hS, fun _ _ => rfl⟩, hF⟩
