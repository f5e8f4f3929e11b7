import PyProof.Rows.All
import Wide.All
import OpenK.AllK
import Wide.FinOn
import KE.KStateDown
import Lean
import HandS.ForMost
import HandS.Slots
import HandS.SlotsOwn
import HandS.Evl
import HandS.Walk
import HandS.Property
import HandS.SortRule
import HandS.Star
import HandS.Style
import HandS.Flow
import HandS.IsInst
import HandS.Deep
import HandS.DictComp
import HandS.IterVal
import HandS.SetFor
import HandS.More
import HandS.Codes
import HandS.CallRecv
import HandS.SetBool
import HandS.Strs
import HandS.Defaults
import HandS.Exc
import HandS.Head0
import HandS.Head1
import HandS.Head2
import HandS.HeadEnd
import HandS.HeadHook1
import HandS.HeadHook2
import KE.KOwnIter
import KE.DataMinMax
import HandS.SortKw
import HandS.IterNext
import HandS.Conv
import HandS.DictSubView
import KE.GoesMore
import KE.GoesEnum
import HandS.WordsDict
import KE.KDictZip
import HandS.Zip
import PySem.Challenge.RW_lentpile_k75_whole_nothing_alive_in_part
/-! K75T -/
set_option Elab.async false
set_option linter.all false
set_option maxRecDepth 100000
set_option maxHeartbeats 4000000
/-! The text by places. -/
namespace Q
open PySem L2
def top (i : Nat) : Stmt := PySem.Challenge.pw_lentpile_k75_whole_nothing_alive_in_part.main.body.getD i (.Pass ⟨0, 0, 0, 0⟩)
abbrev sTupled : Stmt := top 2
abbrev sLastEnd : Stmt := top 4
abbrev sCounts : Stmt := top 5
abbrev sPInit : Stmt := inClass (top 9) 1
abbrev sPLen : Stmt := inClass (top 9) 2
abbrev sPNow : Stmt := inClass (top 9) 5
abbrev sPMade : Stmt := inClass (top 9) 8
abbrev sPPlace : Stmt := inClass (top 9) 9
abbrev sPTake : Stmt := inClass (top 9) 10
abbrev sPGive : Stmt := inClass (top 9) 11
abbrev sPPass : Stmt := inClass (top 9) 12
abbrev sPWait : Stmt := inClass (top 9) 13
abbrev sSInit : Stmt := inClass (top 10) 1
abbrev sSBegin : Stmt := inClass (top 10) 2
abbrev sSGot : Stmt := inClass (top 10) 3
abbrev sSMakings : Stmt := inClass (top 10) 5
abbrev sThings : Stmt := top 11
abbrev sMadeAt : Stmt := top 12
abbrev sLInit : Stmt := inClass (top 14) 1
abbrev sLLen : Stmt := inClass (top 14) 2
abbrev sLIter : Stmt := inClass (top 14) 3
abbrev sLGap : Stmt := inClass (top 14) 4
abbrev sLCan : Stmt := inClass (top 14) 5
abbrev sLDead : Stmt := inClass (top 14) 6
abbrev sLGivers : Stmt := inClass (top 14) 7
abbrev sLLiving : Stmt := inClass (top 14) 8
abbrev sLBest : Stmt := inClass (top 14) 9
abbrev sLCrowd : Stmt := inClass (top 14) 10
abbrev sHandingOf : Stmt := top 15
abbrev sDead : Stmt := top 16
abbrev sLifeless : Stmt := top 17
abbrev sFewest : Stmt := top 18
abbrev sBestH : Stmt := top 19
abbrev sCrowd : Stmt := top 20
abbrev sSteps : Stmt := top 21
abbrev sBox : Stmt := top 23
abbrev sTake : Stmt := top 24
abbrev sCells : Stmt := top 25
abbrev sOf : Stmt := top 26
abbrev sSame : Stmt := top 27
abbrev sLoans : Stmt := top 28
abbrev sKeep : Stmt := top 29
abbrev sGap : Stmt := top 30
abbrev sGivers : Stmt := top 31
abbrev sIsDead : Stmt := top 32
abbrev sLiving : Stmt := top 33
abbrev sFar : Stmt := top 34
abbrev sLine : Stmt := top 35
abbrev sDrawn : Stmt := top 36
abbrev sExcess : Stmt := top 37
abbrev sPieces : Stmt := top 38
abbrev sLanes : Stmt := top 39
abbrev sByHand : Stmt := top 40
abbrev sRight : Stmt := top 41
abbrev sLaw : Stmt := top 42
end Q
/-! K75H -/
set_option Elab.async false
set_option linter.all false
set_option maxRecDepth 100000
set_option maxHeartbeats 4000000
/-! A Hook: defs at addresses that are found, and any Bool facts. -/
namespace Q
open PySem PySem.Spec PyProof.Rows L2 He
abbrev Fg := PySem.W.Frag
/-- a def, and how its address is found -/
structure Df where
  adr : Fg → Addr
  nm : Str
  ql : Str
  st : Stmt
  dfl : List V := []
def seen (K : Fg) (a : Addr) : FnW := match K.lookup a with
  | some ⟨_, _, .func fd, _⟩ => some (fd.name, fd.qualname, fd.params, fd.body, fd.scope, fd.globals, fd.closure, fd.builtins)
  | _ => none
def Df.told (d : Df) : FnW := some (d.nm, d.ql, defArgs d.st, .stmts (defBody d.st), defScope d.st, mainGlobals, [], builtinsNs)
def Df.fit (K : Fg) (d : Df) : Bool := PySem.W.keepIn K (.ref (d.adr K)) && (match K.lookup (d.adr K) with
  | some ⟨_, _, .func fd, _⟩ => PySem.W.codeIn K fd.code d.ql && dflB K fd.defaults d.dfl
  | _ => false)
/-- the function object of a def stands at f, with these defaults -/
abbrev At (K : Fg) (d : Df) (f : Addr) (fd : FuncData) : Prop := FunD K d.nm d.ql (defArgs d.st) (defBody d.st) (defScope d.st) d.dfl [] f fd
theorem Df.made {K : Fg} {d : Df} (e : seen K (d.adr K) = d.told) (c : d.fit K = true) : ∃ fd, At K d (d.adr K) fd := by
  obtain ⟨kp, c2⟩ := ba c
  unfold seen at e
  cases q : K.lookup (d.adr K) with
  | none => rw [q] at c2; cases c2
  | some o =>
    obtain ⟨oc, od, dt, osl⟩ := o
    rw [q] at c2 e
    cases dt with
    | func fd =>
      obtain ⟨m1, m2, m3, m4, m5, m6, m7, m8, m9, m10, m11, m12, m13, m14, m15⟩ := fd
      have e2 : (some (m1, m2, m3, m4, m5, m6, m7, m15) : FnW) = some (d.nm, d.ql, defArgs d.st, .stmts (defBody d.st), defScope d.st, mainGlobals, [], builtinsNs) := e
      simp only [Option.some.injEq, Prod.mk.injEq] at e2
      obtain ⟨h1, h2, h3, h4, h5, h6, h7, h8⟩ := e2
      subst h1 h2 h3 h4 h5 h6 h7 h8
      obtain ⟨k1, k2⟩ := ba (show (PySem.W.codeIn K m13 d.ql && dflB K m8 d.dfl) = true from c2)
      exact ⟨_, ⟨oc, od, m8, m9, m10, m11, m12, m13, m14, osl, rfl, q, k1, dflB_ok k2, .inl rfl⟩, kp⟩
    | _ => cases c2
abbrev Ob : Type := Bool × List FnW
def look (fa : List (Fg → Bool)) (fn : List Df) (K : Fg) : Ob := ((fa.all fun f => f K) && fn.all fun d => d.fit K, fn.map fun d => seen K (d.adr K))
def due (fn : List Df) : Ob := (true, fn.map Df.told)
def Says (fa : List (Fg → Bool)) (fn : List Df) (K : Fg) : Prop := look fa fn K = due fn
def lookG (n : Nat) (fa : List (Fg → Bool)) (fn : List Df) (g : Addr → Option Obj) : Ob := look fa fn (frG g (asD g n))
def hook (n : Nat) (fa : List (Fg → Bool)) (fn : List Df) : PySem.W.Hook where
  α := Ob
  obs := fun s => lookG n fa fn s.heap.get?
  val := fun _ => due fn
  says := fun _ h => ∃ K : Fg, K.In h ∧ Says fa fn K
  of := fun _ _ e => ⟨_, frG_in, e⟩
  keeps := fun _ _ _ ⟨K, hK, c⟩ k => ⟨K, PySem.W.Frag.In.keeps hK k, c⟩
theorem lookG_eq {n : Nat} {fa : List (Fg → Bool)} {fn : List Df} {g : Addr → Option Obj} {s : Shared} (h : ∀ a, g a = s.heap.get? a) : lookG n fa fn g = (hook n fa fn).obs s := by
  have e : g = s.heap.get? := funext h
  rw [e] <;> rfl
section
variable {fa : List (Fg → Bool)} {fn : List Df} {K : Fg}
theorem Says.fact (c : Says fa fn K) (i : Nat) {f : Fg → Bool} (h : fa[i]? = some f) : f K = true := by
  have c1 := (ba (show ((fa.all fun f => f K) && fn.all fun d => d.fit K) = true from congrArg (fun z : Ob => z.1) c)).1
  exact List.all_eq_true.mp c1 f (List.mem_of_getElem? h)
theorem Says.df (c : Says fa fn K) (i : Nat) {d : Df} (h : fn[i]? = some d) : ∃ fd, At K d (d.adr K) fd := by
  have c2 := (ba (show ((fa.all fun f => f K) && fn.all fun d => d.fit K) = true from congrArg (fun z : Ob => z.1) c)).2
  have e : (fn.map fun d => seen K (d.adr K))[i]? = (fn.map Df.told)[i]? := congrArg (fun z : Ob => z.2[i]?) c
  rw [List.getElem?_map, List.getElem?_map, h] at e
  exact Df.made (Option.some.inj e) (List.all_eq_true.mp c2 d (List.mem_of_getElem? h))
end
end Q
/-! K75Head -/
set_option Elab.async false
set_option linter.all false
set_option maxRecDepth 100000
set_option maxHeartbeats 0
namespace Q
open PySem PySem.Spec PyProof.Rows L2 He
/-- a class with slots, plain -/
def clsB (K : Fg) (C : Addr) : Bool := PySem.W.plainGet K C Str.empty && (PySem.W.isClsIn K C && (PySem.W.plainOver K C && eqO (PySem.W.findIn K (.ref C) "__setattr__") (some (some (.builtin "object.__setattr__")))))
theorem clsB_ok {K : Fg} {C : Addr} (h : clsB K C = true) : SlX.SCls K C := by
  obtain ⟨h1, h⟩ := ba h
  obtain ⟨h2, h⟩ := ba h
  obtain ⟨h3, h4⟩ := ba h
  exact ⟨h1, h2, h3, eqO_ok h4⟩
def slotB (K : Fg) (C : Addr) (f : Str) (i : Nat) : Bool :=
  eqO (PySem.W.findIn K (.ref C) f) (some (some (.ref (ma K C f)))) && (eqO (PySem.W.specialIn K (.ref (ma K C f)) "__get__") (some (some (.builtin "member_descriptor.__get__"))) &&
    (decide (PySem.W.takesIn K (.ref (ma K C f)) = some true) && (decide (PySem.W.typeIn K (.ref (ma K C f)) = some (.type "member_descriptor")) && (decide (PySem.W.slotIn K (ma K C f) C = some i) && decide (i < 1000)))))
theorem slotB_ok {K : Fg} {C : Addr} {f : Str} {i : Nat} (h : slotB K C f i = true) : SlX.Slot1 K C f (ma K C f) i := by
  obtain ⟨h1, h⟩ := ba h
  obtain ⟨h2, h⟩ := ba h
  obtain ⟨h3, h⟩ := ba h
  obtain ⟨h4, h⟩ := ba h
  obtain ⟨h5, h6⟩ := ba h
  exact ⟨eqO_ok h1, eqO_ok h2, of_decide_eq_true h3, of_decide_eq_true h4, of_decide_eq_true h5, of_decide_eq_true h6⟩
/-- a property's getter -/
def getter (K : Fg) (C : Addr) (f : Str) : Addr := match PySem.W.recIn K (ma K C f) "property" with
  | some (.ref g :: _) => g
  | _ => 0
def propB (K : Fg) (C : Addr) (f : Str) : Bool :=
  eqO (PySem.W.findIn K (.ref C) f) (some (some (.ref (ma K C f)))) && (eqO (PySem.W.specialIn K (.ref (ma K C f)) "__get__") (some (some (.builtin "property.__get__"))) &&
    (decide (PySem.W.takesIn K (.ref (ma K C f)) = some true) && (match PySem.W.recIn K (ma K C f) "property" with
      | some (.ref _ :: _) => true
      | _ => false)))
theorem propB_ok {K : Fg} {C : Addr} {f : Str} (h : propB K C f = true) : PropOf K C f (ma K C f) (getter K C f) := by
  obtain ⟨h1, h⟩ := ba h
  obtain ⟨h2, h⟩ := ba h
  obtain ⟨h3, h4⟩ := ba h
  refine ⟨eqO_ok h1, eqO_ok h2, of_decide_eq_true h3, ?_⟩
  unfold getter
  split at h4
  · rename_i q
    rw [q]
    exact ⟨_, rfl⟩
  · cases h4
def hdFa : List (Fg → Bool) := [
  fun K => (Fa.glo "tupled").ok K,
  fun K => (Fa.glo "last_end").ok K,
  fun K => (Fa.glo "counts").ok K,
  fun K => (Fa.glo "things").ok K,
  fun K => (Fa.glo "made_at").ok K,
  fun K => (Fa.glo "handing_of").ok K,
  fun K => (Fa.glo "dead").ok K,
  fun K => (Fa.glo "lifeless").ok K,
  fun K => (Fa.glo "fewest_lifeless").ok K,
  fun K => (Fa.glo "best_handing").ok K,
  fun K => (Fa.glo "crowd").ok K,
  fun K => (Fa.glo "steps").ok K,
  fun K => (Fa.glo "_law_box").ok K,
  fun K => (Fa.glo "_law_take").ok K,
  fun K => (Fa.glo "_law_cells").ok K,
  fun K => (Fa.glo "_law_of").ok K,
  fun K => (Fa.glo "_law_same").ok K,
  fun K => (Fa.glo "_law_loans").ok K,
  fun K => (Fa.glo "_law_keep").ok K,
  fun K => (Fa.glo "_law_gap").ok K,
  fun K => (Fa.glo "_law_givers").ok K,
  fun K => (Fa.glo "_law_is_dead").ok K,
  fun K => (Fa.glo "_law_living").ok K,
  fun K => (Fa.glo "_law_far").ok K,
  fun K => (Fa.glo "_law_line").ok K,
  fun K => (Fa.glo "_law_drawn").ok K,
  fun K => (Fa.glo "_law_excess").ok K,
  fun K => (Fa.glo "_law_pieces").ok K,
  fun K => (Fa.glo "_law_lanes_right").ok K,
  fun K => (Fa.glo "_law_by_hand_right").ok K,
  fun K => (Fa.glo "_law_right").ok K,
  fun K => (Fa.glo "law").ok K,
  fun K => (Fa.glo "Pool").ok K,
  fun K => (Fa.glo "Story").ok K,
  fun K => (Fa.glo "Links").ok K,
  fun K => (Fa.free "len").ok K,
  fun K => (Fa.free "max").ok K,
  fun K => (Fa.free "range").ok K,
  fun K => (Fa.free "isinstance").ok K,
  fun K => (Fa.free "list").ok K,
  fun K => (Fa.free "tuple").ok K,
  fun K => (Fa.free "min").ok K,
  fun K => (Fa.free "sorted").ok K,
  fun K => (Fa.free "enumerate").ok K,
  fun K => (Fa.free "iter").ok K,
  fun K => (Fa.free "any").ok K,
  fun K => (Fa.free "all").ok K,
  fun K => (Fa.free "abs").ok K,
  fun K => (Fa.free "int").ok K,
  fun K => (Fa.free "set").ok K,
  fun K => (Fa.free "sum").ok K,
  fun K => (Fa.free "zip").ok K,
  fun K => (Fa.free "bool").ok K,
  fun K => (Fa.free "str").ok K,
  fun K => clsB K (ga K "Pool"),
  fun K => (Fa.mkr "Pool").ok K,
  fun K => slotB K (ga K "Pool") "own_keep" 2,
  fun K => slotB K (ga K "Pool") "own_depth" 0,
  fun K => slotB K (ga K "Pool") "own_now" 5,
  fun K => slotB K (ga K "Pool") "own_idle" 1,
  fun K => slotB K (ga K "Pool") "own_lent" 3,
  fun K => slotB K (ga K "Pool") "own_made" 4,
  fun K => slotB K (ga K "Pool") "own_there" 6,
  fun K => (Fa.meth "Pool" "__init__").ok K,
  fun K => (Fa.meth "Pool" "__len__").ok K,
  fun K => (Fa.meth "Pool" "place").ok K,
  fun K => (Fa.meth "Pool" "take").ok K,
  fun K => (Fa.meth "Pool" "give").ok K,
  fun K => (Fa.meth "Pool" "pass_on").ok K,
  fun K => (Fa.meth "Pool" "wait").ok K,
  fun K => propB K (ga K "Pool") "now",
  fun K => propB K (ga K "Pool") "made",
  fun K => clsB K (ga K "Story"),
  fun K => (Fa.mkr "Story").ok K,
  fun K => slotB K (ga K "Story") "own_things" 3,
  fun K => slotB K (ga K "Story") "own_numbers" 2,
  fun K => slotB K (ga K "Story") "own_made" 1,
  fun K => slotB K (ga K "Story") "own_gone" 0,
  fun K => (Fa.meth "Story" "__init__").ok K,
  fun K => (Fa.meth "Story" "begin").ok K,
  fun K => (Fa.meth "Story" "got").ok K,
  fun K => (Fa.meth "Story" "makings").ok K,
  fun K => clsB K (ga K "Links"),
  fun K => (Fa.mkr "Links").ok K,
  fun K => slotB K (ga K "Links") "own_loans" 3,
  fun K => slotB K (ga K "Links") "own_indexes" 1,
  fun K => slotB K (ga K "Links") "own_keep" 2,
  fun K => slotB K (ga K "Links") "own_shut" 4,
  fun K => slotB K (ga K "Links") "own_anew" 0,
  fun K => (Fa.meth "Links" "__init__").ok K,
  fun K => (Fa.meth "Links" "__len__").ok K,
  fun K => (Fa.meth "Links" "__iter__").ok K,
  fun K => (Fa.meth "Links" "gap").ok K,
  fun K => (Fa.meth "Links" "can_follow").ok K,
  fun K => (Fa.meth "Links" "is_dead").ok K,
  fun K => (Fa.meth "Links" "givers").ok K,
  fun K => (Fa.meth "Links" "living").ok K,
  fun K => (Fa.meth "Links" "best").ok K,
  fun K => (Fa.meth "Links" "crowd").ok K]
def hdFn : List Df := [
  ⟨fun K => ga K "tupled", "tupled", "tupled", sTupled, []⟩,
  ⟨fun K => ga K "last_end", "last_end", "last_end", sLastEnd, []⟩,
  ⟨fun K => ga K "counts", "counts", "counts", sCounts, []⟩,
  ⟨fun K => ga K "things", "things", "things", sThings, []⟩,
  ⟨fun K => ga K "made_at", "made_at", "made_at", sMadeAt, []⟩,
  ⟨fun K => ga K "handing_of", "handing_of", "handing_of", sHandingOf, []⟩,
  ⟨fun K => ga K "dead", "dead", "dead", sDead, []⟩,
  ⟨fun K => ga K "lifeless", "lifeless", "lifeless", sLifeless, []⟩,
  ⟨fun K => ga K "fewest_lifeless", "fewest_lifeless", "fewest_lifeless", sFewest, []⟩,
  ⟨fun K => ga K "best_handing", "best_handing", "best_handing", sBestH, []⟩,
  ⟨fun K => ga K "crowd", "crowd", "crowd", sCrowd, []⟩,
  ⟨fun K => ga K "steps", "steps", "steps", sSteps, []⟩,
  ⟨fun K => ga K "_law_box", "_law_box", "_law_box", sBox, []⟩,
  ⟨fun K => ga K "_law_take", "_law_take", "_law_take", sTake, []⟩,
  ⟨fun K => ga K "_law_cells", "_law_cells", "_law_cells", sCells, []⟩,
  ⟨fun K => ga K "_law_of", "_law_of", "_law_of", sOf, []⟩,
  ⟨fun K => ga K "_law_same", "_law_same", "_law_same", sSame, []⟩,
  ⟨fun K => ga K "_law_loans", "_law_loans", "_law_loans", sLoans, []⟩,
  ⟨fun K => ga K "_law_keep", "_law_keep", "_law_keep", sKeep, []⟩,
  ⟨fun K => ga K "_law_gap", "_law_gap", "_law_gap", sGap, []⟩,
  ⟨fun K => ga K "_law_givers", "_law_givers", "_law_givers", sGivers, []⟩,
  ⟨fun K => ga K "_law_is_dead", "_law_is_dead", "_law_is_dead", sIsDead, []⟩,
  ⟨fun K => ga K "_law_living", "_law_living", "_law_living", sLiving, []⟩,
  ⟨fun K => ga K "_law_far", "_law_far", "_law_far", sFar, []⟩,
  ⟨fun K => ga K "_law_line", "_law_line", "_law_line", sLine, []⟩,
  ⟨fun K => ga K "_law_drawn", "_law_drawn", "_law_drawn", sDrawn, []⟩,
  ⟨fun K => ga K "_law_excess", "_law_excess", "_law_excess", sExcess, []⟩,
  ⟨fun K => ga K "_law_pieces", "_law_pieces", "_law_pieces", sPieces, []⟩,
  ⟨fun K => ga K "_law_lanes_right", "_law_lanes_right", "_law_lanes_right", sLanes, []⟩,
  ⟨fun K => ga K "_law_by_hand_right", "_law_by_hand_right", "_law_by_hand_right", sByHand, []⟩,
  ⟨fun K => ga K "_law_right", "_law_right", "_law_right", sRight, []⟩,
  ⟨fun K => ga K "law", "law", "law", sLaw, []⟩,
  ⟨fun K => ma K (ga K "Pool") "__init__", "__init__", "Pool.__init__", sPInit, [.int 0]⟩,
  ⟨fun K => ma K (ga K "Pool") "__len__", "__len__", "Pool.__len__", sPLen, []⟩,
  ⟨fun K => ma K (ga K "Pool") "place", "place", "Pool.place", sPPlace, []⟩,
  ⟨fun K => ma K (ga K "Pool") "take", "take", "Pool.take", sPTake, []⟩,
  ⟨fun K => ma K (ga K "Pool") "give", "give", "Pool.give", sPGive, []⟩,
  ⟨fun K => ma K (ga K "Pool") "pass_on", "pass_on", "Pool.pass_on", sPPass, []⟩,
  ⟨fun K => ma K (ga K "Pool") "wait", "wait", "Pool.wait", sPWait, [.int 1]⟩,
  ⟨fun K => getter K (ga K "Pool") "now", "now", "Pool.now", sPNow, []⟩,
  ⟨fun K => getter K (ga K "Pool") "made", "made", "Pool.made", sPMade, []⟩,
  ⟨fun K => ma K (ga K "Story") "__init__", "__init__", "Story.__init__", sSInit, []⟩,
  ⟨fun K => ma K (ga K "Story") "begin", "begin", "Story.begin", sSBegin, []⟩,
  ⟨fun K => ma K (ga K "Story") "got", "got", "Story.got", sSGot, []⟩,
  ⟨fun K => ma K (ga K "Story") "makings", "makings", "Story.makings", sSMakings, []⟩,
  ⟨fun K => ma K (ga K "Links") "__init__", "__init__", "Links.__init__", sLInit, []⟩,
  ⟨fun K => ma K (ga K "Links") "__len__", "__len__", "Links.__len__", sLLen, []⟩,
  ⟨fun K => ma K (ga K "Links") "__iter__", "__iter__", "Links.__iter__", sLIter, []⟩,
  ⟨fun K => ma K (ga K "Links") "gap", "gap", "Links.gap", sLGap, []⟩,
  ⟨fun K => ma K (ga K "Links") "can_follow", "can_follow", "Links.can_follow", sLCan, []⟩,
  ⟨fun K => ma K (ga K "Links") "is_dead", "is_dead", "Links.is_dead", sLDead, []⟩,
  ⟨fun K => ma K (ga K "Links") "givers", "givers", "Links.givers", sLGivers, []⟩,
  ⟨fun K => ma K (ga K "Links") "living", "living", "Links.living", sLLiving, []⟩,
  ⟨fun K => ma K (ga K "Links") "best", "best", "Links.best", sLBest, []⟩,
  ⟨fun K => ma K (ga K "Links") "crowd", "crowd", "Links.crowd", sLCrowd, []⟩]
def hdLoose1 : List PySem.Str := ["_wall", "tupled", "last_end", "counts", "NotLent", "Pool", "Story", "things", "made_at", "Links", "handing_of", "dead", "lifeless", "fewest_lifeless", "best_handing", "crowd", "steps", "_law_box", "_law_take", "_law_cells", "_law_of", "_law_same", "_law_loans", "_law_keep", "_law_gap", "_law_givers", "_law_is_dead", "_law_living", "_law_far", "_law_line"]
def hdLoose2 : List PySem.Str := ["_law_drawn", "_law_excess", "_law_pieces", "_law_lanes_right", "_law_by_hand_right", "_law_right"]
abbrev hdR : PySem.W.OpenRow := PySem.W.OpenLaw.row PySem.Challenge.rw_lentpile_k75_whole_nothing_alive_in_part
abbrev hdHk : PySem.W.Hook := hook 5 hdFa hdFn
def hdOb (s : PySem.W.SharedT) : Ob := lookG 5 hdFa hdFn (HandSHeadRun.getT s)
theorem hdObEq (s : PySem.W.SharedT) : hdOb s = hdHk.obs s.abs := lookG_eq (HandSHeadRun.getT_eq s)
theorem hdRun (w : World) : HandSHeadRun.RunEq hdR (PySem.W.view hdR.prog [42]) hdHk hdOb 4000 (hdLoose1 ++ hdLoose2) w := by
  intro os
  kernel_rfl
end Q
/-! K75M1 -/
set_option linter.all false
set_option maxHeartbeats 1000000
/-! Plain law, part 1: the greedy handing, and that it is the greatest. -/
namespace M
/-- (end, index) of g is not behind that of h -/
def lexle (en : Nat → Int) (g h : Nat) : Prop := en g < en h ∨ (en g = en h ∧ g ≤ h)
theorem lexle_total (en : Nat → Int) (g h : Nat) : lexle en g h ∨ lexle en h g := by unfold lexle; omega
theorem lexle_trans {en : Nat → Int} {g h k : Nat} (a : lexle en g h) (b : lexle en h k) : lexle en g k := by unfold lexle at *; omega
theorem lexle_anti {en : Nat → Int} {g h : Nat} (a : lexle en g h) (b : lexle en h g) : g = h := by unfold lexle at *; omega
theorem lexle_refl (en : Nat → Int) (g : Nat) : lexle en g g := by unfold lexle; omega
instance (en : Nat → Int) (g h : Nat) : Decidable (lexle en g h) := by unfold lexle; exact inferInstance
def least (en : Nat → Int) : List Nat → Option Nat
  | [] => none
  | g :: r => match least en r with
    | none => some g
    | some h => if lexle en g h then some g else some h
structure IsLeast (en : Nat → Int) (l : List Nat) (g : Nat) : Prop where
  mem : g ∈ l
  le : ∀ h ∈ l, lexle en g h
theorem least_none {en : Nat → Int} : ∀ {l : List Nat}, least en l = none → l = []
  | [], _ => rfl
  | g :: r, h => by
    unfold least at h
    cases e : least en r with
    | none => rw [e] at h; cases h
    | some k => rw [e] at h; simp only at h; split at h <;> cases h
theorem least_some {en : Nat → Int} : ∀ {l : List Nat} {g : Nat}, least en l = some g → IsLeast en l g
  | [], _, h => by cases h
  | a :: r, g, h => by
    unfold least at h
    cases e : least en r with
    | none =>
      rw [e] at h
      have hr := least_none e
      subst hr
      cases h
      exact ⟨by simp, fun x hx => by simp at hx; subst hx; exact lexle_refl en _⟩
    | some k =>
      have ih := least_some e
      rw [e] at h
      simp only at h
      split at h
      · rename_i hle
        cases h
        refine ⟨by simp, fun x hx => ?_⟩
        rcases List.mem_cons.mp hx with rfl | hx
        · exact lexle_refl en _
        · exact lexle_trans hle (ih.le x hx)
      · rename_i hle
        cases h
        refine ⟨List.mem_cons_of_mem _ ih.mem, fun x hx => ?_⟩
        rcases List.mem_cons.mp hx with rfl | hx
        · exact (lexle_total en g x).resolve_right hle
        · exact ih.le x hx
theorem least_of {en : Nat → Int} {l : List Nat} {g : Nat} (h : IsLeast en l g) : least en l = some g := by
  cases e : least en l with
  | none => rw [least_none e] at h; cases h.mem
  | some k =>
    have i := least_some e
    rw [lexle_anti (h.le k i.mem) (i.le g h.mem)]
/-- who is free for t -/
def free (Lv : Nat → List Nat) (F : List (Nat × Nat)) (t : Nat) : List Nat := (Lv t).filter fun g => !(F.map (·.2)).contains g
theorem mem_free {Lv : Nat → List Nat} {F : List (Nat × Nat)} {t g : Nat} : g ∈ free Lv F t ↔ g ∈ Lv t ∧ g ∉ F.map (·.2) := by
  unfold free
  rw [List.mem_filter]
  simp
/-- the greedy handing of the first takers: pairs (taker, giver) -/
def gr (Lv : Nat → List Nat) (en : Nat → Int) : Nat → List (Nat × Nat)
  | 0 => []
  | t + 1 => match least en (free Lv (gr Lv en t) t) with
    | none => gr Lv en t
    | some g => gr Lv en t ++ [(t, g)]
section
variable {Lv : Nat → List Nat} {en : Nat → Int}
theorem gr_step (t : Nat) : (gr Lv en (t + 1) = gr Lv en t ∧ free Lv (gr Lv en t) t = []) ∨ ∃ g, gr Lv en (t + 1) = gr Lv en t ++ [(t, g)] ∧ IsLeast en (free Lv (gr Lv en t) t) g := by
  cases e : least en (free Lv (gr Lv en t) t) with
  | none => exact .inl ⟨by rw [gr, e], least_none e⟩
  | some g => exact .inr ⟨g, by rw [gr, e], least_some e⟩
theorem gr_keys : ∀ (n : Nat) (p : Nat × Nat), p ∈ gr Lv en n → p.1 < n
  | 0, p, h => by cases h
  | t + 1, p, h => by
    rcases gr_step (Lv := Lv) (en := en) t with ⟨e, _⟩ | ⟨g, e, _⟩
    · rw [e] at h; exact Nat.lt_succ_of_lt (gr_keys t p h)
    · rw [e] at h
      rcases List.mem_append.mp h with h | h
      · exact Nat.lt_succ_of_lt (gr_keys t p h)
      · simp at h; subst h; exact Nat.lt_succ_self _
theorem gr_up {t n : Nat} (h : t ≤ n) {p : Nat × Nat} (hp : p ∈ gr Lv en t) : p ∈ gr Lv en n := by
  induction n with
  | zero => have : t = 0 := by omega
            subst this; exact hp
  | succ n ih =>
    by_cases e : t = n + 1
    · subst e; exact hp
    · have q := ih (by omega)
      rcases gr_step (Lv := Lv) (en := en) n with ⟨e, _⟩ | ⟨g, e, _⟩
      · rw [e]; exact q
      · rw [e]; exact List.mem_append_left _ q
theorem gr_down {t n : Nat} {p : Nat × Nat} (hp : p ∈ gr Lv en n) (hk : p.1 < t) : p ∈ gr Lv en t := by
  induction n with
  | zero => cases hp
  | succ n ih =>
    rcases gr_step (Lv := Lv) (en := en) n with ⟨e, _⟩ | ⟨g, e, _⟩
    · rw [e] at hp; exact ih hp
    · rw [e] at hp
      rcases List.mem_append.mp hp with h | h
      · exact ih h
      · simp at h
        subst h
        have : n + 1 ≤ t := hk
        refine gr_up this ?_
        rw [e]
        exact List.mem_append_right _ (by simp)
theorem gr_vals {t n : Nat} (h : t ≤ n) {g : Nat} (hg : g ∈ (gr Lv en t).map (·.2)) : g ∈ (gr Lv en n).map (·.2) := by
  obtain ⟨p, hp, rfl⟩ := List.mem_map.mp hg
  exact List.mem_map.mpr ⟨p, gr_up h hp, rfl⟩
theorem gr_val_of {t n : Nat} {p : Nat × Nat} (hp : p ∈ gr Lv en n) (hk : p.1 < t) : p.2 ∈ (gr Lv en t).map (·.2) := List.mem_map.mpr ⟨p, gr_down hp hk, rfl⟩
theorem gr_ndv : ∀ n : Nat, ((gr Lv en n).map (·.2)).Nodup
  | 0 => List.nodup_nil
  | t + 1 => by
    rcases gr_step (Lv := Lv) (en := en) t with ⟨e, _⟩ | ⟨g, e, h⟩
    · rw [e]; exact gr_ndv t
    · rw [e, List.map_append]
      refine List.nodup_append.mpr ⟨gr_ndv t, by simp, fun a ha b hb => ?_⟩
      simp at hb
      subst hb
      intro q
      subst q
      exact (mem_free.mp h.mem).2 ha
theorem gr_ndk : ∀ n : Nat, ((gr Lv en n).map (·.1)).Nodup
  | 0 => List.nodup_nil
  | t + 1 => by
    rcases gr_step (Lv := Lv) (en := en) t with ⟨e, _⟩ | ⟨g, e, h⟩
    · rw [e]; exact gr_ndk t
    · rw [e, List.map_append]
      refine List.nodup_append.mpr ⟨gr_ndk t, by simp, fun a ha b hb => ?_⟩
      simp at hb
      subst hb
      intro q
      obtain ⟨p, hp, e2⟩ := List.mem_map.mp ha
      have := gr_keys _ p hp
      omega
/-- a pair of it -/
theorem gr_pair {n t g : Nat} (h : (t, g) ∈ gr Lv en n) : g ∈ Lv t ∧ g ∉ (gr Lv en t).map (·.2) ∧ ∀ k ∈ Lv t, k ∉ (gr Lv en t).map (·.2) → lexle en g k := by
  have h1 := gr_down (t := t + 1) h (Nat.lt_succ_self _)
  have h2 : (t, g) ∉ gr Lv en t := fun q => absurd (gr_keys t _ q) (Nat.lt_irrefl t)
  rcases gr_step (Lv := Lv) (en := en) t with ⟨e, _⟩ | ⟨k, e, hl⟩
  · rw [e] at h1; exact absurd h1 h2
  · rw [e] at h1
    rcases List.mem_append.mp h1 with h1 | h1
    · exact absurd h1 h2
    · simp at h1
      subst h1
      exact ⟨(mem_free.mp hl.mem).1, (mem_free.mp hl.mem).2, fun x hx hn => hl.le x (mem_free.mpr ⟨hx, hn⟩)⟩
/-- a taker without a pair -/
theorem gr_left {n t : Nat} (ht : t < n) (h : t ∉ (gr Lv en n).map (·.1)) : ∀ g ∈ Lv t, g ∈ (gr Lv en t).map (·.2) := by
  intro g hg
  rcases gr_step (Lv := Lv) (en := en) t with ⟨e, hf⟩ | ⟨k, e, hl⟩
  · by_cases q : g ∈ (gr Lv en t).map (·.2)
    · exact q
    · have : g ∈ free Lv (gr Lv en t) t := mem_free.mpr ⟨hg, q⟩
      rw [hf] at this; cases this
  · exfalso
    apply h
    refine List.mem_map.mpr ⟨(t, k), gr_up (t := t + 1) ht ?_, rfl⟩
    rw [e]
    exact List.mem_append_right _ (by simp)
theorem gr_inj {n t u g : Nat} (h1 : (t, g) ∈ gr Lv en n) (h2 : (u, g) ∈ gr Lv en n) : t = u := by
  rcases Nat.lt_trichotomy t u with h | h | h
  · exact absurd (gr_val_of h1 h) (gr_pair h2).2.1
  · exact h
  · exact absurd (gr_val_of h2 h) (gr_pair h1).2.1
theorem gr_fun {n t g k : Nat} (h1 : (t, g) ∈ gr Lv en n) (h2 : (t, k) ∈ gr Lv en n) : g = k := by
  obtain ⟨a, b, c⟩ := gr_pair h1
  obtain ⟨a', b', c'⟩ := gr_pair h2
  exact lexle_anti (c k a' b') (c' g a b)
theorem gr_congr {Lv' : Nat → List Nat} {en' : Nat → Int} : ∀ n : Nat, (∀ t, t < n → Lv t = Lv' t) → (∀ g, en g = en' g) → gr Lv en n = gr Lv' en' n
  | 0, _, _ => rfl
  | t + 1, h, he => by
    have ih := gr_congr t (fun u hu => h u (by omega)) he
    have e2 : en = en' := funext he
    subst e2
    unfold gr
    unfold free
    rw [ih, h t (by omega)]

/-! ### what makes it the greatest -/
/-- the living, as times order them -/
structure Conv (Lv : Nat → List Nat) (en : Nat → Int) (n : Nat) : Prop where
  mid : ∀ {t w u g : Nat}, u < n → g ∈ Lv t → g ∈ Lv u → t ≤ w → w ≤ u → g ∈ Lv w
  late : ∀ {t u g h : Nat}, u < n → g ∈ Lv t → h ∈ Lv t → lexle en g h → t ≤ u → g ∈ Lv u → h ∈ Lv u
  soon : ∀ {t w g h : Nat}, w < n → g ∈ Lv t → t ≤ w → g ∈ Lv w → h ∈ Lv w → lexle en h g → h ∈ Lv t
variable {n : Nat}
/-- a taker from whom nobody is left behind -/
def Full (Lv : Nat → List Nat) (en : Nat → Int) (n t : Nat) : Prop :=
  ∃ z, z < n ∧ z ∉ (gr Lv en n).map (·.1) ∧ t ≤ z ∧ ∀ u, t ≤ u → u ≤ z → ∀ g ∈ Lv u, g ∈ (gr Lv en z).map (·.2)
theorem Full.lt {t : Nat} (h : Full Lv en n t) : t < n := by
  obtain ⟨z, h1, _, h2, _⟩ := h
  omega
theorem full_left {t : Nat} (ht : t < n) (h : t ∉ (gr Lv en n).map (·.1)) : Full Lv en n t :=
  ⟨t, ht, h, Nat.le_refl _, fun u h1 h2 g hg => by
    have : u = t := by omega
    subst this
    exact gr_left ht h g hg⟩
theorem full_next (C : Conv Lv en n) {t g : Nat} (h : Full Lv en n t) (hg : g ∈ Lv t) : ∃ u, (u, g) ∈ gr Lv en n ∧ Full Lv en n u := by
  obtain ⟨z, hz, hzn, htz, hall⟩ := h
  obtain ⟨p, hp, e⟩ := List.mem_map.mp (hall t (Nat.le_refl _) htz g hg)
  obtain ⟨u, g'⟩ := p
  have e : g' = g := e
  subst e
  have huz : u < z := gr_keys z _ hp
  have hpn : (u, g') ∈ gr Lv en n := gr_up (Nat.le_of_lt hz) hp
  refine ⟨u, hpn, z, hz, hzn, Nat.le_of_lt huz, fun w h1 h2 k hk => ?_⟩
  by_cases htw : t ≤ w
  · exact hall w htw h2 k hk
  · by_cases q : k ∈ (gr Lv en z).map (·.2)
    · exact q
    · exfalso
      obtain ⟨a1, a2, a3⟩ := gr_pair hp
      have gw : g' ∈ Lv w := C.mid (by omega) a1 hg h1 (by omega)
      rcases lexle_total en g' k with hle | hle
      · exact q (hall t (Nat.le_refl _) htz k (C.late (by omega) gw hk hle (by omega) hg))
      · have ku : k ∈ Lv u := C.soon (by omega) a1 h1 gw hk hle
        have kn : k ∉ (gr Lv en u).map (·.2) := fun x => q (gr_vals (Nat.le_of_lt huz) x)
        have e := lexle_anti (a3 k ku kn) hle
        subst e
        exact q (List.mem_map.mpr ⟨_, hp, rfl⟩)
end

/-! ### counting -/
theorem nodup_erase_len {α : Type} [DecidableEq α] : ∀ {a : α} {l : List α}, a ∈ l → (l.erase a).length + 1 = l.length
  | a, l, h => by
    have := List.length_erase_of_mem h
    have hp : 0 < l.length := List.length_pos_of_mem h
    omega
theorem len_le {α : Type} [DecidableEq α] : ∀ {A B : List α}, A.Nodup → (∀ x ∈ A, x ∈ B) → A.length ≤ B.length
  | [], B, _, _ => Nat.zero_le _
  | a :: A, B, hn, hs => by
    obtain ⟨h1, h2⟩ := List.nodup_cons.mp hn
    have ha := hs a (List.mem_cons_self)
    have ih := len_le (A := A) (B := B.erase a) h2 fun x hx => by
      have hx2 := hs x (List.mem_cons_of_mem _ hx)
      have ne : x ≠ a := fun e => h1 (e ▸ hx)
      exact (List.mem_erase_of_ne ne).mpr hx2
    have := nodup_erase_len ha
    simp only [List.length_cons]
    omega
theorem len_eq {α : Type} [DecidableEq α] {A B : List α} (h1 : A.Nodup) (h2 : B.Nodup) (h : ∀ x, x ∈ A ↔ x ∈ B) : A.length = B.length :=
  Nat.le_antisymm (len_le h1 fun x hx => (h x).mp hx) (len_le h2 fun x hx => (h x).mpr hx)
theorem filter_split {α : Type} (p : α → Bool) : ∀ l : List α, (l.filter p).length + (l.filter fun x => !p x).length = l.length
  | [] => rfl
  | a :: l => by
    have ih := filter_split p l
    cases h : p a <;> simp [List.filter_cons, h] <;> omega
theorem nodup_map_on {α β : Type} (f : α → β) : ∀ {l : List α}, l.Nodup → (∀ x ∈ l, ∀ y ∈ l, f x = f y → x = y) → (l.map f).Nodup
  | [], _, _ => List.nodup_nil
  | a :: l, h, hi => by
    obtain ⟨h1, h2⟩ := List.nodup_cons.mp h
    refine List.nodup_cons.mpr ⟨fun q => ?_, nodup_map_on f h2 fun x hx y hy => hi x (List.mem_cons_of_mem _ hx) y (List.mem_cons_of_mem _ hy)⟩
    obtain ⟨b, hb, e⟩ := List.mem_map.mp q
    have := hi b (List.mem_cons_of_mem _ hb) a List.mem_cons_self e
    subst this
    exact h1 hb
theorem nodup_of_map {α β : Type} (f : α → β) {l : List α} (h : (l.map f).Nodup) : l.Nodup := by
  have := List.pairwise_map.mp h
  exact this.imp fun hne e => hne (by rw [e])

section
variable {Lv : Nat → List Nat} {en : Nat → Int} {n : Nat}
/-- how many are left -/
def left (Lv : Nat → List Nat) (en : Nat → Int) (n : Nat) : Nat := n - (gr Lv en n).length
theorem gr_len (n : Nat) : (gr Lv en n).length ≤ n := by
  have := len_le (gr_ndk (Lv := Lv) (en := en) n) (B := List.range n) fun x hx => by
    obtain ⟨p, hp, rfl⟩ := List.mem_map.mp hx
    exact List.mem_range.mpr (gr_keys n p hp)
  simpa using this
/-- any handing of the living: pairs, no taker twice, no giver twice -/
structure Hands (Lv : Nat → List Nat) (n : Nat) (P : List (Nat × Nat)) : Prop where
  ndk : (P.map (·.1)).Nodup
  ndv : (P.map (·.2)).Nodup
  ok : ∀ p ∈ P, p.1 < n ∧ p.2 ∈ Lv p.1
theorem gr_hands (n : Nat) : Hands Lv n (gr Lv en n) := ⟨gr_ndk n, gr_ndv n, fun p hp => ⟨gr_keys n p hp, (gr_pair (n := n) (t := p.1) (g := p.2) hp).1⟩⟩
open Classical in
/-- the greatest -/
theorem best (C : Conv Lv en n) {P : List (Nat × Nat)} (h : Hands Lv n P) : P.length ≤ (gr Lv en n).length := by
  let c : Nat → Bool := fun t => decide (Full Lv en n t)
  have cI : ∀ t, c t = true ↔ Full Lv en n t := fun t => decide_eq_true_iff
  -- P's pairs within and without
  have s1 := filter_split (fun p : Nat × Nat => c p.1) P
  have s2 := filter_split (fun p : Nat × Nat => c p.1) (gr Lv en n)
  have s3 := filter_split c (List.range n)
  -- within: their givers are givers of the greedy pairs within
  have w1 : (P.filter fun p => c p.1).length ≤ ((gr Lv en n).filter fun p => c p.1).length := by
    have a : ((P.filter fun p => c p.1).map (·.2)).Nodup := h.ndv.sublist (List.filter_sublist.map _)
    have b := len_le a (B := ((gr Lv en n).filter fun p => c p.1).map (·.2)) fun g hg => by
      obtain ⟨p, hp, rfl⟩ := List.mem_map.mp hg
      obtain ⟨hp1, hp2⟩ := List.mem_filter.mp hp
      obtain ⟨u, hu, hf⟩ := full_next C ((cI _).mp hp2) (h.ok p hp1).2
      exact List.mem_map.mpr ⟨(u, p.2), List.mem_filter.mpr ⟨hu, (cI _).mpr hf⟩, rfl⟩
    simpa using b
  -- without: every taker has a greedy pair
  have w2 : (P.filter fun p => !c p.1).length ≤ ((List.range n).filter fun t => !c t).length := by
    have a : ((P.filter fun p => !c p.1).map (·.1)).Nodup := h.ndk.sublist (List.filter_sublist.map _)
    have b := len_le a (B := (List.range n).filter fun t => !c t) fun t ht => by
      obtain ⟨p, hp, rfl⟩ := List.mem_map.mp ht
      obtain ⟨hp1, hp2⟩ := List.mem_filter.mp hp
      exact List.mem_filter.mpr ⟨List.mem_range.mpr (h.ok p hp1).1, hp2⟩
    simpa using b
  have w3 : ((List.range n).filter fun t => !c t).length ≤ ((gr Lv en n).filter fun p => !c p.1).length := by
    have a : ((List.range n).filter fun t => !c t).Nodup := List.nodup_range.sublist List.filter_sublist
    have b := len_le a (B := ((gr Lv en n).filter fun p => !c p.1).map (·.1)) fun t ht => by
      obtain ⟨h1, h2⟩ := List.mem_filter.mp ht
      by_cases q : t ∈ (gr Lv en n).map (·.1)
      · obtain ⟨p, hp, rfl⟩ := List.mem_map.mp q
        exact List.mem_map.mpr ⟨p, List.mem_filter.mpr ⟨hp, h2⟩, rfl⟩
      · have := (cI t).mpr (full_left (List.mem_range.mp h1) q)
        rw [this] at h2
        cases h2
    simpa using b
  omega
/-- fewer living, no fewer left -/
theorem left_mono {Lv' : Nat → List Nat} {en' : Nat → Int} (C : Conv Lv' en' n) (h : ∀ t g, t < n → g ∈ Lv t → g ∈ Lv' t) : left Lv' en' n ≤ left Lv en n := by
  have a : Hands Lv' n (gr Lv en n) := ⟨gr_ndk n, gr_ndv n, fun p hp => ⟨gr_keys n p hp, h _ _ (gr_keys n p hp) (gr_pair (n := n) (t := p.1) (g := p.2) hp).1⟩⟩
  have := best C a
  unfold left
  omega
theorem left_congr {Lv' : Nat → List Nat} {en' : Nat → Int} (h : ∀ t, t < n → Lv t = Lv' t) (he : ∀ g, en g = en' g) : left Lv en n = left Lv' en' n := by
  unfold left
  rw [gr_congr n h he]

/-- what the closure of those that are left must be -/
structure Crowd (Lv : Nat → List Nat) (en : Nat → Int) (n : Nat) (S : List Nat) : Prop where
  nd : S.Nodup
  lt : ∀ t ∈ S, t < n
  lf : ∀ t, t < n → t ∉ (gr Lv en n).map (·.1) → t ∈ S
  cl : ∀ t ∈ S, ∀ g ∈ Lv t, ∀ u, (u, g) ∈ gr Lv en n → u ∈ S
  of : ∀ P : Nat → Prop, (∀ t, t < n → t ∉ (gr Lv en n).map (·.1) → P t) → (∀ t g u, P t → g ∈ Lv t → (u, g) ∈ gr Lv en n → P u) → ∀ t ∈ S, P t
theorem crowd_tells (C : Conv Lv en n) {S heads : List Nat} (h : Crowd Lv en n S) (hd : heads.Nodup) (hm : ∀ g, g ∈ heads ↔ ∃ t ∈ S, g ∈ Lv t) : S.length = heads.length + left Lv en n := by
  have full : ∀ t ∈ S, Full Lv en n t := h.of _ (fun t h1 h2 => full_left h1 h2) fun t g u hf hg hu => by
    obtain ⟨v, hv, hfv⟩ := full_next C hf hg
    rw [gr_inj hu hv]
    exact hfv
  -- heads are the givers of the pairs in S
  have e1 : heads.length = (((gr Lv en n).filter fun p => S.contains p.1).map (·.2)).length := by
    refine len_eq hd ((gr_ndv n).sublist (List.filter_sublist.map _)) fun g => ?_
    rw [hm]
    constructor
    · rintro ⟨t, ht, hg⟩
      obtain ⟨u, hu, _⟩ := full_next C (full t ht) hg
      exact List.mem_map.mpr ⟨(u, g), List.mem_filter.mpr ⟨hu, by simpa using h.cl t ht g hg u hu⟩, rfl⟩
    · intro hg
      obtain ⟨p, hp, rfl⟩ := List.mem_map.mp hg
      obtain ⟨h1, h2⟩ := List.mem_filter.mp hp
      exact ⟨p.1, by simpa using h2, (gr_pair (n := n) (t := p.1) (g := p.2) h1).1⟩
  -- the takers in S: with a pair, and left
  have e2 := filter_split (fun t => ((gr Lv en n).map (·.1)).contains t) S
  have e3 : (S.filter fun t => ((gr Lv en n).map (·.1)).contains t).length = (((gr Lv en n).filter fun p => S.contains p.1).map (·.1)).length := by
    refine len_eq (h.nd.sublist List.filter_sublist) ((gr_ndk n).sublist (List.filter_sublist.map _)) fun t => ?_
    rw [List.mem_filter]
    constructor
    · rintro ⟨h1, h2⟩
      obtain ⟨p, hp, rfl⟩ := List.mem_map.mp (by simpa using h2 : t ∈ (gr Lv en n).map (·.1))
      exact List.mem_map.mpr ⟨p, List.mem_filter.mpr ⟨hp, by simpa using h1⟩, rfl⟩
    · intro ht
      obtain ⟨p, hp, rfl⟩ := List.mem_map.mp ht
      obtain ⟨h1, h2⟩ := List.mem_filter.mp hp
      exact ⟨by simpa using h2, List.contains_iff_mem.mpr (List.mem_map.mpr ⟨p, h1, rfl⟩)⟩
  have e4 : (S.filter fun t => !((gr Lv en n).map (·.1)).contains t).length = ((List.range n).filter fun t => !((gr Lv en n).map (·.1)).contains t).length := by
    refine len_eq (h.nd.sublist List.filter_sublist) (List.nodup_range.sublist List.filter_sublist) fun t => ?_
    rw [List.mem_filter, List.mem_filter, List.mem_range]
    constructor
    · rintro ⟨h1, h2⟩
      exact ⟨h.lt t h1, h2⟩
    · rintro ⟨h1, h2⟩
      exact ⟨h.lf t h1 (by simpa using h2), h2⟩
  have e5 := filter_split (fun t => ((gr Lv en n).map (·.1)).contains t) (List.range n)
  have e6 : ((List.range n).filter fun t => ((gr Lv en n).map (·.1)).contains t).length = ((gr Lv en n).map (·.1)).length := by
    refine len_eq (List.nodup_range.sublist List.filter_sublist) (gr_ndk n) fun t => ?_
    rw [List.mem_filter, List.mem_range]
    constructor
    · rintro ⟨_, h2⟩
      simpa using h2
    · intro ht
      refine ⟨?_, by simpa using ht⟩
      obtain ⟨p, hp, rfl⟩ := List.mem_map.mp ht
      exact gr_keys n p hp
  simp only [List.length_map, List.length_range] at *
  unfold left
  omega
end
end M
/-! K75M2 -/
set_option linter.all false
set_option maxHeartbeats 1000000
/-! Plain law, part 2: loans. -/
namespace M
abbrev Ln := Int × Int
def bg (ls : List Ln) (i : Nat) : Int := (ls.getD i (0, 0)).1
def ed (ls : List Ln) (i : Nat) : Int := (ls.getD i (0, 0)).2
structure Valid (ls : List Ln) : Prop where
  pos : ∀ l ∈ ls, 0 ≤ l.1 ∧ l.1 < l.2
  asc : ls.Pairwise fun a b => a.1 ≤ b.1
abbrev Fr := Option Int × List Int
def can (ls : List Ln) (keep : Option Int) (g t : Nat) : Bool := decide (0 ≤ bg ls t - ed ls g) && (match keep with
  | none => true
  | some k => decide (bg ls t - ed ls g ≤ k))
def shutB (ls : List Ln) (shut : Option Int) (g t : Nat) : Bool := match shut with
  | none => false
  | some s => decide (bg ls t - ed ls g ≥ s)
def dd (ls : List Ln) (far : Fr) (g t : Nat) : Bool := shutB ls far.1 g t || far.2.any fun x => decide (bg ls g < x) && decide (x ≤ bg ls t)
def givers (ls : List Ln) (keep : Option Int) (t : Nat) : List Nat := (List.range ls.length).filter fun g => can ls keep g t
def living (ls : List Ln) (keep : Option Int) (far : Fr) (t : Nat) : List Nat := (givers ls keep t).filter fun g => !dd ls far g t
def U (ls : List Ln) (keep : Option Int) (far : Fr) : Nat := left (living ls keep far) (ed ls) ls.length
abbrev F (ls : List Ln) (keep : Option Int) (far : Fr) : List (Nat × Nat) := gr (living ls keep far) (ed ls) ls.length
def bare : Fr := (none, [])
section
variable {ls : List Ln} {keep : Option Int} {far : Fr}
theorem getD_lt {i : Nat} (h : i < ls.length) : ls.getD i (0, 0) = ls[i] := by simp [List.getD, h]
theorem bg_ed (V : Valid ls) {i : Nat} (h : i < ls.length) : 0 ≤ bg ls i ∧ bg ls i < ed ls i := by
  unfold bg ed
  rw [getD_lt h]
  exact V.pos _ (List.getElem_mem h)
theorem bg_mono (V : Valid ls) {i j : Nat} (h : i ≤ j) (hj : j < ls.length) : bg ls i ≤ bg ls j := by
  by_cases e : i = j
  · rw [e]; exact Int.le_refl _
  · unfold bg
    rw [getD_lt hj, getD_lt (by omega)]
    exact (List.pairwise_iff_getElem.mp V.asc) i j (by omega) hj (by omega)
theorem can_iff {g t : Nat} : can ls keep g t = true ↔ ed ls g ≤ bg ls t ∧ ∀ k, keep = some k → bg ls t - ed ls g ≤ k := by
  unfold can
  cases keep with
  | none => simp <;> omega
  | some k => simp <;> omega
theorem dd_iff {g t : Nat} : dd ls far g t = false ↔ (∀ s, far.1 = some s → bg ls t - ed ls g < s) ∧ ∀ x ∈ far.2, ¬ (bg ls g < x ∧ x ≤ bg ls t) := by
  unfold dd shutB
  obtain ⟨sh, an⟩ := far
  cases sh with
  | none => simp
  | some s => simp
theorem mem_givers {g t : Nat} : g ∈ givers ls keep t ↔ g < ls.length ∧ ed ls g ≤ bg ls t ∧ ∀ k, keep = some k → bg ls t - ed ls g ≤ k := by
  unfold givers
  rw [List.mem_filter, List.mem_range, can_iff]
theorem mem_living {g t : Nat} : g ∈ living ls keep far t ↔ g < ls.length ∧ ed ls g ≤ bg ls t ∧ (∀ k, keep = some k → bg ls t - ed ls g ≤ k) ∧ (∀ s, far.1 = some s → bg ls t - ed ls g < s) ∧ ∀ x ∈ far.2, ¬ (bg ls g < x ∧ x ≤ bg ls t) := by
  unfold living
  rw [List.mem_filter, mem_givers, Bool.not_eq_true', dd_iff]
  constructor
  · rintro ⟨⟨a, b, c⟩, d, e⟩; exact ⟨a, b, c, d, e⟩
  · rintro ⟨a, b, c, d, e⟩; exact ⟨⟨a, b, c⟩, d, e⟩
theorem conv (V : Valid ls) : Conv (living ls keep far) (ed ls) ls.length where
  mid := by
    intro t w u g hu h1 h2 h3 h4
    rw [mem_living] at h1 h2 ⊢
    obtain ⟨a, b, c, d, e⟩ := h1
    obtain ⟨a', b', c', d', e'⟩ := h2
    have m1 := bg_mono V h3 (by omega)
    have m2 := bg_mono V h4 hu
    refine ⟨a, by omega, fun k hk => ?_, fun s hs => ?_, fun x hx => ?_⟩
    · have := c' k hk; omega
    · have := d' s hs; omega
    · have := e' x hx; omega
  late := by
    intro t u g h hu h1 h2 hl h3 h4
    rw [mem_living] at h1 h2 h4 ⊢
    obtain ⟨a, b, c, d, e⟩ := h1
    obtain ⟨a', b', c', d', e'⟩ := h2
    obtain ⟨a4, b4, c4, d4, e4⟩ := h4
    have m1 := bg_mono V h3 hu
    have v := bg_ed V a
    unfold lexle at hl
    refine ⟨a', by omega, fun k hk => ?_, fun s hs => ?_, fun x hx => ?_⟩
    · have := c4 k hk; omega
    · have := d4 s hs; omega
    · have z1 := e' x hx
      have z2 := e4 x hx
      omega
  soon := by
    intro t w g h hw h1 h2 h3 h4 hl
    rw [mem_living] at h1 h3 h4 ⊢
    obtain ⟨a, b, c, d, e⟩ := h1
    obtain ⟨a4, b4, c4, d4, e4⟩ := h4
    have m1 := bg_mono V h2 hw
    unfold lexle at hl
    refine ⟨a4, by omega, fun k hk => ?_, fun s hs => ?_, fun x hx => ?_⟩
    · have := c4 k hk; omega
    · have := d4 s hs; omega
    · have := e4 x hx; omega

/-! ### any handing -/
structure HandOk (ls : List Ln) (keep : Option Int) (hd : List (Option Nat)) : Prop where
  len : hd.length = ls.length
  ok : ∀ (t g : Nat), hd[t]? = some (some g) → g ∈ givers ls keep t
  inj : ∀ (t u g : Nat), hd[t]? = some (some g) → hd[u]? = some (some g) → t = u
/-- who is lifeless -/
def lifl (ls : List Ln) (far : Fr) (hd : List (Option Nat)) : List Nat := (List.range hd.length).filter fun t => match hd.getD t none with
  | none => true
  | some g => dd ls far g t
theorem lifl_ge (V : Valid ls) {hd : List (Option Nat)} (h : HandOk ls keep hd) : U ls keep far ≤ (lifl ls far hd).length := by
  -- the pairs that are alive
  let P : List (Nat × Nat) := (List.range hd.length).filterMap fun t => match hd.getD t none with
    | none => none
    | some g => if dd ls far g t then none else some (t, g)
  have memP : ∀ p, p ∈ P ↔ p.1 < hd.length ∧ hd.getD p.1 none = some p.2 ∧ dd ls far p.2 p.1 = false := by
    rintro ⟨t, g⟩
    show (t, g) ∈ List.filterMap _ _ ↔ _
    rw [List.mem_filterMap]
    constructor
    · rintro ⟨u, hu, e⟩
      rw [List.mem_range] at hu
      cases q : hd.getD u none with
      | none => rw [q] at e; cases e
      | some k =>
        rw [q] at e
        simp only at e
        split at e
        · cases e
        · rename_i hn
          cases e
          exact ⟨hu, q, by simpa using hn⟩
    · rintro ⟨h1, h2, h3⟩
      refine ⟨t, List.mem_range.mpr h1, ?_⟩
      simp only at h2 h3
      rw [h2]
      simp [h3]
  have key : ∀ (l : List Nat), (∀ t ∈ l, t < hd.length) → l.Nodup → ((l.filterMap fun t => match hd.getD t none with
    | none => none
    | some g => if dd ls far g t then none else some (t, g)).map (·.1)) = l.filter (fun t => !(match hd.getD t none with
      | none => true
      | some g => dd ls far g t)) := by
    intro l
    induction l with
    | nil => intro _ _; rfl
    | cons a l ih =>
      intro h1 h2
      have ih' := ih (fun t ht => h1 t (List.mem_cons_of_mem _ ht)) (List.nodup_cons.mp h2).2
      rw [List.filterMap_cons, List.filter_cons]
      cases q : hd.getD a none with
      | none => simpa using ih'
      | some g =>
        cases r : dd ls far g a with
        | true => simpa [r] using ih'
        | false => simpa [r] using ih'
  have e1 : P.map (·.1) = (List.range hd.length).filter (fun t => !(match hd.getD t none with
      | none => true
      | some g => dd ls far g t)) := key _ (fun t ht => List.mem_range.mp ht) List.nodup_range
  have gd : ∀ {t g}, hd.getD t none = some g → t < hd.length → hd[t]? = some (some g) := by
    intro t g e hl
    rw [List.getD_eq_getElem?_getD] at e
    rw [List.getElem?_eq_getElem hl] at e ⊢
    simpa using e
  have ndP : (P.map (·.1)).Nodup := by
    rw [e1]
    exact List.nodup_range.sublist List.filter_sublist
  have hP : Hands (living ls keep far) ls.length P := by
    refine ⟨ndP, ?_, fun p hp => ?_⟩
    · refine nodup_map_on _ (nodup_of_map _ ndP) fun p hp q hq e => ?_
      obtain ⟨p1, p2, _⟩ := (memP p).mp hp
      obtain ⟨q1, q2, _⟩ := (memP q).mp hq
      have e2 : p.2 = q.2 := e
      have := h.inj p.1 q.1 p.2 (gd p2 p1) (by rw [e2]; exact gd q2 q1)
      exact Prod.ext this e2
    · obtain ⟨p1, p2, p3⟩ := (memP p).mp hp
      refine ⟨by rw [← h.len]; exact p1, ?_⟩
      unfold living
      exact List.mem_filter.mpr ⟨h.ok _ _ (gd p2 p1), by rw [p3]; rfl⟩
  have b := best (conv V) hP
  have s := filter_split (fun t => match hd.getD t none with
    | none => true
    | some g => dd ls far g t) (List.range hd.length)
  have e3 : P.length = (P.map (·.1)).length := by simp
  rw [e1] at e3
  unfold lifl U left
  have hl := h.len
  simp only [List.length_range] at s
  omega
/-- the best one, as a row -/
def bestH (ls : List Ln) (keep : Option Int) (far : Fr) : List (Option Nat) := (List.range ls.length).map fun t => ((F ls keep far).find? fun p => p.1 == t).map (·.2)
theorem find_gr {t g : Nat} : ((F ls keep far).find? fun p => p.1 == t).map (·.2) = some g ↔ (t, g) ∈ F ls keep far := by
  constructor
  · intro h
    obtain ⟨p, hp, e⟩ := Option.map_eq_some_iff.mp h
    have h1 := List.mem_of_find?_eq_some hp
    have h2 := List.find?_some hp
    have h3 : p.1 = t := by simpa using h2
    subst h3 e
    exact h1
  · intro h
    cases q : (F ls keep far).find? fun p => p.1 == t with
    | none =>
      have := List.find?_eq_none.mp q _ h
      simp at this
    | some p =>
      have h1 := List.mem_of_find?_eq_some q
      have h2 := List.find?_some q
      have h3 : p.1 = t := by simpa using h2
      obtain ⟨a, b⟩ := p
      have h3 : a = t := h3
      subst h3
      rw [gr_fun h1 h]
      rfl
theorem bestH_lifl : (lifl ls far (bestH ls keep far)).length = U ls keep far := by
  have hl : (bestH ls keep far).length = ls.length := by simp [bestH]
  have gt : ∀ t, t < ls.length → (bestH ls keep far).getD t none = ((F ls keep far).find? fun p => p.1 == t).map (·.2) := fun t ht => by
    unfold bestH
    rw [List.getD_eq_getElem?_getD, List.getElem?_map, List.getElem?_range ht]
    rfl
  have e : lifl ls far (bestH ls keep far) = (List.range ls.length).filter fun t => !((F ls keep far).map (·.1)).contains t := by
    unfold lifl
    rw [hl]
    apply List.filter_congr
    intro t ht
    rw [List.mem_range] at ht
    rw [gt t ht]
    cases q : ((F ls keep far).find? fun p => p.1 == t).map (·.2) with
    | none =>
      have : t ∉ (F ls keep far).map (·.1) := fun hm => by
        obtain ⟨p, hp, rfl⟩ := List.mem_map.mp hm
        have : ((F ls keep far).find? fun r => r.1 == p.1).map (·.2) = some p.2 := find_gr.mpr hp
        rw [q] at this
        cases this
      simp only
      rw [eq_comm, Bool.not_eq_true']
      exact Bool.eq_false_iff.mpr fun z => this (by simpa using z)
    | some g =>
      have hp := find_gr.mp q
      have h1 : t ∈ (F ls keep far).map (·.1) := List.mem_map.mpr ⟨_, hp, rfl⟩
      have h2 := (gr_pair hp).1
      unfold living at h2
      have h3 := (List.mem_filter.mp h2).2
      simp only
      rw [List.contains_iff_mem.mpr h1]
      simpa using h3
  rw [e]
  have s := filter_split (fun t => ((F ls keep far).map (·.1)).contains t) (List.range ls.length)
  have e6 : ((List.range ls.length).filter fun t => ((F ls keep far).map (·.1)).contains t).length = ((F ls keep far).map (·.1)).length := by
    refine len_eq (List.nodup_range.sublist List.filter_sublist) (gr_ndk _) fun t => ?_
    rw [List.mem_filter, List.mem_range]
    constructor
    · rintro ⟨_, h2⟩
      simpa using h2
    · intro ht
      refine ⟨?_, by simpa using ht⟩
      obtain ⟨p, hp, rfl⟩ := List.mem_map.mp ht
      exact gr_keys _ p hp
  simp only [List.length_map, List.length_range] at *
  unfold U left
  show _ = ls.length - (F ls keep far).length
  omega
end
end M
/-! K75M3 -/
set_option linter.all false
set_option maxHeartbeats 1000000
/-! Plain law, part 3: KEEPs, far ends, pieces, counts. -/
namespace M
section
variable {ls : List Ln} {keep keep' : Option Int} {far far' : Fr}
theorem living_one (t : Nat) : living ls keep far t = (List.range ls.length).filter fun g => can ls keep g t && !dd ls far g t := by
  unfold living givers
  rw [List.filter_filter]
  apply List.filter_congr
  intro g _
  cases can ls keep g t <;> cases dd ls far g t <;> rfl
theorem living_ext {t : Nat} (h : ∀ g, g ∈ living ls keep far t ↔ g ∈ living ls keep' far' t) : living ls keep far t = living ls keep' far' t := by
  rw [living_one, living_one]
  apply List.filter_congr
  intro g hg
  have := h g
  rw [living_one, living_one, List.mem_filter, List.mem_filter] at this
  cases a : (can ls keep g t && !dd ls far g t) <;> cases b : (can ls keep' g t && !dd ls far' g t) <;> simp_all
theorem U_ext (h : ∀ t g, t < ls.length → (g ∈ living ls keep far t ↔ g ∈ living ls keep' far' t)) : U ls keep far = U ls keep' far' :=
  left_congr (fun t ht => living_ext fun g => h t g ht) fun _ => rfl
theorem U_mono (V : Valid ls) (h : ∀ t g, t < ls.length → g ∈ living ls keep far t → g ∈ living ls keep' far' t) : U ls keep' far' ≤ U ls keep far :=
  left_mono (conv V) h
/-- what the far end shuts is as a lesser KEEP -/
theorem U_shut {k s : Int} {an : List Int} : U ls (some k) (some s, an) = U ls (some (min k (s - 1))) (none, an) := U_ext fun t g _ => by
  rw [mem_living, mem_living]
  constructor
  · rintro ⟨a, b, c, d, e⟩
    refine ⟨a, b, fun k' hk => ?_, (fun s' hs => by cases hs), e⟩
    cases hk
    have := c k rfl
    have := d s rfl
    omega
  · rintro ⟨a, b, c, d, e⟩
    have := c _ rfl
    refine ⟨a, b, fun k' hk => ?_, fun s' hs => ?_, e⟩
    · cases hk; omega
    · cases hs; omega
theorem U_shut_le (V : Valid ls) {k s : Int} {an : List Int} : U ls (some k) (none, an) ≤ U ls (some k) (some s, an) := U_mono V fun t g _ h => by
  rw [mem_living] at h ⊢
  obtain ⟨a, b, c, d, e⟩ := h
  exact ⟨a, b, c, (fun s' hs => by cases hs), e⟩
theorem U_keep (V : Valid ls) {k k' : Int} (h : k ≤ k') : U ls (some k') far ≤ U ls (some k) far := U_mono V fun t g _ h => by
  rw [mem_living] at h ⊢
  obtain ⟨a, b, c, d, e⟩ := h
  exact ⟨a, b, fun k2 hk => by cases hk; have := c k rfl; omega, d, e⟩
/-- a KEEP beyond all gaps -/
theorem U_far {k k' : Int} (h : ∀ g t, g < ls.length → t < ls.length → 0 ≤ bg ls t - ed ls g → bg ls t - ed ls g ≤ k ∧ bg ls t - ed ls g ≤ k') : U ls (some k) far = U ls (some k') far := U_ext fun t g ht => by
  rw [mem_living, mem_living]
  constructor
  · rintro ⟨a, b, c, d, e⟩
    exact ⟨a, b, fun k2 hk => by cases hk; exact (h g t a ht (by omega)).2, d, e⟩
  · rintro ⟨a, b, c, d, e⟩
    exact ⟨a, b, fun k2 hk => by cases hk; exact (h g t a ht (by omega)).1, d, e⟩
end

/-! ### two parts with a beat begun anew between -/
theorem least_cons {en : Nat → Int} (a : Nat) (r : List Nat) : least en (a :: r) = (match least en r with | none => some a | some h => if lexle en a h then some a else some h) := rfl
theorem least_congr {en en' : Nat → Int} : ∀ {l : List Nat}, (∀ g ∈ l, en g = en' g) → least en l = least en' l
  | [], _ => rfl
  | a :: r, h => by
    have ih := least_congr (l := r) fun g hg => h g (List.mem_cons_of_mem _ hg)
    rw [least_cons, least_cons, ih]
    cases e : least en' r with
    | none => rfl
    | some k =>
      have hk := h k (List.mem_cons_of_mem _ (least_some e).mem)
      have ha := h a List.mem_cons_self
      have : lexle en a k ↔ lexle en' a k := by unfold lexle; rw [hk, ha]
      simp only [this]
theorem least_map {en en' : Nat → Int} {c : Nat} : ∀ {l : List Nat}, (∀ g ∈ l, en (g + c) = en' g) → least en (l.map (· + c)) = (least en' l).map (· + c)
  | [], _ => rfl
  | a :: r, h => by
    have ih := least_map (l := r) fun g hg => h g (List.mem_cons_of_mem _ hg)
    rw [List.map_cons, least_cons, least_cons, ih]
    cases e : least en' r with
    | none => rfl
    | some k =>
      have hk := h k (List.mem_cons_of_mem _ (least_some e).mem)
      have ha := h a List.mem_cons_self
      have : lexle en (a + c) (k + c) ↔ lexle en' a k := by unfold lexle; rw [hk, ha]; omega
      simp only [Option.map_some, this]
      split <;> rfl
theorem gr_congr2 {Lv Lv' : Nat → List Nat} {en en' : Nat → Int} : ∀ n : Nat, (∀ t, t < n → Lv t = Lv' t) → (∀ t, t < n → ∀ g ∈ Lv t, en g = en' g) → gr Lv en n = gr Lv' en' n
  | 0, _, _ => rfl
  | t + 1, h, he => by
    have ih := gr_congr2 t (fun u hu => h u (by omega)) (fun u hu => he u (by omega))
    have e : least en (free Lv (gr Lv en t) t) = least en' (free Lv' (gr Lv' en' t) t) := by
      rw [ih]
      have e2 : free Lv (gr Lv' en' t) t = free Lv' (gr Lv' en' t) t := by unfold free; rw [h t (by omega)]
      rw [e2]
      refine least_congr fun g hg => he t (by omega) g ?_
      rw [h t (by omega)]
      exact (mem_free.mp hg).1
    unfold gr
    rw [e, ih]
theorem gr_shift {Lv Lv' : Nat → List Nat} {en en' : Nat → Int} {a : Nat} (hL : ∀ i, Lv (i + a) = (Lv' i).map (· + a)) (he : ∀ g, en (g + a) = en' g) (hv : ∀ p ∈ gr Lv en a, p.2 < a) :
    ∀ i, gr Lv en (i + a) = gr Lv en a ++ (gr Lv' en' i).map fun p => (p.1 + a, p.2 + a)
  | 0 => by simp [gr]
  | i + 1 => by
    have ih := gr_shift hL he hv i
    have ef : free Lv (gr Lv en (i + a)) (i + a) = (free Lv' (gr Lv' en' i) i).map (· + a) := by
      unfold free
      rw [hL i, List.filter_map]
      congr 1
      apply List.filter_congr
      intro g _
      show (!((gr Lv en (i + a)).map (·.2)).contains (g + a)) = !((gr Lv' en' i).map (·.2)).contains g
      congr 1
      rw [Bool.eq_iff_iff, List.contains_iff_mem, List.contains_iff_mem, ih, List.map_append, List.mem_append]
      constructor
      · rintro (h | h)
        · obtain ⟨p, hp, e⟩ := List.mem_map.mp h
          have := hv p hp
          omega
        · obtain ⟨p, hp, e⟩ := List.mem_map.mp h
          obtain ⟨q, hq, rfl⟩ := List.mem_map.mp hp
          have e : q.2 + a = g + a := e
          exact List.mem_map.mpr ⟨q, hq, by omega⟩
      · intro h
        obtain ⟨q, hq, rfl⟩ := List.mem_map.mp h
        exact .inr (List.mem_map.mpr ⟨_, List.mem_map.mpr ⟨q, hq, rfl⟩, rfl⟩)
    have el := least_map (en := en) (en' := en') (c := a) (l := free Lv' (gr Lv' en' i) i) fun g _ => he g
    have e1 : i + 1 + a = (i + a) + 1 := by omega
    rw [e1]
    show (match least en (free Lv (gr Lv en (i + a)) (i + a)) with | none => gr Lv en (i + a) | some g => gr Lv en (i + a) ++ [(i + a, g)]) = _
    rw [ef, el]
    conv => rhs; rw [gr]
    cases q : least en' (free Lv' (gr Lv' en' i) i) with
    | none => exact ih
    | some g =>
      show gr Lv en (i + a) ++ [(i + a, g + a)] = _
      rw [ih, List.map_append, List.append_assoc]
      rfl
section
variable {A B : List Ln} {keep : Option Int} {far : Fr}
theorem bg_l {g : Nat} (h : g < A.length) : bg (A ++ B) g = bg A g := by unfold bg; rw [List.getD_eq_getElem?_getD, List.getD_eq_getElem?_getD, List.getElem?_append_left h]
theorem ed_l {g : Nat} (h : g < A.length) : ed (A ++ B) g = ed A g := by unfold ed; rw [List.getD_eq_getElem?_getD, List.getD_eq_getElem?_getD, List.getElem?_append_left h]
theorem bg_r (g : Nat) : bg (A ++ B) (g + A.length) = bg B g := by unfold bg; rw [List.getD_eq_getElem?_getD, List.getD_eq_getElem?_getD, List.getElem?_append_right (by omega), Nat.add_sub_cancel]
theorem ed_r (g : Nat) : ed (A ++ B) (g + A.length) = ed B g := by unfold ed; rw [List.getD_eq_getElem?_getD, List.getD_eq_getElem?_getD, List.getElem?_append_right (by omega), Nat.add_sub_cancel]
theorem can_l {g t : Nat} (hg : g < A.length) (ht : t < A.length) : can (A ++ B) keep g t = can A keep g t := by unfold can; rw [bg_l ht, ed_l hg]
theorem dd_l {g t : Nat} (hg : g < A.length) (ht : t < A.length) : dd (A ++ B) far g t = dd A far g t := by unfold dd shutB; rw [bg_l ht, ed_l hg, bg_l hg]
theorem can_r {g t : Nat} : can (A ++ B) keep (g + A.length) (t + A.length) = can B keep g t := by unfold can; rw [bg_r, ed_r]
theorem dd_r {g t : Nat} : dd (A ++ B) far (g + A.length) (t + A.length) = dd B far g t := by unfold dd shutB; rw [bg_r, ed_r, bg_r]
theorem range_add (a b : Nat) : List.range (a + b) = List.range a ++ (List.range b).map (· + a) := by
  rw [List.range_add]
  congr 1
  apply List.map_congr_left
  intro x _
  exact Nat.add_comm _ _
/-- the loans of B can follow none of A, and none of B is ahead of one of A -/
theorem U_split {x : Int} (hx : x ∈ far.2) (hA : ∀ a ∈ A, a.1 < x) (hB : ∀ b ∈ B, x ≤ b.1 ∧ b.1 < b.2) : U (A ++ B) keep far = U A keep far + U B keep far := by
  have bA : ∀ g, g < A.length → bg A g < x := fun g h => by unfold bg; rw [getD_lt h]; exact hA _ (List.getElem_mem h)
  have bB : ∀ g, g < B.length → x ≤ bg B g ∧ bg B g < ed B g := fun g h => by unfold bg ed; rw [getD_lt h]; exact hB _ (List.getElem_mem h)
  have L1 : ∀ t, t < A.length → living (A ++ B) keep far t = living A keep far t := fun t ht => by
    rw [living_one, living_one, List.length_append, range_add, List.filter_append]
    have e1 : ((List.range B.length).map (· + A.length)).filter (fun g => can (A ++ B) keep g t && !dd (A ++ B) far g t) = [] := by
      apply List.filter_eq_nil_iff.mpr
      intro g hg
      obtain ⟨h, hh, rfl⟩ := List.mem_map.mp hg
      rw [List.mem_range] at hh
      have z1 := bA t ht
      have z2 := bB h hh
      have : can (A ++ B) keep (h + A.length) t = false := by
        unfold can
        rw [bg_l ht, ed_r]
        rw [decide_eq_false (by omega)]
        rfl
      rw [this]
      simp
    rw [e1, List.append_nil]
    apply List.filter_congr
    intro g hg
    rw [List.mem_range] at hg
    rw [can_l hg ht, dd_l hg ht]
  have L2 : ∀ i, i < B.length → living (A ++ B) keep far (i + A.length) = (living B keep far i).map (· + A.length) := fun i hi => by
    rw [living_one, living_one, List.length_append, range_add, List.filter_append, List.filter_map]
    have e1 : (List.range A.length).filter (fun g => can (A ++ B) keep g (i + A.length) && !dd (A ++ B) far g (i + A.length)) = [] := by
      apply List.filter_eq_nil_iff.mpr
      intro g hg
      rw [List.mem_range] at hg
      have : dd (A ++ B) far g (i + A.length) = true := by
        unfold dd
        rw [Bool.or_eq_true]
        refine .inr (List.any_eq_true.mpr ⟨x, hx, ?_⟩)
        rw [bg_l hg, bg_r]
        have := bA g hg
        have := bB i hi
        simp
        omega
      rw [this]
      simp
    rw [e1, List.nil_append]
    congr 1
    apply List.filter_congr
    intro g hg
    show (can (A ++ B) keep (g + A.length) (i + A.length) && !dd (A ++ B) far (g + A.length) (i + A.length)) = _
    rw [can_r, dd_r]
  -- beyond B's takers the lists are cut
  let Lv : Nat → List Nat := fun t => if t < A.length + B.length then living (A ++ B) keep far t else []
  let Lb : Nat → List Nat := fun i => if i < B.length then living B keep far i else []
  have g1 : gr (living (A ++ B) keep far) (ed (A ++ B)) (A ++ B).length = gr Lv (ed (A ++ B)) (A ++ B).length := gr_congr _ (fun t ht => by
    show _ = if t < A.length + B.length then _ else _
    rw [List.length_append] at ht
    rw [if_pos ht]) fun _ => rfl
  have g2 : gr Lv (ed (A ++ B)) A.length = gr (living A keep far) (ed A) A.length := gr_congr2 _ (fun t ht => by
    show (if t < A.length + B.length then _ else _) = _
    rw [if_pos (by omega), L1 t ht]) fun t ht g hg => by
      have hg : g ∈ if t < A.length + B.length then living (A ++ B) keep far t else [] := hg
      rw [if_pos (by omega), L1 t ht] at hg
      exact ed_l (mem_living.mp hg).1
  have g3 : gr (living B keep far) (ed B) B.length = gr Lb (ed B) B.length := gr_congr _ (fun t ht => by
    show _ = if t < B.length then _ else _
    rw [if_pos ht]) fun _ => rfl
  have sh := gr_shift (Lv := Lv) (Lv' := Lb) (en := ed (A ++ B)) (en' := ed B) (a := A.length) (fun i => by
    show (if i + A.length < A.length + B.length then _ else _) = (if i < B.length then _ else _ : List Nat).map (· + A.length)
    by_cases hi : i < B.length
    · rw [if_pos (by omega), if_pos hi]
      exact L2 i hi
    · rw [if_neg (by omega), if_neg hi]
      rfl) (fun g => ed_r g) (fun p hp => by
      rw [g2] at hp
      exact (mem_living.mp (gr_pair (n := A.length) (t := p.1) (g := p.2) hp).1).1) B.length
  have e : (gr (living (A ++ B) keep far) (ed (A ++ B)) (A ++ B).length).length = (gr (living A keep far) (ed A) A.length).length + (gr (living B keep far) (ed B) B.length).length := by
    rw [g1, g3, ← g2]
    rw [show (A ++ B).length = B.length + A.length by rw [List.length_append]; omega, sh, List.length_append, List.length_map]
  have l1 := gr_len (Lv := living A keep far) (en := ed A) A.length
  have l2 := gr_len (Lv := living B keep far) (en := ed B) B.length
  unfold U left
  rw [e, List.length_append]
  omega
end

/-! ### the pieces -/
def pc (ls : List Ln) (lo hi : Int) : List Ln := ls.filter fun l => decide (lo ≤ l.1) && decide (l.1 < hi)
def cut (ls : List Ln) : List Int → List (List Ln)
  | a :: b :: r => pc ls a b :: cut ls (b :: r)
  | _ => []
theorem U_noanew {ls : List Ln} {keep : Option Int} {shut : Option Int} {an : List Int} (h : ∀ x ∈ an, ∀ g t, g < ls.length → t < ls.length → ¬ (bg ls g < x ∧ x ≤ bg ls t)) : U ls keep (shut, []) = U ls keep (shut, an) := U_ext fun t g ht => by
  rw [mem_living, mem_living]
  constructor
  · rintro ⟨a, b, c, d, e⟩
    exact ⟨a, b, c, d, fun x hx => h x hx g t a ht⟩
  · rintro ⟨a, b, c, d, e⟩
    exact ⟨a, b, c, d, fun x hx => by cases hx⟩
theorem split_at {e0 e1 : Int} (he : e0 ≤ e1) : ∀ {ls : List Ln}, ls.Pairwise (fun a b => a.1 ≤ b.1) → ls.filter (fun l => decide (e0 ≤ l.1)) = pc ls e0 e1 ++ ls.filter (fun l => decide (e1 ≤ l.1))
  | [], _ => rfl
  | a :: r, h => by
    obtain ⟨h1, h2⟩ := List.pairwise_cons.mp h
    have ih := split_at he h2
    unfold pc at ih ⊢
    by_cases q : e1 ≤ a.1
    · -- all behind are beyond e1 too
      have all : ∀ l ∈ r, e1 ≤ l.1 := fun l hl => Int.le_trans q (h1 l hl)
      have z1 : (a :: r).filter (fun l => decide (e0 ≤ l.1) && decide (l.1 < e1)) = [] := by
        apply List.filter_eq_nil_iff.mpr
        intro l hl
        have : e1 ≤ l.1 := by
          rcases List.mem_cons.mp hl with rfl | hl
          · exact q
          · exact all l hl
        simp
        omega
      rw [z1, List.nil_append]
      apply List.filter_congr
      intro l hl
      have : e1 ≤ l.1 := by
        rcases List.mem_cons.mp hl with rfl | hl
        · exact q
        · exact all l hl
      rw [decide_eq_true this, decide_eq_true (by omega)]
    · by_cases p : e0 ≤ a.1
      · rw [List.filter_cons_of_pos (by simpa using p), List.filter_cons_of_pos (by simp; omega), List.filter_cons_of_neg (by simpa using q), ih]
        rfl
      · rw [List.filter_cons_of_neg (by simpa using p), List.filter_cons_of_neg (by simp; omega), List.filter_cons_of_neg (by simpa using q), ih]
theorem bg_mem {ls : List Ln} {g : Nat} (h : g < ls.length) : ∃ l ∈ ls, l.1 = bg ls g := ⟨ls[g], List.getElem_mem h, by unfold bg; rw [getD_lt h]⟩
theorem U_cut {ls : List Ln} {keep shut : Option Int} {an : List Int} (V : Valid ls) (top : Int) (ht : ∀ l ∈ ls, l.1 < top) : ∀ (r : List Int) (e0 : Int), (e0 :: r).Pairwise (· < ·) → (∀ x ∈ r, x ∈ an) → (∀ x ∈ an, x ≤ e0 ∨ x ∈ r) →
    ((cut ls (e0 :: r ++ [top])).map fun p => U p keep (shut, [])).sum = U (ls.filter fun l => decide (e0 ≤ l.1)) keep (shut, an)
  | [], e0, _, _, h2 => by
    show U (pc ls e0 top) keep (shut, []) + 0 = _
    have e : pc ls e0 top = ls.filter fun l => decide (e0 ≤ l.1) := by
      unfold pc
      apply List.filter_congr
      intro l hl
      rw [decide_eq_true (ht l hl), Bool.and_true]
    rw [e, Nat.add_zero]
    refine U_noanew fun x hx g t hg ht' => ?_
    obtain ⟨l, hl, e⟩ := bg_mem hg
    have := (List.mem_filter.mp hl).2
    simp at this
    rcases h2 x hx with h | h
    · omega
    · cases h
  | e1 :: r, e0, hp, h1, h2 => by
    obtain ⟨p1, p2⟩ := List.pairwise_cons.mp hp
    obtain ⟨p3, p4⟩ := List.pairwise_cons.mp p2
    have lt01 : e0 < e1 := p1 e1 List.mem_cons_self
    have ih := U_cut (keep := keep) (shut := shut) (an := an) V top ht r e1 p2 (fun x hx => h1 x (List.mem_cons_of_mem _ hx)) (fun x hx => by
      rcases h2 x hx with h | h
      · exact .inl (by omega)
      · rcases List.mem_cons.mp h with rfl | h
        · exact .inl (Int.le_refl _)
        · exact .inr h)
    show U (pc ls e0 e1) keep (shut, []) + ((cut ls (e1 :: r ++ [top])).map fun p => U p keep (shut, [])).sum = _
    rw [ih, split_at (Int.le_of_lt lt01) V.asc]
    rw [U_split (x := e1) (far := (shut, an)) (h1 e1 List.mem_cons_self) (fun a ha => by
      have := (List.mem_filter.mp ha).2
      simp at this
      omega) (fun b hb => by
      obtain ⟨m, d⟩ := List.mem_filter.mp hb
      simp at d
      exact ⟨d, (V.pos b m).2⟩)]
    congr 1
    refine U_noanew fun x hx g t hg ht' => ?_
    obtain ⟨l, hl, e⟩ := bg_mem hg
    obtain ⟨l', hl', e'⟩ := bg_mem ht'
    have z1 := (List.mem_filter.mp hl).2
    have z2 := (List.mem_filter.mp hl').2
    simp at z1 z2
    rcases h2 x hx with h | h
    · omega
    · rcases List.mem_cons.mp h with rfl | h
      · omega
      · have := p3 x h
        omega
theorem U_pieces {ls : List Ln} {keep shut : Option Int} {an : List Int} (V : Valid ls) (top : Int) (ht : ∀ l ∈ ls, l.1 < top) (ha : an.Pairwise (· < ·)) :
    ((cut ls (0 :: (an.filter fun x => decide (0 < x)) ++ [top])).map fun p => U p keep (shut, [])).sum = U ls keep (shut, an) := by
  have h := U_cut (keep := keep) (shut := shut) (an := an) V top ht (an.filter fun x => decide (0 < x)) 0 (List.pairwise_cons.mpr ⟨fun x hx => by simpa using (List.mem_filter.mp hx).2, ha.sublist List.filter_sublist⟩)
    (fun x hx => (List.mem_filter.mp hx).1) (fun x hx => by
      by_cases q : 0 < x
      · exact .inr (List.mem_filter.mpr ⟨hx, by simpa using q⟩)
      · exact .inl (by omega))
  rw [h]
  congr 1
  apply List.filter_eq_self.mpr
  intro l hl
  simpa using (V.pos l hl).1
theorem pc_valid {ls : List Ln} (V : Valid ls) (a b : Int) : Valid (pc ls a b) := ⟨fun l hl => V.pos l (List.mem_filter.mp hl).1, V.asc.sublist List.filter_sublist⟩

/-! ### the greatest count -/
def cnt (ls : List Ln) (x : Int) : Nat := (ls.filter fun l => decide (l.1 ≤ x) && decide (x < l.2)).length
theorem filter_ix {α : Type} (d : α) (p : α → Bool) (l : List α) : (l.filter p).length = ((List.range l.length).filter fun i => p (l.getD i d)).length := by
  have e : l = (List.range l.length).map fun i => l.getD i d := by
    apply List.ext_getElem
    · simp
    · intro i h1 h2
      simp [List.getD, h1]
  conv => lhs; rw [e]
  rw [List.filter_map, List.length_map]
  rfl
theorem cnt_ix (ls : List Ln) (x : Int) : cnt ls x = ((List.range ls.length).filter fun i => decide (bg ls i ≤ x) && decide (x < ed ls i)).length := filter_ix (0, 0) _ _
section
variable {ls : List Ln} {k : Int}
theorem cnt_le (V : Valid ls) (x : Int) : cnt ls x ≤ U ls (some k) bare := by
  rw [cnt_ix]
  let Fp := F ls (some k) bare
  have s1 := filter_split (fun p : Nat × Nat => decide (bg ls p.1 ≤ x)) Fp
  have s2 := filter_split (fun i => decide (bg ls i ≤ x)) (List.range ls.length)
  have w1 : (Fp.filter fun p => decide (bg ls p.1 ≤ x)).length ≤ ((List.range ls.length).filter fun i => decide (ed ls i ≤ x)).length := by
    have b := len_le (A := (Fp.filter fun p => decide (bg ls p.1 ≤ x)).map (·.2)) (B := (List.range ls.length).filter fun i => decide (ed ls i ≤ x)) ((gr_ndv _).sublist (List.filter_sublist.map _)) fun g hg => by
      obtain ⟨p, hp, rfl⟩ := List.mem_map.mp hg
      obtain ⟨h1, h2⟩ := List.mem_filter.mp hp
      have h3 := mem_living.mp (gr_pair (n := ls.length) (t := p.1) (g := p.2) h1).1
      simp at h2
      exact List.mem_filter.mpr ⟨List.mem_range.mpr h3.1, by simp; omega⟩
    simpa using b
  have w2 : (Fp.filter fun p => !decide (bg ls p.1 ≤ x)).length ≤ ((List.range ls.length).filter fun i => !decide (bg ls i ≤ x)).length := by
    have b := len_le (A := (Fp.filter fun p => !decide (bg ls p.1 ≤ x)).map (·.1)) (B := (List.range ls.length).filter fun i => !decide (bg ls i ≤ x)) ((gr_ndk _).sublist (List.filter_sublist.map _)) fun t ht => by
      obtain ⟨p, hp, rfl⟩ := List.mem_map.mp ht
      obtain ⟨h1, h2⟩ := List.mem_filter.mp hp
      exact List.mem_filter.mpr ⟨List.mem_range.mpr (gr_keys _ p h1), h2⟩
    simpa using b
  -- begun by x: ended by x, or lent at x
  have s3 := filter_split (fun i => decide (x < ed ls i)) ((List.range ls.length).filter fun i => decide (bg ls i ≤ x))
  rw [List.filter_filter, List.filter_filter] at s3
  have e1 : ((List.range ls.length).filter fun i => !decide (x < ed ls i) && decide (bg ls i ≤ x)).length = ((List.range ls.length).filter fun i => decide (ed ls i ≤ x)).length := by
    congr 1
    apply List.filter_congr
    intro i hi
    have := bg_ed V (List.mem_range.mp hi)
    by_cases q : ed ls i ≤ x
    · rw [decide_eq_true q, decide_eq_false (by omega), decide_eq_true (by omega)]; rfl
    · rw [decide_eq_false q, decide_eq_true (by omega)]; rfl
  have e2 : ((List.range ls.length).filter fun i => decide (x < ed ls i) && decide (bg ls i ≤ x)).length = ((List.range ls.length).filter fun i => decide (bg ls i ≤ x) && decide (x < ed ls i)).length := by
    congr 1
    apply List.filter_congr
    intro i _
    exact Bool.and_comm _ _
  rw [e1, e2] at s3
  rw [List.length_range] at s2
  unfold U left
  show _ ≤ ls.length - Fp.length
  omega
theorem le_cnt (V : Valid ls) (big : ∀ g t, g < ls.length → t < ls.length → bg ls t - ed ls g ≤ k) : U ls (some k) bare = 0 ∨ ∃ t, t < ls.length ∧ U ls (some k) bare ≤ cnt ls (bg ls t) := by
  have key : ∀ m, m ≤ ls.length → m - (gr (living ls (some k) bare) (ed ls) m).length = 0 ∨ ∃ t, t < ls.length ∧ m - (gr (living ls (some k) bare) (ed ls) m).length ≤ cnt ls (bg ls t) := by
    intro m
    induction m with
    | zero => intro _; exact .inl rfl
    | succ t ih =>
      intro hm
      have ht : t < ls.length := hm
      have lt' := gr_len (Lv := living ls (some k) bare) (en := ed ls) t
      rcases gr_step (Lv := living ls (some k) bare) (en := ed ls) t with ⟨e, hf⟩ | ⟨g, e, _⟩
      · refine .inr ⟨t, ht, ?_⟩
        rw [e, cnt_ix]
        -- all that ended by then is taken
        have w1 : ((List.range ls.length).filter fun i => decide (ed ls i ≤ bg ls t)).length ≤ (gr (living ls (some k) bare) (ed ls) t).length := by
          have b := len_le (A := (List.range ls.length).filter fun i => decide (ed ls i ≤ bg ls t)) (B := (gr (living ls (some k) bare) (ed ls) t).map (·.2)) (List.nodup_range.sublist List.filter_sublist) fun g hg => by
            obtain ⟨h1, h2⟩ := List.mem_filter.mp hg
            rw [List.mem_range] at h1
            simp at h2
            by_cases q : g ∈ (gr (living ls (some k) bare) (ed ls) t).map (·.2)
            · exact q
            · have : g ∈ free (living ls (some k) bare) (gr (living ls (some k) bare) (ed ls) t) t := mem_free.mpr ⟨mem_living.mpr ⟨h1, h2, fun k' hk => by cases hk; exact big g t h1 ht, (fun s hs => by cases hs), (fun x hx => by cases hx)⟩, q⟩
              rw [hf] at this
              cases this
          simpa using b
        -- the first t + 1: ended by then, or lent
        have s := filter_split (fun i => decide (ed ls i ≤ bg ls t)) (List.range (t + 1))
        have w2 : ((List.range (t + 1)).filter fun i => decide (ed ls i ≤ bg ls t)).length ≤ ((List.range ls.length).filter fun i => decide (ed ls i ≤ bg ls t)).length :=
          len_le (List.nodup_range.sublist List.filter_sublist) fun i hi => by
            obtain ⟨h1, h2⟩ := List.mem_filter.mp hi
            rw [List.mem_range] at h1
            exact List.mem_filter.mpr ⟨List.mem_range.mpr (by omega), h2⟩
        have w3 : ((List.range (t + 1)).filter fun i => !decide (ed ls i ≤ bg ls t)).length ≤ ((List.range ls.length).filter fun i => decide (bg ls i ≤ bg ls t) && decide (bg ls t < ed ls i)).length :=
          len_le (List.nodup_range.sublist List.filter_sublist) fun i hi => by
            obtain ⟨h1, h2⟩ := List.mem_filter.mp hi
            rw [List.mem_range] at h1
            have := bg_mono V (i := i) (j := t) (by omega) ht
            simp at h2
            exact List.mem_filter.mpr ⟨List.mem_range.mpr (by omega), by simp; omega⟩
        rw [List.length_range] at s
        omega
      · have ih' := ih (by omega)
        rw [e, List.length_append, List.length_singleton]
        rcases ih' with h | ⟨u, hu, h⟩
        · exact .inl (by omega)
        · exact .inr ⟨u, hu, by omega⟩
  exact key ls.length (Nat.le_refl _)
end
end M
/-! K75E -/
set_option Elab.async false
set_option linter.all false
set_option maxRecDepth 100000
set_option maxHeartbeats 4000000
/-! What a reading comes to, seen from a part of the heap that is known. -/
namespace Q
open PySem L2 Evl

/-! ### data -/
mutual
inductive De (H : Hp) : V → PyData → Prop
  | non : De H .non .none
  | bl (b : Bool) : De H (.bl b) (.bool b)
  | int (i : Int) : De H (.int i) (.int i)
  | lst {a : Addr} {xs : List V} {ds : List PyData} : H a = some (.lst xs) → DeA H xs ds → De H (.ref a) (.list ds)
  | tup {a : Addr} {xs : List V} {ds : List PyData} : H a = some (.tup xs) → DeA H xs ds → De H (.ref a) (.tuple ds)
inductive DeA (H : Hp) : List V → List PyData → Prop
  | nil : DeA H [] []
  | cons {v : V} {vs : List V} {d : PyData} {ds : List PyData} : De H v d → DeA H vs ds → DeA H (v :: vs) (d :: ds)
end
mutual
theorem De.mono {H H' : Hp} (e : Ex H H') : ∀ {v : V} {d : PyData}, De H v d → De H' v d
  | _, _, .non => .non
  | _, _, .bl b => .bl b
  | _, _, .int i => .int i
  | _, _, .lst h a => .lst (e _ _ h) (DeA.mono e a)
  | _, _, .tup h a => .tup (e _ _ h) (DeA.mono e a)
theorem DeA.mono {H H' : Hp} (e : Ex H H') : ∀ {vs : List V} {ds : List PyData}, DeA H vs ds → DeA H' vs ds
  | _, _, .nil => .nil
  | _, _, .cons a b => .cons (De.mono e a) (DeA.mono e b)
end
mutual
theorem De.dp {K : PySem.W.Frag} {H : Hp} : ∀ {v : V} {d : PyData}, De H v d → Dp K H v d
  | _, _, .non => .non
  | _, _, .bl b => .bl b
  | _, _, .int i => .int i
  | _, _, .lst h a => .lst (sq_of h) (DeA.dp a)
  | _, _, .tup h a => .tup (st_of h) (DeA.dp a)
theorem DeA.dp {K : PySem.W.Frag} {H : Hp} : ∀ {vs : List V} {ds : List PyData}, DeA H vs ds → DpAll K H vs ds
  | _, _, .nil => .nil
  | _, _, .cons a b => .cons (De.dp a) (DeA.dp b)
end
section
variable {H : Hp} {v : V} {vs : List V} {ds es : List PyData} {d : PyData}
theorem De.int' {i : Int} (h : De H v (.int i)) : v = .int i := by cases h; rfl
theorem De.bl' {b : Bool} (h : De H v (.bool b)) : v = .bl b := by cases h; rfl
theorem De.non' (h : De H v .none) : v = .non := by cases h; rfl
theorem De.lst' (h : De H v (.list ds)) : ∃ a xs, v = .ref a ∧ H a = some (.lst xs) ∧ DeA H xs ds := by cases h with | lst h a => exact ⟨_, _, rfl, h, a⟩
theorem De.tup' (h : De H v (.tuple ds)) : ∃ a xs, v = .ref a ∧ H a = some (.tup xs) ∧ DeA H xs ds := by cases h with | tup h a => exact ⟨_, _, rfl, h, a⟩
theorem DeA.len : ∀ {vs : List V} {ds : List PyData}, DeA H vs ds → vs.length = ds.length
  | _, _, .nil => rfl
  | _, _, .cons _ b => congrArg Nat.succ (DeA.len b)
theorem DeA.at : ∀ {vs : List V} {ds : List PyData} {i : Nat} {d : PyData}, DeA H vs ds → ds[i]? = some d → ∃ v, vs[i]? = some v ∧ De H v d
  | _, _, _, _, .nil, e => by simp at e
  | _, _, 0, _, .cons a _, e => by simp at e; subst e; exact ⟨_, rfl, a⟩
  | _, _, i + 1, _, .cons _ b, e => by simpa using DeA.at (i := i) b (by simpa using e)
theorem DeA.of : ∀ {vs : List V} {ds : List PyData} {i : Nat} {v : V}, DeA H vs ds → vs[i]? = some v → ∃ d, ds[i]? = some d ∧ De H v d
  | _, _, _, _, .nil, e => by simp at e
  | _, _, 0, _, .cons a _, e => by simp at e; subst e; exact ⟨_, rfl, a⟩
  | _, _, i + 1, _, .cons _ b, e => by simpa using DeA.of (i := i) b (by simpa using e)
theorem DeA.app : ∀ {vs ws : List V} {ds es : List PyData}, DeA H vs ds → DeA H ws es → DeA H (vs ++ ws) (ds ++ es)
  | _, _, _, _, .nil, b => b
  | _, _, _, _, .cons a r, b => .cons a (DeA.app r b)
theorem DeA.snoc (h : DeA H vs ds) (e : De H v d) : DeA H (vs ++ [v]) (ds ++ [d]) := h.app (.cons e .nil)
theorem DeA.ints : ∀ (ns : List Int), DeA H (ns.map V.int) (ns.map PyData.int)
  | [] => .nil
  | n :: ns => .cons (.int n) (DeA.ints ns)
theorem DeA.ints' : ∀ {vs : List V} {ns : List Int}, DeA H vs (ns.map PyData.int) → vs = ns.map V.int
  | _, [], .nil => rfl
  | _, n :: ns, .cons a b => by rw [De.int' a, DeA.ints' b]; rfl
theorem DeA.bls' : ∀ {vs : List V} {ns : List Bool}, DeA H vs (ns.map PyData.bool) → vs = ns.map V.bl
  | _, [], .nil => rfl
  | _, n :: ns, .cons a b => by rw [De.bl' a, DeA.bls' b]; rfl
theorem DeA.drop : ∀ (n : Nat) {vs : List V} {ds : List PyData}, DeA H vs ds → DeA H (vs.drop n) (ds.drop n)
  | 0, _, _, h => h
  | _ + 1, _, _, .nil => .nil
  | n + 1, _, _, .cons _ b => DeA.drop n b
theorem DeA.rev : ∀ {vs : List V} {ds : List PyData}, DeA H vs ds → DeA H vs.reverse ds.reverse
  | _, _, .nil => .nil
  | _, _, .cons a b => by rw [List.reverse_cons, List.reverse_cons]; exact (DeA.rev b).snoc a
end

/-! ### the known part behind -/
/-- of H2 all but what stood unknown in H1 -/
def cut (B H1 H2 : Hp) : Hp := fun b => match H1 b, B b with
  | some _, none => none
  | _, _ => H2 b
section
variable {B B' H H1 H2 H3 : Hp} {b : Addr} {o : HO}
theorem cut_none (h1 : H1 b = some o) (h2 : B b = none) : cut B H1 H2 b = none := by unfold cut; rw [h1, h2]
theorem cut_new (h1 : H1 b = none) : cut B H1 H2 b = H2 b := by unfold cut; rw [h1]
theorem cut_old (h2 : B b = some o) : cut B H1 H2 b = H2 b := by
  unfold cut
  rw [h2]
  cases H1 b <;> rfl
theorem cut_le : Ex (cut B H1 H2) H2 := fun b o h => by
  cases h1 : H1 b with
  | none => rw [cut_new h1] at h; exact h
  | some u =>
    cases h2 : B b with
    | none => rw [cut_none h1 h2] at h; cases h
    | some w => rw [cut_old h2] at h; exact h
theorem cut_base (e : Ex B H2) : Ex B (cut B H1 H2) := fun b o h => by rw [cut_old h]; exact e b o h
theorem cut_mono (e : Ex H2 H3) : Ex (cut B H1 H2) (cut B H1 H3) := fun b o h => by
  cases h1 : H1 b with
  | none => rw [cut_new h1] at h ⊢; exact e b o h
  | some u =>
    cases h2 : B b with
    | none => rw [cut_none h1 h2] at h; cases h
    | some w => rw [cut_old h2] at h ⊢; exact e b o h
/-- later begun, less is known -/
theorem cut_later (e : Ex H1 H2) : Ex (cut B H2 H3) (cut B H1 H3) := fun b o h => by
  cases h2 : B b with
  | some w => rw [cut_old h2] at h ⊢; exact h
  | none =>
    cases h1 : H2 b with
    | some u => rw [cut_none h1 h2] at h; cases h
    | none =>
      rw [cut_new h1] at h
      rw [cut_new (fresh_back e h1)]
      exact h
theorem cut_cut (e : Ex H1 H2) (eb : Ex B H2) : cut (cut B H1 H2) H2 H3 = cut B H1 H3 := by
  funext b
  cases h2 : B b with
  | some w => rw [cut_old h2, cut_old (o := w) (by rw [cut_old h2]; exact eb b w h2)]
  | none =>
    cases h1 : H1 b with
    | some u => rw [cut_none h1 h2, cut_none (e b u h1) (cut_none h1 h2)]
    | none =>
      rw [cut_new h1]
      cases h3 : H2 b with
      | none => rw [cut_new h3]
      | some u => rw [cut_old (o := u) (by rw [cut_new h1]; exact h3)]
theorem cut_self (e : Ex B H1) : Ex (cut B H1 H1) B := fun b o h => by
  cases h2 : B b with
  | some w =>
    rw [cut_old h2, e b w h2] at h
    exact h
  | none =>
    cases h1 : H1 b with
    | some u => rw [cut_none h1 h2] at h; cases h
    | none => rw [cut_new h1, h1] at h; cases h
theorem cut_grow (e : Ex B B') : Ex (cut B H1 H2) (cut B' H1 H2) := fun b o h => by
  cases h2 : B' b with
  | some w =>
    rw [cut_old h2]
    exact cut_le b o h
  | none =>
    have h3 : B b = none := fresh_back e h2
    cases h1 : H1 b with
    | some u => rw [cut_none h1 h3] at h; cases h
    | none => rw [cut_new h1] at h ⊢; exact h
end

/-- the same where one unknown place may have changed -/
def ExB (p : Addr) (H H' : Hp) : Prop := ∀ b o, b ≠ p → H b = some o → H' b = some o
theorem exBut {H H' : Hp} (e : Ex H H') (p : Addr) : ExB p H H' := fun b o _ h => e b o h
theorem ExB.refl (p : Addr) (H : Hp) : ExB p H H := fun _ _ _ h => h
theorem ExB.trans {p : Addr} {H H1 H2 : Hp} (a : ExB p H H1) (b : ExB p H1 H2) : ExB p H H2 := fun x o n h => b x o n (a x o n h)
theorem ExB.upd {p : Addr} {H H' : Hp} {o : HO} (e : ExB p H H') : ExB p H (upd H' p o) := fun b u n h => by rw [upd_ne n]; exact e b u n h
theorem ExB.base {p : Addr} {B H H' : Hp} (e : ExB p H H') (eb : Ex B H) (hp : B p = none) : Ex B H' := fun b o h => e b o (ne_of_none h hp) (eb b o h)
theorem cutB_mono {B H1 H2 H3 : Hp} {p : Addr} (e : ExB p H2 H3) (hp : B p = none) (h1 : ∃ o, H1 p = some o) : Ex (cut B H1 H2) (cut B H1 H3) := fun b o h => by
  by_cases q : b = p
  · subst q
    obtain ⟨u, h1⟩ := h1
    rw [cut_none h1 hp] at h
    cases h
  · cases h1 : H1 b with
    | none => rw [cut_new h1] at h ⊢; exact e b o q h
    | some u =>
      cases h2 : B b with
      | none => rw [cut_none h1 h2] at h; cases h
      | some w => rw [cut_old h2] at h ⊢; exact e b o q h
/-- what is there stays there -/
def Dm (H H' : Hp) : Prop := ∀ b, H' b = none → H b = none
theorem exDm {H H' : Hp} (e : Ex H H') : Dm H H' := fun _ h => fresh_back e h
theorem ExB.dm {p : Addr} {H H' : Hp} (e : ExB p H H') (h : ∃ o, H' p = some o) : Dm H H' := fun b hb => by
  by_cases q : b = p
  · subst q
    obtain ⟨o, h⟩ := h
    rw [h] at hb
    cases hb
  · cases h1 : H b with
    | none => rfl
    | some u => rw [e b u q h1] at hb; cases hb
theorem cutD_later {B H1 H2 H3 : Hp} (e : Dm H1 H2) : Ex (cut B H2 H3) (cut B H1 H3) := fun b o h => by
  cases h2 : B b with
  | some w => rw [cut_old h2] at h ⊢; exact h
  | none =>
    cases h1 : H2 b with
    | some u => rw [cut_none h1 h2] at h; cases h
    | none =>
      rw [cut_new h1] at h
      rw [cut_new (e b h1)]
      exact h

/-! ### what an expression comes to -/
abbrev PV := Hp → V → Prop
/-- stays true when more is known -/
def Mo (P : PV) : Prop := ∀ G G' v, Ex G G' → P G v → P G' v
def Co (c : Hp → VK → Prop) (B : Hp) (P : PV) : Prop := ∀ H1, Ex B H1 → ∀ Q : VK, (∀ v H2, Ex H1 H2 → P (cut B H1 H2) v → Q v H2) → c H1 Q
abbrev EvP (te : TE) (σ : L2.St) (B : Hp) (P : PV) : Prop := Co (te σ) B P
abbrev is (d : PyData) : PV := fun G v => De G v d
theorem mo_is {d : PyData} : Mo (is d) := fun _ _ _ e h => De.mono e h
theorem mo_eq {w : V} : Mo (fun _ v => v = w) := fun _ _ _ _ h => h
/-- lists of values -/
abbrev PVs := Hp → List V → Prop
def EvA' (ta : TA) (σ : L2.St) (B : Hp) (P : PVs) : Prop := ∀ H1, Ex B H1 → ∀ Q : List V → Hp → Prop, (∀ v H2, Ex H1 H2 → P (cut B H1 H2) v → Q v H2) → ta σ H1 Q
/-- tests -/
def CoT (c : Hp → (Bool → Hp → Prop) → Prop) (B : Hp) (b : Bool) : Prop := ∀ H1, Ex B H1 → ∀ Q : Bool → Hp → Prop, (∀ H2, Ex H1 H2 → Q b H2) → c H1 Q
theorem cot_evt {tt : TT} {σ : L2.St} {B : Hp} {b : Bool} : CoT (tt σ) B b = EvT tt σ B b := rfl
section
variable {c : Hp → VK → Prop} {B B' : Hp} {P P' R : PV}
theorem Co.imp (h : Co c B P) (i : ∀ G v, Ex B G → P G v → P' G v) : Co c B P' := fun H1 e Q q => h H1 e Q fun v H2 e2 p => q v H2 e2 (i _ _ (cut_base (e.trans e2)) p)
theorem Co.grow (m : Mo P) (h : Co c B P) (eb : Ex B B') : Co c B' P := fun H1 e Q q => h H1 (eb.trans e) Q fun v H2 e2 p => q v H2 e2 (m _ _ _ (cut_grow eb) p)
theorem Co.bind {te : TE} {σ : L2.St} {r : V → Hp → VK → Prop} (h : EvP te σ B P) (k : ∀ x G, Ex B G → P G x → Co (r x) G R) : Co (fun H Q => te σ H fun x H1 => r x H1 Q) B R := fun H1 e Q q =>
  h H1 e _ fun x H2 e2 p => k x _ (cut_base (e.trans e2)) p H2 cut_le Q fun v H3 e3 z => q v H3 (e2.trans e3) (by rw [cut_cut e2 (e.trans e2)] at z; exact z)
theorem Co.bindT {te : TE} {σ : L2.St} {r : V → Hp → (Bool → Hp → Prop) → Prop} {b : Bool} (h : EvP te σ B P) (k : ∀ x G, Ex B G → P G x → CoT (r x) G b) : CoT (fun H Q => te σ H fun x H1 => r x H1 Q) B b := fun H1 e Q q =>
  h H1 e _ fun x H2 e2 p => k x _ (cut_base (e.trans e2)) p H2 cut_le Q fun H3 e3 => q H3 (e2.trans e3)
theorem Co.bindA {ta : TA} {σ : L2.St} {r : List V → Hp → VK → Prop} {Ps : PVs} (h : EvA' ta σ B Ps) (k : ∀ x G, Ex B G → Ps G x → Co (r x) G R) : Co (fun H Q => ta σ H fun x H1 => r x H1 Q) B R := fun H1 e Q q =>
  h H1 e _ fun x H2 e2 p => k x _ (cut_base (e.trans e2)) p H2 cut_le Q fun v H3 e3 z => q v H3 (e2.trans e3) (by rw [cut_cut e2 (e.trans e2)] at z; exact z)
theorem Co.val {v : V} (p : P B v) (m : Mo P) : Co (fun H Q => Q v H) B P := fun H1 e _ q => q v H1 (Ex.refl H1) (m _ _ _ (cut_base e) p)
theorem Co.new {o : HO} (k : ∀ G a, Ex B G → G a = some o → P G (.ref a)) : Co (fun H Q => ∀ p, H p = none → Q (.ref p) (upd H p o)) B P := fun H1 e _ q p hp =>
  q _ _ (Ex.new hp) (k _ p (cut_base (e.trans (Ex.new hp))) (by rw [cut_new hp, upd_same]))
end
section
variable {σ : L2.St} {B B' : Hp} {te ta tb : TE} {P P' R : PV} {v w : V} {d : PyData} {t u : TT}
theorem Ev.p (h : Ev te σ B v) : EvP te σ B (fun _ w => w = v) := fun H1 e Q q => h H1 e Q fun H2 e2 => q v H2 e2 rfl
theorem ev_p (h : EvP te σ B (fun _ w => w = v)) : Ev te σ B v := fun H1 e Q q => h H1 e Q fun w H2 e2 p => by
  have p : w = v := p
  rw [p]
  exact q H2 e2
theorem ev_int {i : Int} (h : EvP te σ B (is (.int i))) : Ev te σ B (.int i) := ev_p (h.imp fun G v _ p => De.int' p)
theorem ev_bl {b : Bool} (h : EvP te σ B (is (.bool b))) : Ev te σ B (.bl b) := ev_p (h.imp fun G v _ p => De.bl' p)
theorem Ev.int {i : Int} (h : Ev te σ B (.int i)) : EvP te σ B (is (.int i)) := (Ev.p h).imp fun G v _ p => by
  have p : v = _ := p
  rw [p]
  exact .int i
theorem Ev.bl {b : Bool} (h : Ev te σ B (.bl b)) : EvP te σ B (is (.bool b)) := (Ev.p h).imp fun G v _ p => by
  have p : v = _ := p
  rw [p]
  exact .bl b
theorem Ev.non (h : Ev te σ B .non) : EvP te σ B (is .none) := (Ev.p h).imp fun G v _ p => by
  have p : v = _ := p
  rw [p]
  exact .non
/-- a slot -/
theorem ep_var {i : Nat} (h : σ[i]? = some (some v)) (p : P B v) (m : Mo P) : EvP (tVar i) σ B P := fun H1 e _ q => ⟨v, h, q v H1 (Ex.refl H1) (m _ _ _ (cut_base e) p)⟩
theorem ep_d {i : Nat} (h : σ[i]? = some (some v)) (p : De B v d) : EvP (tVar i) σ B (is d) := ep_var h p mo_is
theorem ep_c {v : V} (p : P B v) (m : Mo P) : EvP (tC v) σ B P := Co.val p m
theorem ep_int {i : Int} : EvP (tC (.int i)) σ B (is (.int i)) := ep_c (.int i) mo_is
theorem ep_non : EvP (tC .non) σ B (is .none) := ep_c .non mo_is
theorem ep_bl {b : Bool} : EvP (tC (.bl b)) σ B (is (.bool b)) := ep_c (.bl b) mo_is
/-- two, one after the other, then something with both -/
theorem ep_op {r : R2} (ha : EvP ta σ B P) (ma : Mo P) (hb : EvP tb σ B P') (mb : Mo P') (hr : ∀ G x y, Ex B G → P G x → P' G y → Co (r x y) G R) : EvP (tOp r ta tb) σ B R :=
  Co.bind (r := fun x H Q => tb σ H fun y H2 => r x y H2 Q) ha fun x G e p => Co.bind (r := fun y H Q => r x y H Q) (hb.grow mb e) fun y G' e' p' => hr G' x y (e.trans e') (ma _ _ _ e' p) p'
theorem ep_un {r : V → Hp → VK → Prop} (ha : EvP ta σ B P) (hr : ∀ G x, Ex B G → P G x → Co (r x) G R) : EvP (tUn r ta) σ B R := Co.bind (r := r) ha fun x G e p => hr G x e p
/-- ints -/
theorem ep_I0 {g : Int → Int → V} {i j : Int} (ha : EvP ta σ B (is (.int i))) (hb : EvP tb σ B (is (.int j))) (p : P B (g i j)) (m : Mo P) : EvP (tOp (rI0 g) ta tb) σ B P :=
  ep_op ha mo_is hb mo_is fun G x y e p1 p2 => fun H1 e1 Q q => ⟨i, j, De.int' p1, De.int' p2, q _ H1 (Ex.refl H1) (m _ _ _ (e.trans (cut_base e1)) p)⟩
theorem ep_I {C : Int → Int → Prop} {g : Int → Int → V} {i j : Int} (ha : EvP ta σ B (is (.int i))) (hb : EvP tb σ B (is (.int j))) (hc : C i j) (p : P B (g i j)) (m : Mo P) : EvP (tOp (rI C g) ta tb) σ B P :=
  ep_op ha mo_is hb mo_is fun G x y e p1 p2 => fun H1 e1 Q q => ⟨i, j, De.int' p1, De.int' p2, hc, q _ H1 (Ex.refl H1) (m _ _ _ (e.trans (cut_base e1)) p)⟩
theorem ep_add {i j : Int} (ha : EvP ta σ B (is (.int i))) (hb : EvP tb σ B (is (.int j))) : EvP (tOp (rI0 fun i j => .int (i + j)) ta tb) σ B (is (.int (i + j))) := ep_I0 ha hb (.int _) mo_is
theorem ep_sub {i j : Int} (ha : EvP ta σ B (is (.int i))) (hb : EvP tb σ B (is (.int j))) : EvP (tOp (rI0 fun i j => .int (i - j)) ta tb) σ B (is (.int (i - j))) := ep_I0 ha hb (.int _) mo_is
theorem ep_cmp {f : Int → Int → Bool} {i j : Int} (ha : EvP ta σ B (is (.int i))) (hb : EvP tb σ B (is (.int j))) : EvP (tOp (rI0 fun i j => .bl (f i j)) ta tb) σ B (is (.bool (f i j))) := ep_I0 ha hb (.bl _) mo_is
/-- is None, is not None -/
def noneB : PyData → Bool
  | .none => true
  | _ => false
theorem de_isN {x : PyData} {G : Hp} {v : V} (h : De G v x) : (decide (v = V.non)) = noneB x := by cases h <;> rfl
theorem ep_isN {x : PyData} (ha : EvP ta σ B (is x)) : EvP (tIsN ta) σ B (is (.bool (noneB x))) :=
  Co.bind (r := fun x H Q => Q (.bl (decide (x = .non))) H) ha fun v G e p => fun H1 e1 Q q => by
    have q' := q (.bl (noneB x)) H1 (Ex.refl H1) (.bl _)
    rw [← de_isN p] at q'
    exact q'
theorem ep_notN {x : PyData} (ha : EvP ta σ B (is x)) : EvP (tNotN ta) σ B (is (.bool (!noneB x))) :=
  Co.bind (r := fun x H Q => Q (.bl (!decide (x = .non))) H) ha fun v G e p => fun H1 e1 Q q => by
    have q' := q (.bl (!noneB x)) H1 (Ex.refl H1) (.bl _)
    rw [← de_isN p] at q'
    exact q'
/-- an item -/
theorem ep_ixT {K : PySem.W.Frag} {ds : List PyData} {i : Int} {j : Nat} (ha : EvP ta σ B (is (.tuple ds))) (hb : EvP tb σ B (is (.int i))) (hi : i = (j : Int)) (hj : ds[j]? = some d) : EvP (tOp (rIxT K) ta tb) σ B (is d) :=
  ep_op ha mo_is hb mo_is fun G x y e p1 p2 => fun H1 e1 Q q => by
    obtain ⟨a, xs, rfl, h1, h2⟩ := De.tup' p1
    obtain ⟨v, hv, dv⟩ := h2.at hj
    refine ⟨a, xs, i, v, rfl, De.int' p2, st_of (e1 _ _ h1), ?_, q v H1 (Ex.refl H1) (dv.mono (cut_base e1))⟩
    rw [hi]
    exact atI_nat hv
theorem ep_ixL {K : PySem.W.Frag} {ds : List PyData} {i : Int} {j : Nat} (ha : EvP ta σ B (is (.list ds))) (hb : EvP tb σ B (is (.int i))) (hi : i = (j : Int)) (hj : ds[j]? = some d) : EvP (tOp (rIxL K) ta tb) σ B (is d) :=
  ep_op ha mo_is hb mo_is fun G x y e p1 p2 => fun H1 e1 Q q => by
    obtain ⟨a, xs, rfl, h1, h2⟩ := De.lst' p1
    obtain ⟨v, hv, dv⟩ := h2.at hj
    refine ⟨a, xs, i, v, rfl, De.int' p2, sq_of (e1 _ _ h1), ?_, q v H1 (Ex.refl H1) (dv.mono (cut_base e1))⟩
    rw [hi]
    exact atI_nat hv
/-- displays -/
theorem ea_nil' {P : PVs} (p : ∀ G, Ex B G → P G []) : EvA' tNil σ B P := fun H1 e _ q => q [] H1 (Ex.refl H1) (p _ (cut_base e))
theorem ea_cons' {tr : TA} {Ps R : PVs} (ha : EvP ta σ B P) (ma : Mo P) (hr : ∀ G, Ex B G → EvA' tr σ G Ps) (k : ∀ G v vs, Ex B G → P G v → Ps G vs → R G (v :: vs)) : EvA' (tCons ta tr) σ B R := fun H1 e Q q =>
  ha H1 e _ fun x H2 e2 p => hr _ (cut_base (e.trans e2)) H2 cut_le _ fun xs H3 e3 ps => q _ H3 (e2.trans e3) (by
    rw [cut_cut e2 (e.trans e2)] at ps
    exact k _ x xs (cut_base ((e.trans e2).trans e3)) (ma _ _ _ (cut_mono e3) p) ps)
theorem da_nil : EvA' tNil σ B (fun G vs => DeA G vs []) := ea_nil' fun _ _ => .nil
theorem EvA'.grow {tr : TA} {Ps : PVs} (m : ∀ G G' v, Ex G G' → Ps G v → Ps G' v) (h : EvA' tr σ B Ps) (eb : Ex B B') : EvA' tr σ B' Ps := fun H1 e Q q => h H1 (eb.trans e) Q fun v H2 e2 p => q v H2 e2 (m _ _ _ (cut_grow eb) p)
theorem da_cons {tr : TA} {ds : List PyData} (ha : EvP ta σ B (is d)) (hr : EvA' tr σ B (fun G vs => DeA G vs ds)) : EvA' (tCons ta tr) σ B (fun G vs => DeA G vs (d :: ds)) :=
  ea_cons' ha mo_is (fun G e => hr.grow (fun _ _ _ e h => h.mono e) e) fun G v vs _ p ps => .cons p ps
theorem ep_tup {tr : TA} {ds : List PyData} (hr : EvA' tr σ B (fun G vs => DeA G vs ds)) (hl : ds.length ≤ 100000) : EvP (tTup tr) σ B (is (.tuple ds)) :=
  Co.bindA hr fun vs G e p => fun H1 e1 Q q => ⟨sz_of (by rw [p.len]; exact hl), (Co.new fun G' a e2 h => .tup h (p.mono e2)) H1 e1 Q q⟩
theorem ep_lst {tr : TA} {ds : List PyData} (hr : EvA' tr σ B (fun G vs => DeA G vs ds)) (hl : ds.length ≤ 100000) : EvP (tLst tr) σ B (is (.list ds)) :=
  Co.bindA hr fun vs G e p => fun H1 e1 Q q => ⟨sz_of (by rw [p.len]; exact hl), (Co.new fun G' a e2 h => .lst h (p.mono e2)) H1 e1 Q q⟩
/-- a built-in called -/
theorem ep_cb {r : List V → Hp → VK → Prop} {tr : TA} {Ps : PVs} (hr : EvA' tr σ B Ps) (k : ∀ x G, Ex B G → Ps G x → Co (r x) G R) : EvP (tCB r tr) σ B R := Co.bindA hr k
theorem ep_cb1 {r : List V → Hp → VK → Prop} (ha : EvP ta σ B P) (ma : Mo P) (k : ∀ x G, Ex B G → P G x → Co (r [x]) G R) : EvP (tCB r (tCons ta tNil)) σ B R :=
  ep_cb (Ps := fun G vs => ∃ x, vs = [x] ∧ P G x) (ea_cons' ha ma (Ps := fun _ vs => vs = []) (fun _ _ => ea_nil' fun _ _ => rfl) fun G v vs _ p q => by
    have q : vs = [] := q
    rw [q]
    exact ⟨v, rfl, p⟩) fun x G e p => by
      obtain ⟨v, rfl, p⟩ := p
      exact k v G e p
/-- tests -/
theorem et_test' {b : Bool} (h : EvP te σ B (is (.bool b))) : EvT (tTest te) σ B b := fun H1 e _ q => h H1 e _ fun v H2 e2 p => ⟨b, De.bl' p, q H2 e2⟩
theorem et_B' {b : Bool} (h : EvP te σ B (is (.bool b))) : EvT (tB te) σ B b := fun H1 e _ q => h H1 e _ fun v H2 e2 p => ⟨b, De.bl' p, q H2 e2⟩
theorem ep_if {b : Bool} (m : Mo P) (h : EvT t σ B b) (h1 : b = true → EvP ta σ B P) (h2 : b = false → EvP tb σ B P) : EvP (tIf t ta tb) σ B P := fun H1 e Q q => h H1 e _ fun H2 e2 => by
  cases b with
  | true =>
    show ta σ H2 Q
    exact h1 rfl H2 (e.trans e2) Q fun v H3 e3 p => q v H3 (e2.trans e3) (m _ _ _ (cut_later e2) p)
  | false =>
    show tb σ H2 Q
    exact h2 rfl H2 (e.trans e2) Q fun v H3 e3 p => q v H3 (e2.trans e3) (m _ _ _ (cut_later e2) p)
theorem ep_andV {a b : Bool} (h1 : EvP ta σ B (is (.bool a))) (h2 : a = true → EvP tb σ B (is (.bool b))) : EvP (tAndV ta tb) σ B (is (.bool (a && b))) := Ev.bl (ev_andV (ev_bl h1) fun h => ev_bl (h2 h))
theorem ep_orV {a b : Bool} (h1 : EvP ta σ B (is (.bool a))) (h2 : a = false → EvP tb σ B (is (.bool b))) : EvP (tOrV ta tb) σ B (is (.bool (a || b))) := Ev.bl (ev_orV (ev_bl h1) fun h => ev_bl (h2 h))
theorem ep_notV {a : Bool} (h1 : EvP ta σ B (is (.bool a))) : EvP (tNotV ta) σ B (is (.bool (!a))) := Ev.bl (ev_notV (ev_bl h1))

/-! ### statements that return, or go on -/
def StP (ts : TS) (σ : L2.St) (B : Hp) (M : L2.St → Hp → Prop) (R : PV) : Prop := ∀ H1, Ex B H1 → ∀ D : Ends, (∀ σ' H2, Ex H1 H2 → M σ' (cut B H1 H2) → D.nx σ' H2) → (∀ v H2, Ex H1 H2 → R (cut B H1 H2) v → D.rt v H2) → ts D σ H1
abbrev RetP (ts : TS) (σ : L2.St) (B : Hp) (R : PV) : Prop := StP ts σ B (fun _ _ => False) R
variable {M N : L2.St → Hp → Prop} {ts tz : TS}
theorem st_seq (h : StP ts σ B M R) (k : ∀ σ' G, Ex B G → M σ' G → StP tz σ' G N R) : StP (tSeq ts tz) σ B N R := fun H1 e D n r =>
  h H1 e { D with nx := tz D } (fun σ' H2 e2 m => k σ' _ (cut_base (e.trans e2)) m H2 cut_le D (fun σ2 H3 e3 m3 => n σ2 H3 (e2.trans e3) (by rw [cut_cut e2 (e.trans e2)] at m3; exact m3))
    fun v H3 e3 z => r v H3 (e2.trans e3) (by rw [cut_cut e2 (e.trans e2)] at z; exact z)) r
theorem st_asg {i : Nat} (h : EvP te σ B P) (k : ∀ v G, Ex B G → P G v → M (σ.set i (some v)) G) : StP (tAsg te (gName i)) σ B M R := fun H1 e D n r => h H1 e _ fun v H2 e2 p => n _ H2 e2 (k v _ (cut_base (e.trans e2)) p)
/-- name = e; then the rest -/
theorem sq_asg {i : Nat} (h : EvP te σ B P) (k : ∀ v G, Ex B G → P G v → StP tz (σ.set i (some v)) G N R) : StP (tSeq (tAsg te (gName i)) tz) σ B N R :=
  st_seq (M := fun σ' G => ∃ v, σ' = σ.set i (some v) ∧ P G v) (st_asg h fun v G _ p => ⟨v, rfl, p⟩) fun σ' G e m => by
    obtain ⟨v, rfl, p⟩ := m
    exact k v G e p
theorem st_ret (h : EvP te σ B R) : StP (tRet te) σ B M R := fun H1 e D _ r => h H1 e _ fun v H2 e2 p => r v H2 e2 p
theorem st_next (k : M σ B) (m : ∀ G G', Ex G G' → M σ G → M σ G') : StP tNext σ B M R := fun H1 e D n _ => n σ H1 (Ex.refl H1) (m _ _ (cut_base e) k)
theorem StP.later {H1 H2 : Hp} (e2 : Ex H1 H2) {D : Ends} (mR : Mo R) (mM : ∀ σ G G', Ex G G' → M σ G → M σ G') (h : StP ts σ B M R) (e : Ex B H1) (n : ∀ σ' H2, Ex H1 H2 → M σ' (cut B H1 H2) → D.nx σ' H2) (r : ∀ v H2, Ex H1 H2 → R (cut B H1 H2) v → D.rt v H2) : ts D σ H2 :=
  h H2 (e.trans e2) D (fun σ' H3 e3 m => n σ' H3 (e2.trans e3) (mM _ _ _ (cut_later e2) m)) fun v H3 e3 z => r v H3 (e2.trans e3) (mR _ _ _ (cut_later e2) z)
theorem st_if {b : Bool} {u w : TS} (mR : Mo R) (mM : ∀ σ G G', Ex G G' → M σ G → M σ G') (h : EvT t σ B b) (h1 : b = true → StP u σ B M R) (h2 : b = false → StP w σ B M R) : StP (tIfS t u w) σ B M R := fun H1 e D n r => h H1 e _ fun H2 e2 => by
  cases b with
  | true =>
    show u D σ H2
    exact (h1 rfl).later e2 mR mM e n r
  | false =>
    show w D σ H2
    exact (h2 rfl).later e2 mR mM e n r
theorem StP.impR {R' : PV} (h : StP ts σ B M R) (i : ∀ G v, Ex B G → R G v → R' G v) : StP ts σ B M R' := fun H1 e D n r => h H1 e D n fun v H2 e2 z => r v H2 e2 (i _ _ (cut_base (e.trans e2)) z)
theorem StP.impM {M' : L2.St → Hp → Prop} (h : StP ts σ B M R) (i : ∀ σ G, Ex B G → M σ G → M' σ G) : StP ts σ B M' R := fun H1 e D n r => h H1 e D (fun σ' H2 e2 m => n σ' H2 e2 (i _ _ (cut_base (e.trans e2)) m)) r
theorem moF : ∀ (σ : L2.St) (G G' : Hp), Ex G G' → (fun (_ : L2.St) (_ : Hp) => False) σ G → (fun (_ : L2.St) (_ : Hp) => False) σ G' := fun _ _ _ _ h => h
/-- if t: return ..; then the rest -/
theorem sq_if {b : Bool} {u : TS} (mR : Mo R) (mN : ∀ σ G G', Ex G G' → N σ G → N σ G') (h : EvT t σ B b) (h1 : b = true → StP u σ B (fun _ _ => False) R) (h2 : b = false → StP tz σ B N R) : StP (tSeq (tIfS t u tNext) tz) σ B N R := fun H1 e D n r => h H1 e _ fun H2 e2 => by
  cases b with
  | true =>
    show u { D with nx := tz D } σ H2
    exact StP.later (D := { D with nx := tz D }) e2 mR moF (h1 rfl) e (fun _ _ _ z => z.elim) r
  | false =>
    show tz D σ H2
    exact (h2 rfl).later e2 mR mN e n r

/-! ### what is walked -/
/-- J walks the data l, whatever grows -/
def Wl (J : It) (B : Hp) (l : List PyData) : Prop := Walk J l.length (fun H => Ex B H) (fun i H x H' => Ex H H' ∧ ∃ d, l[i]? = some d ∧ De (cut B H H') x d)
def EvI (wi : TI) (σ : L2.St) (B : Hp) (l : List PyData) : Prop := ∀ H1, Ex B H1 → ∀ R : It → Hp → Prop, (∀ J H2, Ex H1 H2 → Wl J (cut B H1 H2) l → R J H2) → wi σ H1 R
theorem wl_list {K : PySem.W.Frag} {a : Addr} {xs : List V} {l : List PyData} (h : B a = some (.lst xs)) (hd : DeA B xs l) : Wl (Itl K a) B l := by
  have w := walk_list (K := K) (a := a) (xs := xs)
  rw [hd.len] at w
  refine w.mono (fun H e => sq_of (e _ _ h)) fun i H x H' hi e y => ?_
  obtain ⟨rfl, hx⟩ := y
  obtain ⟨d, h1, h2⟩ := hd.of hx
  exact ⟨Ex.refl _, d, h1, h2.mono (cut_base e)⟩
theorem wl_tup {K : PySem.W.Frag} {a : Addr} {xs : List V} {l : List PyData} (h : B a = some (.tup xs)) (hd : DeA B xs l) : Wl (Itt K a) B l := by
  have w := walk_tup (K := K) (a := a) (xs := xs)
  rw [hd.len] at w
  refine w.mono (fun H e => st_of (e _ _ h)) fun i H x H' hi e y => ?_
  obtain ⟨rfl, hx⟩ := y
  obtain ⟨d, h1, h2⟩ := hd.of hx
  exact ⟨Ex.refl _, d, h1, h2.mono (cut_base e)⟩
theorem wl_range {n : Nat} : Wl (Itr 0 n) B ((List.range n).map fun i => PyData.int (i : Nat)) := by
  have w := walk_range (lo := 0) (n := n)
  have hl : ((List.range n).map fun i => PyData.int (i : Nat)).length = n := by simp
  unfold Wl
  rw [hl]
  refine w.mono (fun _ _ => trivial) fun i H x H' hi e y => ?_
  obtain ⟨rfl, rfl⟩ := y
  refine ⟨Ex.refl _, .int (i : Nat), by simp [hi], ?_⟩
  show De _ (V.int (0 + (i : Int))) _
  rw [Int.zero_add]
  exact .int _
theorem wi_list {K : PySem.W.Frag} {tl : TE} {l : List PyData} (h : EvP tl σ B (is (.list l))) : EvI (iList K tl) σ B l := fun H1 e R r => h H1 e _ fun v H2 e2 p => by
  obtain ⟨a, xs, rfl, h1, h2⟩ := De.lst' p
  exact ⟨a, rfl, ⟨xs, sq_of (cut_le _ _ h1)⟩, r _ H2 e2 (wl_list h1 h2)⟩
theorem wi_tup {K : PySem.W.Frag} {tl : TE} {l : List PyData} (h : EvP tl σ B (is (.tuple l))) : EvI (iTup K tl) σ B l := fun H1 e R r => h H1 e _ fun v H2 e2 p => by
  obtain ⟨a, xs, rfl, h1, h2⟩ := De.tup' p
  exact ⟨a, rfl, ⟨xs, st_of (cut_le _ _ h1)⟩, r _ H2 e2 (wl_tup h1 h2)⟩
theorem wi_range {ta : TA} {n : Nat} (h : EvA' ta σ B (fun G vs => DeA G vs [.int (n : Nat)])) (hn : n ≤ 100000) : EvI (iRng1 ta) σ B ((List.range n).map fun i => PyData.int (i : Nat)) := fun H1 e R r => h H1 e _ fun vs H2 e2 p => by
  cases p with
  | cons p1 p2 =>
    cases p2
    refine ⟨(n : Nat), by rw [De.int' p1], by omega, by omega, ?_⟩
    rw [show ((n : Int)).toNat = n by simp]
    exact r _ H2 e2 wl_range
/-- what the target does with an item -/
def TgP (g : TG) (d : PyData) (σ : L2.St) (B : Hp) (M : L2.St → Prop) : Prop := ∀ v, De B v d → ∀ H1, Ex B H1 → ∀ Q : L2.St → Hp → Prop, (∀ σ2, M σ2 → Q σ2 H1) → g v σ H1 Q
theorem tg_name {j : Nat} {M : L2.St → Prop} (h : ∀ x, De B x d → M (σ.set j (some x))) : TgP (gName j) d σ B M := fun v hv H1 e Q q => q _ (h v hv)
theorem tg_pair {K : PySem.W.Frag} {i j : Nat} {d1 d2 : PyData} {M : L2.St → Prop} (h : ∀ x y, De B x d1 → De B y d2 → M ((σ.set i (some x)).set j (some y))) : TgP (gTup K 2 (gCons (gName i) (gCons (gName j) gNil))) (.tuple [d1, d2]) σ B M := fun v hv H1 e Q q => by
  obtain ⟨a, xs, rfl, h1, h2⟩ := De.tup' hv
  cases h2 with
  | cons x h2 =>
    cases h2 with
    | cons y h2 =>
      cases h2
      exact ⟨a, _, rfl, st_of (e _ _ h1), rfl, _, _, rfl, _, _, rfl, rfl, q _ (h _ _ x y)⟩
/-- data, new -/
abbrev isF (B : Hp) (d : PyData) : PV := fun G v => (∃ a, v = .ref a ∧ B a = none) ∧ De G v d
/-- a comprehension over data -/
theorem ep_lcF {α : Type} {wi : TI} {g : TG} {tt : TT} {te : TE} {vs : List Nat} {l : List α} {ι : α → PyData} (f : α → Bool) (w : α → PyData) (hw : EvI wi σ B (l.map ι)) (hl : l.length ≤ 40000)
    (ht : ∀ (a : α) G, a ∈ l → Ex B G → TgP g (ι a) (wipe σ vs) G fun σ2 => wipe σ2 vs = wipe σ vs ∧ EvT tt σ2 G (f a) ∧ (f a = true → EvP te σ2 G (is (w a)))) :
    EvP (tLc wi g tt te vs) σ B (isF B (.list ((l.filter f).map w))) := fun H1 e1 Q q => hw H1 e1 _ fun J H2 e2 wl D hD => by
  generalize hG : cut B H1 H2 = G0 at wl
  have g0 : Ex G0 H2 := by rw [← hG]; exact cut_le
  have b0 : Ex B G0 := by rw [← hG]; exact cut_base (e1.trans e2)
  have gD : G0 D = none := fresh_back g0 hD
  have hHD : (upd H2 D (.lst [])) D = some (HO.lst []) := upd_same
  have e2D : Ex H2 (upd H2 D (.lst [])) := Ex.new hD
  have done : ∀ i, i ≤ l.length → ∀ ds, ds = ((l.take i).filter f).map w → ds.length ≤ 40000 := fun i hi ds e => by
    rw [e, List.length_map]
    have := List.length_filter_le f (l.take i)
    have := List.length_take_le i l
    omega
  refine lc_it wl (fun i H => ExB D (upd H2 D (.lst [])) H ∧ ∃ xs, H D = some (.lst xs) ∧ DeA (cut G0 (upd H2 D (.lst [])) H) xs (((l.take i).filter f).map w)) ?_ ?_ ?_ ?_
  · exact ⟨ExB.refl _ _, [], upd_same, .nil⟩
  · rintro i H hi ⟨p1, _⟩
    exact p1.base (g0.trans e2D) gD
  · rintro i x H H' hi ⟨p1, xs, p2, p3⟩ ⟨y1, d, y2, y3⟩
    rw [List.length_map] at hi
    obtain ⟨a, ha, rfl⟩ : ∃ a, l[i]? = some a ∧ ι a = d := by
      rw [List.getElem?_map] at y2
      exact Option.map_eq_some_iff.mp y2
    have gH : Ex G0 H := p1.base (g0.trans e2D) gD
    have gH' : Ex G0 H' := gH.trans y1
    refine ht a (cut G0 H H') (List.mem_of_getElem? ha) (b0.trans (cut_base gH')) x y3 H' cut_le _ fun σ2 ⟨m1, m2, m3⟩ => ⟨m1, ?_⟩
    refine m2 H' cut_le _ fun H3 e3 => ?_
    have et : (l.take (i + 1)) = l.take i ++ [a] := by
      rw [List.take_succ, ha]
      rfl
    have H3D : H3 D = some (.lst xs) := e3 _ _ (y1 _ _ p2)
    have ex3 : ExB D (upd H2 D (.lst [])) H3 := (p1.trans (exBut y1 D)).trans (exBut e3 D)
    cases hf : f a with
    | false =>
      show ExB D _ H3 ∧ _
      refine ⟨ex3, xs, H3D, ?_⟩
      rw [et, List.filter_append, List.filter_cons, hf]
      simp only [List.filter_nil, List.append_nil, Bool.false_eq_true, if_false]
      exact p3.mono (cut_mono (y1.trans e3))
    | true =>
      refine m3 hf H3 (cut_le.trans e3) _ fun y H4 e4 py => ?_
      have H4D : H4 D = some (.lst xs) := e4 _ _ H3D
      have hlen : xs.length ≤ 40000 := by rw [p3.len]; exact done i (by omega) _ rfl
      have ex4 : ExB D (upd H2 D (.lst [])) H4 := ex3.trans (exBut e4 D)
      refine ⟨xs, H4D, sz_lt (by omega), ex4.upd, xs ++ [y], upd_same, ?_⟩
      rw [et, List.filter_append, List.filter_cons, hf, List.map_append]
      simp only [List.filter_nil, if_true, List.map_cons, List.map_nil]
      have k1 : Ex (cut G0 (upd H2 D (.lst [])) H) (cut G0 (upd H2 D (.lst [])) (upd H4 D (.lst (xs ++ [y])))) := cutB_mono (p := D) (exBut ((y1.trans e3).trans e4) D).upd gD ⟨_, hHD⟩
      have k2 : Ex (cut G0 (upd H2 D (.lst [])) H4) (cut G0 (upd H2 D (.lst [])) (upd H4 D (.lst (xs ++ [y])))) := cutB_mono (p := D) (ExB.refl D H4).upd gD ⟨_, hHD⟩
      have k3 : Ex (cut (cut G0 H H') H3 H4) (cut G0 (upd H2 D (.lst [])) H4) := by
        have a1 : Ex (cut (cut G0 H H') H3 H4) (cut (cut G0 H H') H' H4) := cut_later e3
        rw [cut_cut y1 gH'] at a1
        exact a1.trans (cutD_later (p1.dm ⟨_, p2⟩))
      exact (p3.mono k1).snoc (De.mono (k3.trans k2) py)
  · rintro H ⟨p1, xs, p2, p3⟩
    have h1D : H1 D = none := fresh_back e2 hD
    have e2H : Ex H2 H := fun b o hb => by
      have ne : b ≠ D := ne_of_none hb hD
      exact p1 b o ne (by rw [upd_ne ne]; exact hb)
    refine q (.ref D) H (e2.trans e2H) ⟨⟨D, rfl, fresh_back e1 h1D⟩, .lst (by rw [cut_new h1D]; exact p2) ?_⟩
    rw [List.length_map, List.take_length] at p3
    refine p3.mono ?_
    have a1 : Ex (cut G0 (upd H2 D (.lst [])) H) (cut G0 H2 H) := cutD_later (exDm e2D)
    rw [← hG] at a1 ⊢
    rw [cut_cut e2 (e1.trans e2)] at a1
    exact a1
theorem ep_lc {α : Type} {wi : TI} {g : TG} {tt : TT} {te : TE} {vs : List Nat} {l : List α} {ι : α → PyData} (f : α → Bool) (w : α → PyData) (hw : EvI wi σ B (l.map ι)) (hl : l.length ≤ 40000)
    (ht : ∀ (a : α) G, a ∈ l → Ex B G → TgP g (ι a) (wipe σ vs) G fun σ2 => wipe σ2 vs = wipe σ vs ∧ EvT tt σ2 G (f a) ∧ (f a = true → EvP te σ2 G (is (w a)))) :
    EvP (tLc wi g tt te vs) σ B (is (.list ((l.filter f).map w))) := (ep_lcF f w hw hl ht).imp fun _ _ _ h => h.2
end
end Q
/-! K75F -/
set_option Elab.async false
set_option linter.all false
set_option maxRecDepth 100000
set_option maxHeartbeats 4000000
/-! Promises of defs over data; built-ins over data. -/
namespace Q
open PySem PySem.Spec PyProof.Rows L2 Evl

/-- arguments as A says of the known part; a result as R says -/
def spF {ι : Type} (A : ι → PVs) (R : ι → PV) : Sp := fun vs H Q _ => ∃ (i : ι) (B : Hp), Ex B H ∧ A i B vs ∧ ∀ v H2, Ex H H2 → R i (cut B H H2) v → Q v H2
section
variable {P : Program} {w : World} {K : PySem.W.Frag} {mg : Str → Option Value} {base : Heap} {ι : Type} {A : ι → PVs} {R : ι → PV}
/-- a def keeps such a promise if its body comes to it -/
theorem fok {d : Df} {f : Addr} {fd : FuncData} {N ps : List Str} {k : Nat} (F : At K d f fd) (S : FnScope N ps (defScope d.st)) (hl : ∀ i B vs, A i B vs → vs.length = ps.length)
    (hb : ∀ (cdv : Value) (A' : Around) (outer : List Env) (s : Shared) (H : Hp) (E : XK), Room k (A'.deeper (envOfC d.ql (defScope d.st) s.heap.objs.size f cdv)) →
      ∃ t, PSs (cxOf CX0 P w K mg base N d.ql (defScope d.st) f cdv A' outer s H E).nox (defBody d.st) t ∧ ∀ i B vs, A i B vs → RetP t (start N vs) B (R i)) :
    FnOk P w K mg base CX0 (k + 1) f fd ps (spF A R) :=
  F.ok S (fun vs H Q E h => by obtain ⟨i, B, _, hA, _⟩ := h; exact hl i B vs hA) fun cdv A' outer s H vs Q E hr h => by
    obtain ⟨i, B, e, hA, k⟩ := h
    obtain ⟨t, ht, hq⟩ := hb cdv A' outer s H E hr
    exact ⟨t, ht.nox, hq i B vs hA H e _ (fun _ _ _ z => z.elim) fun v H2 e2 r => k v H2 e2 r⟩
/-- .. in the direct style -/
theorem fokD {sp : Sp} {d : Df} {f : Addr} {fd : FuncData} {N ps : List Str} {k : Nat} (F : At K d f fd) (S : FnScope N ps (defScope d.st)) (hl : ∀ vs H Q E, sp vs H Q E → vs.length = ps.length)
    (hb : ∀ (cdv : Value) (A' : Around) (outer : List Env) (s : Shared) (H : Hp) (vs : List V) (Q : VK) (E : XK), Room k (A'.deeper (envOfC d.ql (defScope d.st) s.heap.objs.size f cdv)) → sp vs H Q E →
      ∃ t, PSs (cxOf CX0 P w K mg base N d.ql (defScope d.st) f cdv A' outer s H E).nox (defBody d.st) t ∧ t { nx := fun _ H' => Q .non H', rt := Q } (start N vs) H) :
    FnOk P w K mg base CX0 (k + 1) f fd ps sp :=
  F.ok S hl fun cdv A' outer s H vs Q E hr h => by
    obtain ⟨t, ht, hq⟩ := hb cdv A' outer s H vs Q E hr h
    exact ⟨t, ht.nox, hq⟩
end
section
variable {σ : L2.St} {B : Hp} {te ta tb : TE} {P : PV} {ι : Type} {A : ι → PVs} {R : ι → PV} {dvs : List V} {E : XK}
theorem ep_call {tr : TA} {Ps : PVs} (i : ι) (h : EvA' tr σ B Ps) (hA : ∀ G vs, Ex B G → Ps G vs → A i G (vs ++ dvs)) : EvP (tCall (spF A R) dvs E tr) σ B (R i) :=
  Co.bindA (r := fun vs H Q => spF A R (vs ++ dvs) H Q E) h fun vs G e p => fun H1 e1 Q q => ⟨i, G, e1, hA G vs e p, q⟩
/-- data in a row, as arguments -/
theorem as_nil {P : PVs} (p : ∀ G, Ex B G → P G []) : EvA' tNil σ B P := ea_nil' p
/-- a method of an instance with slots that is known -/
theorem ep_meth {C : Addr} {tr : TA} {Ps : PVs} (i : ι) (ho : EvP ta σ B P) (mo : Mo P) (hS : ∀ G x, P G x → ∃ a dx vs, x = .ref a ∧ ∀ G', Ex G G' → SlX.Slt G' a C dx vs)
    (h : EvA' tr σ B Ps) (ms : ∀ G G' v, Ex G G' → Ps G v → Ps G' v) (hA : ∀ G x vs, Ex B G → P G x → Ps G vs → A i G (x :: vs)) : EvP (SlX.tMethSl C (spF A R) E ta tr) σ B (R i) :=
  Co.bind (r := fun x H Q => ∃ a dx vs, x = .ref a ∧ SlX.Slt H a C dx vs ∧ tr σ H fun ws H2 => spF A R (x :: ws) H2 Q E) ho fun x G e p => fun H1 e1 Q q => by
    obtain ⟨a, dx, vs, rfl, hs⟩ := hS G x p
    refine ⟨a, dx, vs, rfl, hs H1 e1, ?_⟩
    exact (Co.bindA (r := fun ws H Q => spF A R (V.ref a :: ws) H Q E) (h.grow ms e) fun ws G' e' ps => fun H2 e2 Q q => ⟨i, G', e2, hA G' _ ws (e.trans e') (mo _ _ _ e' p) ps, q⟩) H1 e1 Q q
end

/-! ### built-ins -/
section
variable {σ : L2.St} {B : Hp} {te ta tb : TE} {K : PySem.W.Frag}
theorem ep_len {ds : List PyData} (ha : EvP ta σ B (fun G v => De G v (.list ds) ∨ De G v (.tuple ds))) : EvP (tCB (fun xs H Q => ∃ p ys, xs = [.ref p] ∧ (SqL K H p ys ∨ SqT K H p ys) ∧ Q (.int ys.length) H) (tCons ta tNil)) σ B (is (.int (ds.length : Nat))) :=
  ep_cb1 ha (fun _ _ _ e h => h.imp (De.mono e) (De.mono e)) fun x G e p => fun H1 e1 Q q => by
    rcases p with p | p
    · obtain ⟨a, xs, rfl, h1, h2⟩ := De.lst' p
      exact ⟨a, xs, rfl, .inl (sq_of (e1 _ _ h1)), q _ H1 (Ex.refl _) (by rw [h2.len]; exact .int _)⟩
    · obtain ⟨a, xs, rfl, h1, h2⟩ := De.tup' p
      exact ⟨a, xs, rfl, .inr (st_of (e1 _ _ h1)), q _ H1 (Ex.refl _) (by rw [h2.len]; exact .int _)⟩
theorem ep_lenL {ds : List PyData} (ha : EvP ta σ B (is (.list ds))) : EvP (tCB (fun xs H Q => ∃ p ys, xs = [.ref p] ∧ (SqL K H p ys ∨ SqT K H p ys) ∧ Q (.int ys.length) H) (tCons ta tNil)) σ B (is (.int (ds.length : Nat))) := ep_len (ha.imp fun _ _ _ h => .inl h)
theorem ep_lenT {ds : List PyData} (ha : EvP ta σ B (is (.tuple ds))) : EvP (tCB (fun xs H Q => ∃ p ys, xs = [.ref p] ∧ (SqL K H p ys ∨ SqT K H p ys) ∧ Q (.int ys.length) H) (tCons ta tNil)) σ B (is (.int (ds.length : Nat))) := ep_len (ha.imp fun _ _ _ h => .inr h)
/-- tuple(list) -/
theorem ep_tupleOf {ds : List PyData} (ha : EvP ta σ B (is (.list ds))) : EvP (tCB (fun xs H Q => ∃ a ys, xs = [.ref a] ∧ ((SqL K H a ys ∧ ∀ l, H l = none → Q (.ref l) (upd H l (.tup ys))) ∨ (SqT K H a ys ∧ Q (.ref a) H))) (tCons ta tNil)) σ B (is (.tuple ds)) :=
  ep_cb1 ha mo_is fun x G e p => fun H1 e1 Q q => by
    obtain ⟨a, xs, rfl, h1, h2⟩ := De.lst' p
    exact ⟨a, xs, rfl, .inl ⟨sq_of (e1 _ _ h1), (Co.new (P := is (.tuple ds)) fun G' a e2 h => .tup h (h2.mono e2)) H1 e1 Q q⟩⟩
/-- list(list or tuple) -/
theorem ep_listOf {ds : List PyData} (ha : EvP ta σ B (fun G v => De G v (.list ds) ∨ De G v (.tuple ds))) : EvP (tCB (fun xs H Q => ∃ p ys, xs = [.ref p] ∧ (SqL K H p ys ∨ SqT K H p ys) ∧ ∀ l, H l = none → Q (.ref l) (upd H l (.lst ys))) (tCons ta tNil)) σ B (is (.list ds)) :=
  ep_cb1 ha (fun _ _ _ e h => h.imp (De.mono e) (De.mono e)) fun x G e p => fun H1 e1 Q q => by
    rcases p with p | p
    · obtain ⟨a, xs, rfl, h1, h2⟩ := De.lst' p
      exact ⟨a, xs, rfl, .inl (sq_of (e1 _ _ h1)), (Co.new (P := is (.list ds)) fun G' a e2 h => .lst h (h2.mono e2)) H1 e1 Q q⟩
    · obtain ⟨a, xs, rfl, h1, h2⟩ := De.tup' p
      exact ⟨a, xs, rfl, .inr (st_of (e1 _ _ h1)), (Co.new (P := is (.list ds)) fun G' a e2 h => .lst h (h2.mono e2)) H1 e1 Q q⟩
theorem ep_sum {ns : List Int} (ha : EvP ta σ B (is (.list (ns.map .int)))) : EvP (tCB (rSum K) (tCons ta tNil)) σ B (is (.int ns.sum)) :=
  ep_cb1 ha mo_is fun x G e p => fun H1 e1 Q q => by
    obtain ⟨a, xs, rfl, h1, h2⟩ := De.lst' p
    rw [h2.ints'] at h1
    exact ⟨a, ns, rfl, sq_of (e1 _ _ h1), q _ H1 (Ex.refl _) (.int _)⟩
theorem ep_all {bs : List Bool} (ha : EvP ta σ B (is (.list (bs.map .bool)))) : EvP (tCB (rAll K) (tCons ta tNil)) σ B (is (.bool (bs.all id))) :=
  ep_cb1 ha mo_is fun x G e p => fun H1 e1 Q q => by
    obtain ⟨a, xs, rfl, h1, h2⟩ := De.lst' p
    rw [h2.bls'] at h1
    exact ⟨a, bs, rfl, sq_of (e1 _ _ h1), q _ H1 (Ex.refl _) (.bl _)⟩
theorem ep_any {bs : List Bool} (ha : EvP ta σ B (is (.list (bs.map .bool)))) : EvP (tCB (rAny K) (tCons ta tNil)) σ B (is (.bool (bs.any id))) :=
  ep_cb1 ha mo_is fun x G e p => fun H1 e1 Q q => by
    obtain ⟨a, xs, rfl, h1, h2⟩ := De.lst' p
    rw [h2.bls'] at h1
    exact ⟨a, bs, rfl, sq_of (e1 _ _ h1), q _ H1 (Ex.refl _) (.bl _)⟩
/-- max, min of ints: an item that none passes -/
theorem ep_max {ns : List Int} (ha : EvP ta σ B (is (.list (ns.map .int)))) (h0 : 0 < ns.length) : EvP (tCB (rMax K) (tCons ta tNil)) σ B (fun G v => ∃ m, v = .int m ∧ m ∈ ns ∧ ∀ y ∈ ns, y ≤ m) :=
  ep_cb1 ha mo_is fun x G e p => fun H1 e1 Q q => by
    obtain ⟨a, xs, rfl, h1, h2⟩ := De.lst' p
    rw [h2.ints'] at h1
    exact ⟨a, ns, rfl, sq_of (e1 _ _ h1), h0, fun m hm hl => q _ H1 (Ex.refl _) ⟨m, rfl, hm, hl⟩⟩
theorem ep_min {ns : List Int} (ha : EvP ta σ B (is (.list (ns.map .int)))) (h0 : 0 < ns.length) : EvP (tCB (rMin K) (tCons ta tNil)) σ B (fun G v => ∃ m, v = .int m ∧ m ∈ ns ∧ ∀ y ∈ ns, m ≤ y) :=
  ep_cb1 ha mo_is fun x G e p => fun H1 e1 Q q => by
    obtain ⟨a, xs, rfl, h1, h2⟩ := De.lst' p
    rw [h2.ints'] at h1
    exact ⟨a, ns, rfl, sq_of (e1 _ _ h1), h0, fun m hm hl => q _ H1 (Ex.refl _) ⟨m, rfl, hm, hl⟩⟩
theorem ep_min2 {i j : Int} (ha : EvP ta σ B (is (.int i))) (hb : EvP tb σ B (is (.int j))) : EvP (tCB (fun xs H Q => ∃ i j, xs = [.int i, .int j] ∧ Q (.int (if j < i then j else i)) H) (tCons ta (tCons tb tNil))) σ B (is (.int (min i j))) :=
  ep_cb (da_cons ha (da_cons hb da_nil)) fun x G e p => fun H1 e1 Q q => by
    cases p with
    | cons p1 p => cases p with
      | cons p2 p =>
        cases p
        refine ⟨i, j, by rw [De.int' p1, De.int' p2], ?_⟩
        have hm : min i j = if j < i then j else i := by
          by_cases h : j < i
          · rw [if_pos h]; omega
          · rw [if_neg h]; omega
        rw [← hm]
        exact q _ H1 (Ex.refl _) (.int _)
/-- two lists, one after the other -/
theorem ep_cat {ds es : List PyData} (ha : EvP ta σ B (is (.list ds))) (hb : EvP tb σ B (is (.list es))) (hl : ds.length + es.length ≤ 100000) : EvP (tOp rCat ta tb) σ B (is (.list (ds ++ es))) :=
  ep_op ha mo_is hb mo_is fun G x y e p1 p2 => fun H1 e1 Q q => by
    obtain ⟨a, xs, rfl, h1, h2⟩ := De.lst' p1
    obtain ⟨b, ys, rfl, h3, h4⟩ := De.lst' p2
    exact ⟨a, b, xs, ys, rfl, rfl, e1 _ _ h1, e1 _ _ h3, sz_of (by rw [h2.len, h4.len]; exact hl), (Co.new (P := is (.list (ds ++ es))) fun G' a e2 h => .lst h ((h2.mono e2).app (h4.mono e2))) H1 e1 Q q⟩
/-- x[::-1] -/
theorem ep_rev {ds : List PyData} (ha : EvP ta σ B (is (.list ds))) : EvP (tRevL K ta) σ B (is (.list ds.reverse)) :=
  Co.bind (r := fun x H1 Q => ∃ a xs, x = .ref a ∧ SqL K H1 a xs ∧ ∀ p, H1 p = none → Q (.ref p) (upd H1 p (.lst xs.reverse))) ha fun x G e p => fun H1 e1 Q q => by
    obtain ⟨a, xs, rfl, h1, h2⟩ := De.lst' p
    exact ⟨a, xs, rfl, sq_of (e1 _ _ h1), (Co.new (P := is (.list ds.reverse)) fun G' a e2 h => .lst h (h2.mono e2).rev) H1 e1 Q q⟩
/-- data compared -/
theorem ep_neD {d e : PyData} (ha : EvP ta σ B (is d)) (hb : EvP tb σ B (is e)) (h1 : SeqAt.shaped d = true) (h2 : SeqAt.shaped e = true) : EvP (tOp (rNeD K) ta tb) σ B (is (.bool (!PyData.eqv d e))) :=
  ep_op ha mo_is hb mo_is fun G x y ex p1 p2 => fun H1 e1 Q q => ⟨d, e, (p1.mono e1).dp, (p2.mono e1).dp, h1, h2, q _ H1 (Ex.refl _) (.bl _)⟩
theorem ep_eqS {d e : PyData} {b : Bool} (ha : EvP ta σ B (is d)) (hb : EvP tb σ B (is e)) (h : ∀ G x y, De G x d → De G y e → scal x y = true ∧ decide (x = y) = b) : EvP (tOp rEq ta tb) σ B (is (.bool b)) :=
  ep_op ha mo_is hb mo_is fun G x y ex p1 p2 => fun H1 e1 Q q => by
    obtain ⟨h1, h2⟩ := h G x y p1 p2
    refine ⟨h1, ?_⟩
    rw [h2]
    exact q _ H1 (Ex.refl _) (.bl _)
theorem ep_neS {d e : PyData} {b : Bool} (ha : EvP ta σ B (is d)) (hb : EvP tb σ B (is e)) (h : ∀ G x y, De G x d → De G y e → scal x y = true ∧ decide (x = y) = b) : EvP (tOp rNe ta tb) σ B (is (.bool (!b))) :=
  ep_op ha mo_is hb mo_is fun G x y ex p1 p2 => fun H1 e1 Q q => by
    obtain ⟨h1, h2⟩ := h G x y p1 p2
    refine ⟨h1, ?_⟩
    rw [h2]
    exact q _ H1 (Ex.refl _) (.bl _)
theorem scI {i j : Int} : ∀ (G : Hp) (x y : V), De G x (.int i) → De G y (.int j) → scal x y = true ∧ decide (x = y) = decide (i = j) := fun G x y h1 h2 => by
  rw [De.int' h1, De.int' h2]
  refine ⟨rfl, ?_⟩
  by_cases h : i = j
  · rw [h]; simp
  · rw [decide_eq_false h, decide_eq_false fun q => h (V.int.inj q)]
theorem ep_eqI {i j : Int} (ha : EvP ta σ B (is (.int i))) (hb : EvP tb σ B (is (.int j))) : EvP (tOp rEq ta tb) σ B (is (.bool (decide (i = j)))) := ep_eqS ha hb scI
theorem ep_neI {i j : Int} (ha : EvP ta σ B (is (.int i))) (hb : EvP tb σ B (is (.int j))) : EvP (tOp rNe ta tb) σ B (is (.bool (!decide (i = j)))) := ep_neS ha hb scI
/-- a < b < c, ints -/
theorem ep_chain {f g : Int → Int → Bool} {i j k : Int} {tc : TE} (ha : EvP ta σ B (is (.int i))) (hb : EvP tb σ B (is (.int j))) (hc : EvP tc σ B (is (.int k))) :
    EvP (tChain (rI0 fun i j => .bl (f i j)) (rI0 fun i j => .bl (g i j)) ta tb tc) σ B (is (.bool (f i j && g j k))) := fun H1 e Q q =>
  ha H1 e _ fun x H2 e2 p2 => hb H2 (e.trans e2) _ fun y H3 e3 p3 => ⟨i, j, De.int' p2, De.int' p3, f i j, rfl, by
    cases hf : f i j with
    | false =>
      show Q (.bl false) H3
      have := q (.bl (f i j && g j k)) H3 (e2.trans e3) (.bl _)
      rw [hf] at this
      exact this
    | true =>
      show tc σ H3 _
      refine hc H3 ((e.trans e2).trans e3) _ fun z H4 e4 p4 => ⟨j, k, De.int' p3, De.int' p4, ?_⟩
      have := q (.bl (f i j && g j k)) H4 ((e2.trans e3).trans e4) (.bl _)
      rw [hf] at this
      exact this⟩
end

/-! ### isinstance -/
def tyN : PyData → String
  | .none => "NoneType"
  | .bool _ => "bool"
  | .int _ => "int"
  | .str _ => "str"
  | .list _ => "list"
  | .tuple _ => "tuple"
  | .dict _ => "dict"
def isA (x : PyData) (T : String) : Bool := tyN x == T || (tyN x == "bool" && T == "int")
theorem kit_all : ∀ a ∈ ["NoneType", "bool", "int", "list", "tuple"], ∀ T ∈ ["list", "tuple", "int", "bool", "str"], kitB a T = some (a == T || (a == "bool" && T == "int")) := by decide +kernel
theorem de_ty {K : PySem.W.Frag} {G : Hp} {v : V} {x : PyData} (h : De G v x) : TyX K G v (.type (tyN x)) := by
  cases h with
  | non => exact .base .non
  | bl b => exact .base (.bl b)
  | int i => exact .base (.int i)
  | lst h _ => exact .base (.lst h)
  | tup h _ => exact .base (.tup h)
theorem kit_d {K : PySem.W.Frag} {G : Hp} {v : V} {x : PyData} (h : De G v x) {T : String} (hT : T = "list" ∨ T = "tuple" ∨ T = "int" ∨ T = "bool" ∨ T = "str") : PySem.W.kitOne K (.type (tyN x)) (.type T) = some (isA x T) := by
  refine kit_ty (kit_all (tyN x) ?_ T ?_)
  · cases h <;> simp [tyN]
  · rcases hT with rfl | rfl | rfl | rfl | rfl <;> simp
section
variable {σ : L2.St} {B : Hp} {te ta tb : TE} {K : PySem.W.Frag}
theorem ep_isi {x : PyData} {T : String} (ha : EvP ta σ B (is x)) (hT : T = "list" ∨ T = "tuple" ∨ T = "int" ∨ T = "bool" ∨ T = "str") : EvP (tCB (rIsi K) (tCons ta (tCons (tC (.ty T)) tNil))) σ B (is (.bool (isA x T))) :=
  ep_cb (Ps := fun G vs => ∃ v, vs = [v, .ty T] ∧ De G v x) (ea_cons' ha mo_is (Ps := fun _ vs => vs = [.ty T]) (fun G _ => ea_cons' (ep_c (P := fun _ v => v = .ty T) rfl mo_eq) mo_eq (fun _ _ => ea_nil' (P := fun _ vs => vs = []) fun _ _ => rfl) fun G v vs _ p q => by
    have p : v = .ty T := p
    have q : vs = [] := q
    rw [p, q]) fun G v vs _ p q => by
      have q : vs = [.ty T] := q
      rw [q]
      exact ⟨v, rfl, p⟩) fun vs G e p => fun H1 e1 Q q => by
        obtain ⟨v, rfl, p⟩ := p
        exact ⟨v, .ty T, _, _, _, rfl, .ty T, de_ty (p.mono e1), kit_d p hT, q _ H1 (Ex.refl _) (.bl _)⟩
theorem ep_isiT {x : PyData} {T T' : String} (ha : EvP ta σ B (is x)) (hT : T = "list" ∨ T = "tuple" ∨ T = "int" ∨ T = "bool" ∨ T = "str") (hT' : T' = "list" ∨ T' = "tuple" ∨ T' = "int" ∨ T' = "bool" ∨ T' = "str") :
    EvP (tCB (rIsiT K) (tCons ta (tCons (tTup (tCons (tC (.ty T)) (tCons (tC (.ty T')) tNil))) tNil))) σ B (is (.bool (isA x T || isA x T'))) := fun H1 e Q q =>
  ha H1 e _ fun v H2 e2 p => ⟨by show 2 ≤ sizeLine; decide, fun t ht => by
    have p2 : De (upd H2 t (.tup [.ty T, .ty T'])) v x := (p.mono cut_le).mono (Ex.new ht)
    refine ⟨v, t, _, _, [.type T, .type T'], isA x T || isA x T', rfl, upd_same, .cons (.ty T) (.cons (.ty T') .nil), de_ty p2, ?_, q _ _ (e2.trans (Ex.new ht)) (.bl _)⟩
    refine kitAny_cons (kit_d p hT) (fun hb => kitAny_cons (kit_d p hT') (fun hb' => ?_) fun hb' => ?_) fun hb => ?_
    · rw [hb, hb']; rfl
    · rw [hb']; exact Bool.or_true _
    · rw [hb]; rfl⟩
end
end Q
/-! K75R -/
set_option Elab.async false
set_option linter.all false
set_option maxRecDepth 100000
set_option maxHeartbeats 4000000
/-! Rules of our own, at the model: instances with slots (stored by an operator, as a target, len, iter), .. -/
namespace Q
open PySem PySem.Spec PyProof.Rows L2 Evl SlX

/-! ### slots -/
section
variable {X : Cx} {o e value : Expr} {f : Str} {pos pos' tpos : Pos} {ta tv : TE}
/-- e.f op= value -/
def sSlAug (K : PySem.W.Frag) (ta tv : TE) (rd : V → V → Hp → VK → Prop) (f : Str) : TS := fun D σ H => ta σ H fun x H1 => ∃ a C dx p vs i v, x = .ref a ∧ Slt H1 a C dx vs ∧ SCls K C ∧ Slot1 K C f p i ∧ vs[i]? = some (some v) ∧
  tv σ H1 fun y H2 => rd v y H2 fun z H3 => Slt H3 a C dx vs ∧ D.nx σ (slH H3 a C dx (putS i z vs))
theorem ps_slAug {op : Operator} {rd : V → V → Hp → VK → Prop} (ha : PE X o ta) (hv : PE X value tv) (hop : InOp X op rd) : PS X (.AugAssign (.Attribute o f tpos) op value pos) (sSlAug X.K ta tv rd f) := by
  refine ⟨fun pins s σ H D I h => ?_⟩
  refine wpAny_AugAssign_AttributeAny (thn (ha.run pins s σ H _ I h) fun ov s1 hx => ?_)
  obtain ⟨x, H1, I1, rx, a, C, dx, p, vs, i, v, ex, hs, c, t, l, q⟩ := hx
  subst ex
  obtain rfl : ov = Value.ref a := rx
  refine SlX.getslot_ok I1 hs c t l fun u s2 I2 ru => thn (hv.run pins s2 σ H1 _ I2 q) fun w3 s3 hy => ?_
  obtain ⟨y, H2, I3, ry, q3⟩ := hy
  refine thn (hop pins s3 σ H2 v y u w3 _ I3 ru ry q3) fun w4 s4 hz => ?_
  obtain ⟨z, H3, I4, rz, hs', q4⟩ := hz
  exact SlX.setslot_ok I4 hs' c t rz fun s5 I5 => ⟨σ, _, I5, q4⟩
/-- a variable of an instance as a target -/
def gSl (K : PySem.W.Frag) (ta : TE) (f : Str) : TG := fun y σ H Q => ta σ H fun x H1 => ∃ a C dx p vs i, x = .ref a ∧ Slt H1 a C dx vs ∧ SCls K C ∧ Slot1 K C f p i ∧ Q σ (slH H1 a C dx (putS i y vs))
theorem pg_sl (ha : PE X o ta) : PG X (.Attribute o f pos) (gSl X.K ta f) := by
  refine ⟨fun pins s σ H v u Q I r h => ?_⟩
  rw [PySem.assign_Attribute]
  refine wpAny_bind (wpAny_holding (thn (ha.run pins s σ H _ I h) fun ov s1 hx => ?_))
  obtain ⟨x, H1, I1, rx, a, C, dx, p, vs, i, ex, hs, c, t, q⟩ := hx
  subst ex
  obtain rfl : ov = Value.ref a := rx
  refine wpAny_bind (wpAny_standAt (wpAny_bind (wpAny_holding (SlX.setslot_ok I1 hs c t r fun s2 I2 => ?_))))
  exact wpAny_release ⟨σ, _, I2, q⟩
end

/-! ### len(o), o's class has __len__ -/
section
variable {X : Cx} {CX : CXT} {n : Nat} {C g : Addr} {sp : Sp} {E : XK}
def rLenSl (C : Addr) (sp : Sp) (E : XK) : List V → Hp → VK → Prop := fun xs H Q => ∃ a dx vs, xs = [V.ref a] ∧ Slt H a C dx vs ∧ sp [.ref a] H (fun z H' => ∃ i : Int, z = .int i ∧ (0 ≤ i ∧ i < 2 ^ 63) ∧ Q z H') E
theorem call_lenSl (hs : PySem.W.findIn X.K (.ref C) "__len__" = some (some (.ref g))) (hf : PySem.W.isFn X.K (.ref g) = true) (F : FnR X.prog X.w X.K X.mg X.base CX n g sp) (hr : Room (n + 1) X.A) (hx : Passes CX X E) : CallR X (.builtin "len") (rLenSl C sp E) := by
  intro pins s σ H xs us Q I r h
  obtain ⟨a, dx, vs, rfl, hsl, q⟩ := h
  obtain ⟨u, rfl, ru⟩ := vals1 r
  cases (show u = Value.ref a from ru)
  obtain ⟨sl, od, _, J, _⟩ := slt_inst I hsl
  obtain ⟨m, hF⟩ := I.fr
  refine PySem.W.len_K hF I.ok.mod.kin J hs hf (wpAny_mono (wpAny_call (SlX.run_at (us := [.ref a]) (ws := [.ref a]) F hr.in1 I.env0.in1 hx I (.cons rfl .nil) q)) (fun w s' z => ?_) fun _ _ x => x)
  obtain ⟨z', H', I', rz, i, ei, hi, qz⟩ := z
  subst ei
  obtain ⟨t, e⟩ := (show ∃ t, w = Value.int i t from rz)
  cases e
  exact ⟨hi, .int i, H', I'.tok _, ⟨_, rfl⟩, qz⟩
end

/-! ### a def run at one state -/
theorem fn_at {P : Program} {w : World} {K : PySem.W.Frag} {mg : Str → Option Value} {base : Heap} {k : Nat} {d : Df} {f : Addr} {fd : FuncData} {N ps : List Str} (Fd : At K d f fd) (S : FnScope N ps (defScope d.st))
    {A : Around} {outer : List Env} {s : Shared} {H : Hp} {us : List Value} {vs : List V} {Q : VK} (hr : Room (k + 1) A) (e0 : Env0 P w K mg base A outer s H) (hb : BindsTo s fd ⟨us, []⟩ (ps.zip us)) (r : Vals vs us) (hl : vs.length = ps.length)
    (body : ∀ cdv : Value, Room k (A.deeper (envOfC d.ql (defScope d.st) s.heap.objs.size f cdv)) → ∃ t, PSs (cxOf CX0 P w K mg base N d.ql (defScope d.st) f cdv A outer s H E0).nox (defBody d.st) t ∧ t { nx := fun _ H' => Q .non H', rt := Q } (start N vs) H) :
    codeAny (model P w) A (.call (.ref f) ⟨us, []⟩) (CR CX0 outer P w H s Q E0) s := by
  obtain ⟨oc, od, dV, kV, doc, pm, an, cdv, ct, osl, rfl, lk, hcd, _, _⟩ := Fd.ex
  have inK : K.In s.heap := e0.mod.kin.keeps fun b o e => (e0.bs b o e).1
  have kinds : ∀ y ∈ ps.zip us, (defScope d.st).names.lookup y.1 = some .local ∨ ((defScope d.st).names.lookup y.1 = some .cell ∧ ((cellsFrom (s.heap.objs.size + 1) (defScope d.st).names []).lookup y.1).isSome = true) := fun y hy =>
    (S.par y.1 (List.of_mem_zip (show (y.1, y.2) ∈ ps.zip us from hy)).1).elim (fun q => .inl q) fun q => .inr ⟨q, PySem.W.cellsFrom_some _ _ _ (.inl q)⟩
  refine codeAny_call_function hr.depth (inK _ _ lk) rfl S.co S.gen rfl (PySem.W.codeRec_of inK hcd) (hb _ _ _ _ (wpAny_newFunctionEnv_cells S.kind kinds fun env he s1 x => ?_))
  subst he
  refine ⟨(e0.mod.nolimit.keeps fun b o e => (e0.bs b o e).1).keeps x.toInCall.keep, codeAny_func ?_⟩
  obtain ⟨t, ht, hq⟩ := body cdv (hr.deeper _)
  have J := inv_start (CX := CX0) (E := E0) S hr.hd e0 hl r x
  refine wpAny_mono (ht.nox.run [] s1 (start N vs) H _ J hq) (fun fl s' hs => ?_) fun e s' hs => hs
  match fl, hs with
  | .ret u, ⟨v, _, H', J', rv, q⟩ => exact ⟨v, H', J'.os, J'.bare, J'.base, J'.hok, rv, q⟩
  | .next, ⟨_, H', J', q⟩ => exact ⟨V.non, H', J'.os, J'.bare, J'.base, J'.hok, rfl, q⟩
  | .brk, ⟨_, _, _, q⟩ => exact q.elim
  | .cont, ⟨_, _, _, q⟩ => exact q.elim

/-! ### for x in o, o's class has an __iter__ that hands out the iterator of a list of its own -/
/-- the list stands in slot i -/
def IterOk (P : Program) (w : World) (K : PySem.W.Frag) (mg : Str → Option Value) (base : Heap) (k : Nat) (g C : Addr) (i : Nat) : Prop :=
  ∀ (A : Around) (outer : List Env) (s : Shared) (H : Hp) (a dx : Addr) (vs : List (Option V)) (l : Addr) (zs : List V), Room k A → Env0 P w K mg base A outer s H → Slt H a C dx vs → vs[i]? = some (some (.ref l)) → SqL K H l zs →
    codeAny (model P w) A (.call (.ref g) ⟨[.ref a], []⟩) (CR CX0 outer P w H s (fun v H' => ∃ it, s.heap.objs.size ≤ it ∧ v = .ref it ∧ H' = upd H it (ItO l it 0)) E0) s
def iOwn (K : PySem.W.Frag) (C : Addr) (i : Nat) (te : TE) : TI := fun σ H R => te σ H fun x H1 => ∃ a dx vs l zs, x = .ref a ∧ Slt H1 a C dx vs ∧ vs[i]? = some (some (.ref l)) ∧ SqL K H1 l zs ∧ R (Itl K l) H1
theorem pi_own {X : Cx} {tg e : Expr} {te : TE} {k i : Nat} {C g : Addr} (hs : PySem.W.findIn X.K (.ref C) "__iter__" = some (some (.ref g))) (hf : PySem.W.isFn X.K (.ref g) = true) (F : IterOk X.prog X.w X.K X.mg X.base k g C i) (hr : Room k X.A) (he : PE X e te) : PI X tg e (iOwn X.K C i te) := by
  refine ⟨fun pins s σ H R I h => ?_⟩
  refine thn (he.run pins s σ H _ I h) fun v s1 hx => ?_
  obtain ⟨x, H1, I1, rx, a, dx, vs, l, zs, ex, hsl, hv, hz, q⟩ := hx
  subst ex
  obtain rfl : v = Value.ref a := rx
  obtain ⟨sl, od, _, J, _⟩ := slt_inst I1 hsl
  obtain ⟨m, hF⟩ := I1.fr
  refine PySem.W.owit_iter hF I1.ok.mod.kin J hs hf (wpAny_call (codeAny_mono (F X.A X.stack s1 H1 a dx vs l zs hr I1.env0 hsl hv hz) fun r s2 hr2 => ?_))
  match r, hr2 with
  | .error e, hh => exact hh.elim
  | .ok .next, hh => exact hh.elim
  | .ok .brk, hh => exact hh.elim
  | .ok .cont, hh => exact hh.elim
  | .ok (.ret u), hh =>
    obtain ⟨y, H2, I2, ry, it, hit, ey, eH⟩ := I1.after hh
    subst ey
    subst eH
    obtain rfl : u = Value.ref it := ry
    have fr : H1 it = none := I1.hok.fresh hit
    have hit2 : (upd H1 it (ItO l it 0)) it = some (ItO l it 0) := upd_same
    have ob := itO_get I2 hit2
    have hT : s2.TypeIs (.ref it) "list_iterator" := ⟨_, ob, rfl⟩
    show PySem.W.OwitIt _ _ _ _ (.ref it) s2
    unfold PySem.W.OwitIt
    refine wpAny_specialOf (name := Str.ofString "__next__") hT slot_listiter_next.lookup ?_
    have I3 := ItX.inv_drop I2 (show (upd H1 it (ItO l it 0)) it = some (.ext _) from hit2)
    have fp := ItX.inv_fp I2 hit2 (Nat.le_trans I1.sz hit)
    rw [ItX.dropH_upd fr] at I3 fp
    refine ⟨it, [it], _, _, H1, rfl, I3, turn_list (P := X.prog) (w := X.w) (K := X.K) (tg := tg) l it, ⟨_, ob, rfl, rfl⟩, fun b hb => ?_, q⟩
    have e : b = it := by simpa using hb
    rw [e]
    exact fp
end Q
/-! K75R2 -/
set_option Elab.async false
set_option linter.all false
set_option maxRecDepth 100000
set_option maxHeartbeats 4000000
/-! Rules of our own: min, max of pairs; max with a default. -/
namespace Q
open PySem PySem.Spec PyProof.Rows L2 Evl
open PySem.W (minD maxD AlikeAll min_list_data max_list_data max_list_default maxD_ints reads_keeps)
/-- a pair of ints as data -/
def pr (p : Int × Int) : PyData := .tuple [.int p.1, .int p.2]
def prB (p q : Int × Int) : Bool := decide (p.1 < q.1) || (decide (p.1 = q.1) && decide (p.2 < q.2))
theorem prB_iff {p q : Int × Int} : prB p q = true ↔ p.1 < q.1 ∨ (p.1 = q.1 ∧ p.2 < q.2) := by unfold prB; simp
theorem prB_no {p q : Int × Int} : prB p q = false ↔ ¬ (p.1 < q.1 ∨ (p.1 = q.1 ∧ p.2 < q.2)) := by rw [← prB_iff]; simp
theorem pr_lt (p q : Int × Int) : PySem.W.dataLt (pr p) (pr q) = prB p q := by
  unfold PySem.W.dataLt pr prB
  simp only [PySem.W.keyToks, PySem.W.keyToksAll, PyProof.Rows.lexLt, itemOrd, itemLt, List.cons_append, List.nil_append]
  by_cases h1 : p.1 < q.1
  · simp [h1]
  · by_cases h2 : p.1 = q.1
    · simp [h2]
    · have h3 : q.1 < p.1 := by omega
      simp [h1, h2, h3]
theorem pr_inj {p q : Int × Int} (h : pr p = pr q) : p = q := by
  unfold pr at h
  simp only [PyData.tuple.injEq, List.cons.injEq, PyData.int.injEq, and_true] at h
  exact Prod.ext h.1 h.2
theorem pr_alike (p q : Int × Int) : PySem.W.alike (pr p) (pr q) = true := by unfold pr; simp [PySem.W.alike, PySem.W.alikeAll]
theorem prs_alike (l : List (Int × Int)) : AlikeAll (l.map pr) := ⟨fun x hx y hy => by
  obtain ⟨p, _, rfl⟩ := List.mem_map.mp hx
  obtain ⟨q, _, rfl⟩ := List.mem_map.mp hy
  exact pr_alike p q, fun x hx => by
  obtain ⟨p, _, rfl⟩ := List.mem_map.mp hx
  unfold pr
  intro q; cases q⟩
theorem prs_depth : ∀ l : List (Int × Int), PyData.depthAll (l.map pr) ≤ 1
  | [] => by simp [PyData.depthAll]
  | p :: l => by
    have := prs_depth l
    simp only [List.map_cons, PyData.depthAll, pr, PyData.depth]
    omega
theorem prs_lay : ∀ l : List (Int × Int), PyData.canLayAll0 (l.map pr) = true
  | [] => by simp [PyData.canLayAll0]
  | p :: l => by simp [PyData.canLayAll0, PyData.canLay0, pr, prs_lay l]
theorem pr_lay (p : Int × Int) : (pr p).canLay0 = true := by simp [pr, PyData.canLay0, PyData.canLayAll0]
/-- the least, the greatest, by a way to prefer -/
def pick (f : Int × Int → Int × Int → Bool) (p : Int × Int) (l : List (Int × Int)) : Int × Int := l.foldl (fun a y => if f y a then y else a) p
theorem minD_pr : ∀ (l : List (Int × Int)) (p : Int × Int), minD (pr p) (l.map pr) = pr (pick prB p l)
  | [], p => rfl
  | q :: l, p => by
    have ih := minD_pr l (if prB q p then q else p)
    unfold minD pick at ih ⊢
    rw [List.map_cons, List.foldl_cons, List.foldl_cons, ← ih, pr_lt]
    cases prB q p <;> rfl
theorem maxD_pr : ∀ (l : List (Int × Int)) (p : Int × Int), maxD (pr p) (l.map pr) = pr (pick (fun a b => prB b a) p l)
  | [], p => rfl
  | q :: l, p => by
    have ih := maxD_pr l (if prB p q then q else p)
    unfold maxD pick at ih ⊢
    rw [List.map_cons, List.foldl_cons, List.foldl_cons, ← ih, pr_lt]
    cases prB p q <;> rfl
theorem pick_min : ∀ (l : List (Int × Int)) (p : Int × Int), pick prB p l ∈ p :: l ∧ ∀ r ∈ p :: l, prB r (pick prB p l) = false
  | [], p => ⟨by simp [pick], fun r hr => by
    have e : r = p := by simpa using hr
    rw [e, prB_no]
    show ¬ (p.1 < p.1 ∨ (p.1 = p.1 ∧ p.2 < p.2))
    omega⟩
  | q :: l, p => by
    have ih := pick_min l (if prB q p then q else p)
    have e : pick prB p (q :: l) = pick prB (if prB q p then q else p) l := rfl
    rw [e]
    generalize pick prB (if prB q p then q else p) l = z at ih ⊢
    obtain ⟨i1, i2⟩ := ih
    have i3 := i2 _ List.mem_cons_self
    have key : prB p z = false ∧ prB q z = false := by
      rw [prB_no] at i3 ⊢
      rw [prB_no]
      cases h : prB q p with
      | true =>
        rw [h] at i3
        simp only [if_true] at i3
        rw [prB_iff] at h
        omega
      | false =>
        rw [h] at i3
        simp only [Bool.false_eq_true, if_false] at i3
        rw [prB_no] at h
        omega
    refine ⟨?_, fun r hr => ?_⟩
    · rcases List.mem_cons.mp i1 with h | h
      · rw [h]; split <;> simp
      · exact List.mem_cons_of_mem _ (List.mem_cons_of_mem _ h)
    · rcases List.mem_cons.mp hr with h | hr
      · rw [h]; exact key.1
      · rcases List.mem_cons.mp hr with h | hr
        · rw [h]; exact key.2
        · exact i2 r (List.mem_cons_of_mem _ hr)
theorem pick_max : ∀ (l : List (Int × Int)) (p : Int × Int), pick (fun a b => prB b a) p l ∈ p :: l ∧ ∀ r ∈ p :: l, prB (pick (fun a b => prB b a) p l) r = false
  | [], p => ⟨by simp [pick], fun r hr => by
    have e : r = p := by simpa using hr
    rw [e, prB_no]
    show ¬ (p.1 < p.1 ∨ (p.1 = p.1 ∧ p.2 < p.2))
    omega⟩
  | q :: l, p => by
    have ih := pick_max l (if prB p q then q else p)
    have e : pick (fun a b => prB b a) p (q :: l) = pick (fun a b => prB b a) (if prB p q then q else p) l := rfl
    rw [e]
    generalize pick (fun a b => prB b a) (if prB p q then q else p) l = z at ih ⊢
    obtain ⟨i1, i2⟩ := ih
    have i3 := i2 _ List.mem_cons_self
    have key : prB z p = false ∧ prB z q = false := by
      rw [prB_no] at i3 ⊢
      rw [prB_no]
      cases h : prB p q with
      | true =>
        rw [h] at i3
        simp only [if_true] at i3
        rw [prB_iff] at h
        omega
      | false =>
        rw [h] at i3
        simp only [Bool.false_eq_true, if_false] at i3
        rw [prB_no] at h
        omega
    refine ⟨?_, fun r hr => ?_⟩
    · rcases List.mem_cons.mp i1 with h | h
      · rw [h]; split <;> simp
      · exact List.mem_cons_of_mem _ (List.mem_cons_of_mem _ h)
    · rcases List.mem_cons.mp hr with h | hr
      · rw [h]; exact key.1
      · rcases List.mem_cons.mp hr with h | hr
        · rw [h]; exact key.2
        · exact i2 r (List.mem_cons_of_mem _ hr)
section
variable {X : Cx}
/-- an item of a list that reads as data, found again -/
theorem item_back {pins : List (Addr × Obj)} {σ : L2.St} {H : Hp} {s : Shared} {h' : Heap} {tk : Nat} {xs : List V} {its : List Value} {ds : List PyData} {i : Nat} {v : Value} {d : PyData} {bs : List Addr} {Q : VK} (I : Inv X pins σ H s) (hd : DeA H xs ds) (rv : Vals xs its) (hv : its.toArray[i]? = some v)
    (hl : PyData.canLayAll0 ds = true) (hc : d.canLay0 = true) (r : Reads h' v d bs) (k : ∀ b o, s.heap.get? b = some o → h'.get? b = some o) (q : ∀ v (j : Nat), xs[j]? = some v → ds[j]? = some d → Q v H) : EP X pins σ Q v { s with heap := h', toks := tk } := by
  have hv' : its[i]? = some v := by simpa using hv
  have hi : i < xs.length := by
    rw [rv.length]
    exact (List.getElem?_eq_some_iff.mp hv').1
  obtain ⟨u, hu, ru⟩ := rv.get (List.getElem?_eq_getElem hi)
  rw [hv'] at hu
  cases hu
  obtain ⟨e, he, de⟩ := hd.of (List.getElem?_eq_getElem hi)
  obtain ⟨as, re⟩ := Dp.reads I e _ v (De.dp de) ru
  have lay : ∀ (l : List PyData) (j : Nat) (x : PyData), PyData.canLayAll0 l = true → l[j]? = some x → x.canLay0 = true := fun l => by
    induction l with
    | nil => intro j x _ h; simp at h
    | cons a l ih =>
      intro j x h1 h2
      simp only [PyData.canLayAll0, Bool.and_eq_true] at h1
      cases j with
      | zero => simp at h2; rw [← h2]; exact h1.1
      | succ j => exact ih j x h1.2 (by simpa using h2)
  have e1 : e = d := by
    have a1 := SeqAt.readOf_eq (lay ds i e hl he) (reads_keeps k re)
    have a2 := SeqAt.readOf_eq hc r
    rw [← a1, a2]
  rw [e1] at he
  exact ⟨_, H, I.kept k, ru, q _ i (List.getElem?_eq_getElem hi) he⟩
def rMinP : List V → Hp → VK → Prop := fun vs H Q => ∃ (a : Addr) (xs : List V) (p : Int × Int) (l : List (Int × Int)), vs = [.ref a] ∧ H a = some (.lst xs) ∧ DeA H xs ((p :: l).map pr) ∧ ∀ v q (j : Nat), xs[j]? = some v → ((p :: l).map pr)[j]? = some (pr q) → q ∈ p :: l → (∀ r ∈ p :: l, prB r q = false) → Q v H
def rMaxP : List V → Hp → VK → Prop := fun vs H Q => ∃ (a : Addr) (xs : List V) (p : Int × Int) (l : List (Int × Int)), vs = [.ref a] ∧ H a = some (.lst xs) ∧ DeA H xs ((p :: l).map pr) ∧ ∀ v q (j : Nat), xs[j]? = some v → ((p :: l).map pr)[j]? = some (pr q) → q ∈ p :: l → (∀ r ∈ p :: l, prB q r = false) → Q v H
theorem call_minP (hc : X.calm = true) (hu : X.A.units + 64 < cLine) : CallR X (.builtin "min") rMinP := by
  intro pins s σ H xs us Q I r h
  obtain ⟨a, zs, p, l, rfl, ha, hd, q⟩ := h
  obtain ⟨u, rfl, ru⟩ := vals1 r
  cases (show u = Value.ref a from ru)
  obtain ⟨its, rv, pl, hz⟩ := I.list (show SqL X.K H a _ from sq_of ha)
  obtain ⟨as, hr⟩ := Dp.readsAll I _ zs its (DeA.dp hd) rv
  have hdep := prs_depth (p :: l)
  refine min_list_data (I.ok.hd hc) pl.isList hr (prs_alike (p :: l)) (by rw [List.map_cons] at hdep; omega) fun i v h' tk bs hv rd k => ?_
  rw [minD_pr] at rd
  obtain ⟨m1, m2⟩ := pick_min l p
  exact item_back I hd rv hv (prs_lay _) (pr_lay _) rd k fun v j h1 h2 => q v _ j h1 h2 m1 m2
theorem call_maxP (hc : X.calm = true) (hu : X.A.units + 64 < cLine) : CallR X (.builtin "max") rMaxP := by
  intro pins s σ H xs us Q I r h
  obtain ⟨a, zs, p, l, rfl, ha, hd, q⟩ := h
  obtain ⟨u, rfl, ru⟩ := vals1 r
  cases (show u = Value.ref a from ru)
  obtain ⟨its, rv, pl, hz⟩ := I.list (show SqL X.K H a _ from sq_of ha)
  obtain ⟨as, hr⟩ := Dp.readsAll I _ zs its (DeA.dp hd) rv
  have hdep := prs_depth (p :: l)
  refine max_list_data (I.ok.hd hc) pl.isList hr (prs_alike (p :: l)) (by rw [List.map_cons] at hdep; omega) fun i v h' tk bs hv rd k => ?_
  rw [maxD_pr] at rd
  obtain ⟨m1, m2⟩ := pick_max l p
  exact item_back I hd rv hv (prs_lay _) (pr_lay _) rd k fun v j h1 h2 => q v _ j h1 h2 m1 m2
/-- max(ints, default=d) -/
def rMaxDf : List V → List V → Hp → VK → Prop := fun vs zs H Q => ∃ (a : Addr) (ns : List Int) (d : Int), vs = [.ref a] ∧ zs = [.int d] ∧ H a = some (.lst (ns.map V.int)) ∧ ∀ m, (ns = [] → m = d) → (ns ≠ [] → m ∈ ns ∧ ∀ y ∈ ns, y ≤ m) → Q (.int m) H
theorem ints_alike (l : List Int) : AlikeAll (l.map PyData.int) := ⟨fun x hx y hy => by
  obtain ⟨p, _, rfl⟩ := List.mem_map.mp hx
  obtain ⟨q, _, rfl⟩ := List.mem_map.mp hy
  simp [PySem.W.alike], fun x hx => by
  obtain ⟨p, _, rfl⟩ := List.mem_map.mp hx
  intro q; cases q⟩
theorem ints_depth : ∀ l : List Int, PyData.depthAll (l.map PyData.int) ≤ 1
  | [] => by simp [PyData.depthAll]
  | p :: l => by
    have := ints_depth l
    simp only [List.map_cons, PyData.depthAll, PyData.depth]
    omega
theorem ints_lay : ∀ l : List Int, PyData.canLayAll0 (l.map PyData.int) = true
  | [] => by simp [PyData.canLayAll0]
  | p :: l => by simp [PyData.canLayAll0, PyData.canLay0, ints_lay l]
theorem fold_max : ∀ (l : List Int) (n : Int), l.foldl max n ∈ n :: l ∧ ∀ y ∈ n :: l, y ≤ l.foldl max n
  | [], n => ⟨by simp, fun y hy => by
    have e : y = n := by simpa using hy
    rw [e]; exact Int.le_refl _⟩
  | m :: l, n => by
    obtain ⟨h1, h2⟩ := fold_max l (max n m)
    show l.foldl max (max n m) ∈ _ ∧ _
    refine ⟨?_, fun y hy => ?_⟩
    · rcases List.mem_cons.mp h1 with h | h
      · rw [h]
        by_cases q : n ≤ m
        · rw [show max n m = m by omega]; simp
        · rw [show max n m = n by omega]; simp
      · exact List.mem_cons_of_mem _ (List.mem_cons_of_mem _ h)
    · have h3 := h2 _ List.mem_cons_self
      rcases List.mem_cons.mp hy with h | hy
      · show y ≤ l.foldl max (max n m); omega
      · rcases List.mem_cons.mp hy with h | hy
        · show y ≤ l.foldl max (max n m); omega
        · exact h2 y (List.mem_cons_of_mem _ hy)
theorem call_maxDf (hc : X.calm = true) (hu : X.A.units + 64 < cLine) : CallRK X (.builtin "max") ["default"] rMaxDf := by
  intro pins s σ H xs zs us ws Q I r r2 h
  obtain ⟨a, ns, d, rfl, rfl, ha, q⟩ := h
  obtain ⟨u, rfl, ru⟩ := vals1 r
  cases (show u = Value.ref a from ru)
  obtain ⟨u2, rfl, t, rfl⟩ := vals1 r2
  obtain ⟨its, rv, pl, hz⟩ := I.list (show SqL X.K H a _ from sq_of ha)
  have hd : DeA H (ns.map V.int) (ns.map PyData.int) := DeA.ints ns
  obtain ⟨as, hr⟩ := Dp.readsAll I _ _ its (DeA.dp hd) rv
  have hdep := ints_depth ns
  refine max_list_default (I.ok.hd hc) pl.isList hr (ints_alike ns) (by omega) (fun e h' tk k => ?_) fun y ys i v h' tk bs e hv rd k => ?_
  · have e : ns = [] := by simpa using e
    exact ⟨.int d, H, I.kept k, ⟨t, rfl⟩, q d (fun _ => rfl) fun z => absurd e z⟩
  · cases ns with
    | nil => cases e
    | cons n ns =>
      have e1 : y = .int n ∧ ys = ns.map .int := by simpa using e.symm
      obtain ⟨e1, e2⟩ := e1
      rw [e1, e2, maxD_ints] at rd
      obtain ⟨m1, m2⟩ := fold_max ns n
      refine item_back I hd rv hv (ints_lay _) rfl rd k fun v j h1 h2 => ?_
      have dv : De H v (.int (ns.foldl max n)) := by
        obtain ⟨d, h3, h4⟩ := hd.of h1
        rw [h2] at h3
        cases h3
        exact h4
      rw [De.int' dv]
      exact q _ (fun z => by cases z) fun _ => ⟨m1, m2⟩
end
end Q
/-! K75D1 -/
set_option Elab.async false
set_option linter.all false
set_option maxRecDepth 100000
set_option maxHeartbeats 4000000
namespace Q
open PySem PySem.Spec PyProof.Rows L2 Evl
open M (Ln Fr)
theorem pe_no {X : Cx} {e : Expr} : PE X e (fun _ _ _ => False) := ⟨fun _ _ _ _ _ _ h => h.elim⟩
/-- the built-ins are still what they were -/
structure Bt (mg : Str → Option Value) : Prop where
  len : mg "len" = none
  max : mg "max" = none
  range : mg "range" = none
  isinstance : mg "isinstance" = none
  list : mg "list" = none
  tuple : mg "tuple" = none
  min : mg "min" = none
  sorted : mg "sorted" = none
  enumerate : mg "enumerate" = none
  iter : mg "iter" = none
  any : mg "any" = none
  all : mg "all" = none
  abs : mg "abs" = none
  int : mg "int" = none
  set : mg "set" = none
  sum : mg "sum" = none
  zip : mg "zip" = none
  bool : mg "bool" = none
  str : mg "str" = none
/-! ### rules with K named, for blocks -/
section
variable (K : PySem.W.Frag) {X : Cx} {ta tb tl : TE} {tg l a b : Expr} {pos : Pos}
theorem kLen (h : X.K = K := by rfl) : CallR X (.builtin "len") (fun xs H Q => ∃ p ys, xs = [.ref p] ∧ (SqL K H p ys ∨ SqT K H p ys) ∧ Q (.int ys.length) H) := by subst h; exact call_len_seq
theorem kTup (hl : PE X l tl) (h : X.K = K := by rfl) : PI X tg l (iTup K tl) := by subst h; exact pi_tup hl
theorem kLst (hl : PE X l tl) (h : X.K = K := by rfl) : PI X tg l (iList K tl) := by subst h; exact pi_list hl
theorem kIxT (ha : PE X a ta) (hb : PE X b tb) (hs : PlainIx b := by intro _ _; rfl) (h : X.K = K := by rfl) : PE X (.Subscript a b pos) (tOp (rIxT K) ta tb) := by subst h; exact pe_ix ix_tup ha hb hs
theorem kIxL (ha : PE X a ta) (hb : PE X b tb) (hs : PlainIx b := by intro _ _; rfl) (h : X.K = K := by rfl) : PE X (.Subscript a b pos) (tOp (rIxL K) ta tb) := by subst h; exact pe_ix ix_list ha hb hs
theorem kIn (h : X.K = K := by rfl) : OpR X (compareOp .In) (rIn K false) := by subst h; exact op_in_seq
theorem kNin (h : X.K = K := by rfl) : OpR X (compareOp .NotIn) (rIn K true) := by subst h; exact op_notIn_seq
theorem kSl {f : Str} (he : PE X a ta) (hb : attributeBase a f X.env (eval a X.env) = eval a X.env := by rfl) (h : X.K = K := by rfl) : PE X (.Attribute a f pos) (SlX.tSl K ta f) := by subst h; exact SlX.pe_sl he hb
theorem kAny (hc : X.calm = true := by rfl) (h : X.K = K := by rfl) : CallR X (.builtin "any") (rAny K) := by subst h; exact cr_any hc
theorem kAll (hc : X.calm = true := by rfl) (h : X.K = K := by rfl) : CallR X (.builtin "all") (rAll K) := by subst h; exact cr_all hc
end
/-! ### data of this program -/
abbrev dI (ns : List Int) : PyData := .list (ns.map .int)
def nt (n : Nat) : PyData := .int n
abbrev dN (ns : List Nat) : PyData := .list (ns.map nt)
def dl (ls : List Ln) : PyData := .tuple (ls.map pr)
def dk : Option Int → PyData
  | none => .none
  | some i => .int i
def dn : Option Nat → PyData
  | none => .none
  | some i => .int i
def dfar (f : Fr) : PyData := .tuple [dk f.1, .tuple (f.2.map .int)]
section
variable {σ : L2.St} {B : Hp}
/-- a comprehension without a test -/
theorem ep_lcm {α : Type} {wi : TI} {g : TG} {te : TE} {vs : List Nat} {l : List α} {ι : α → PyData} (w : α → PyData) (hw : EvI wi σ B (l.map ι)) (hl : l.length ≤ 40000)
    (ht : ∀ (a : α) G, a ∈ l → Ex B G → TgP g (ι a) (wipe σ vs) G fun σ2 => wipe σ2 vs = wipe σ vs ∧ EvP te σ2 G (is (w a))) :
    EvP (tLc wi g tYes te vs) σ B (is (.list (l.map w))) := by
  have e := ep_lc (tt := tYes) (te := te) (vs := vs) (fun _ => true) w hw hl fun a G ha eG v hv H1 e1 Q q => ht a G ha eG v hv H1 e1 Q fun σ2 ⟨m1, m2⟩ => q σ2 ⟨m1, fun H1 _ Q q => q H1 (Ex.refl _), fun _ => m2⟩
  rw [List.filter_eq_self.mpr (by intro _ _; rfl)] at e
  exact e
/-- .. that keeps items -/
theorem ep_yes {b : Bool} (h : b = true) : EvT tYes σ B b := fun H1 e Q q => by
  rw [h] at q
  exact q H1 (Ex.refl _)
end
def ends (ls : List Ln) : List Int := ls.map (·.2)
def leI (ns : List Int) (m : Int) : Prop := (ns = [] → m = 0) ∧ (ns ≠ [] → m ∈ ns ∧ ∀ y ∈ ns, y ≤ m)
theorem leI_uniq {ns : List Int} {m n : Int} (h1 : leI ns m) (h2 : leI ns n) : m = n := by
  by_cases q : ns = []
  · rw [h1.1 q, h2.1 q]
  · obtain ⟨a1, a2⟩ := h1.2 q
    obtain ⟨b1, b2⟩ := h2.2 q
    have := a2 _ b1
    have := b2 _ a1
    omega
def maxI (ns : List Int) : Int := match ns with
  | [] => 0
  | n :: r => r.foldl max n
theorem maxI_ok (ns : List Int) : leI ns (maxI ns) := by
  unfold leI maxI
  cases ns with
  | nil => exact ⟨fun _ => rfl, fun q => absurd rfl q⟩
  | cons n r => exact ⟨(fun q => by cases q), fun _ => fold_max r n⟩
abbrev lastE (ls : List Ln) : Int := maxI (ends ls)
theorem ep_maxDf {σ : L2.St} {B : Hp} {ta : TE} {ns : List Int} (ha : EvP ta σ B (is (dI ns))) : EvP (tCKw rMaxDf (tCons ta tNil) (tCons (tC (.int 0)) tNil)) σ B (is (.int (maxI ns))) := fun H1 e1 Q q =>
  (da_cons ha da_nil) H1 e1 _ fun vs H2 e2 p => (da_cons ep_int da_nil : EvA' _ _ B _) H2 (e1.trans e2) _ fun zs H3 e3 p3 => by
    cases p with
    | cons p1 p2 =>
    cases p2
    cases p3 with
    | cons p4 p5 =>
    cases p5
    obtain ⟨b, xs, rfl, h1, h2⟩ := De.lst' p1
    rw [h2.ints'] at h1
    refine ⟨b, ns, 0, rfl, by rw [De.int' p4], e3 _ _ (cut_le _ _ h1), fun m m1 m2 => q _ H3 (e2.trans e3) ?_⟩
    rw [leI_uniq ⟨m1, m2⟩ (maxI_ok ns)]
    exact .int _
section
variable {σ : L2.St} {B : Hp} {ta tb tc : TE} {i j k : Int}
theorem ep_lt (ha : EvP ta σ B (is (.int i))) (hb : EvP tb σ B (is (.int j))) : EvP (tOp (rI0 fun i j => .bl (decide (i < j))) ta tb) σ B (is (.bool (decide (i < j)))) := ep_cmp (f := fun i j => decide (i < j)) ha hb
theorem ep_le (ha : EvP ta σ B (is (.int i))) (hb : EvP tb σ B (is (.int j))) : EvP (tOp (rI0 fun i j => .bl (decide (i ≤ j))) ta tb) σ B (is (.bool (decide (i ≤ j)))) := ep_cmp (f := fun i j => decide (i ≤ j)) ha hb
theorem ep_gt (ha : EvP ta σ B (is (.int i))) (hb : EvP tb σ B (is (.int j))) : EvP (tOp (rI0 fun i j => .bl (decide (j < i))) ta tb) σ B (is (.bool (decide (j < i)))) := ep_cmp (f := fun i j => decide (j < i)) ha hb
theorem ep_ge (ha : EvP ta σ B (is (.int i))) (hb : EvP tb σ B (is (.int j))) : EvP (tOp (rI0 fun i j => .bl (decide (j ≤ i))) ta tb) σ B (is (.bool (decide (j ≤ i)))) := ep_cmp (f := fun i j => decide (j ≤ i)) ha hb
theorem ep_LeLt (ha : EvP ta σ B (is (.int i))) (hb : EvP tb σ B (is (.int j))) (hc : EvP tc σ B (is (.int k))) : EvP (tChain (rI0 fun i j => .bl (decide (i ≤ j))) (rI0 fun i j => .bl (decide (i < j))) ta tb tc) σ B (is (.bool (decide (i ≤ j) && decide (j < k)))) := ep_chain (f := fun i j => decide (i ≤ j)) (g := fun i j => decide (i < j)) ha hb hc
theorem ep_LtLe (ha : EvP ta σ B (is (.int i))) (hb : EvP tb σ B (is (.int j))) (hc : EvP tc σ B (is (.int k))) : EvP (tChain (rI0 fun i j => .bl (decide (i < j))) (rI0 fun i j => .bl (decide (i ≤ j))) ta tb tc) σ B (is (.bool (decide (i < j) && decide (j ≤ k)))) := ep_chain (f := fun i j => decide (i < j)) (g := fun i j => decide (i ≤ j)) ha hb hc
theorem ep_LeLe (ha : EvP ta σ B (is (.int i))) (hb : EvP tb σ B (is (.int j))) (hc : EvP tc σ B (is (.int k))) : EvP (tChain (rI0 fun i j => .bl (decide (i ≤ j))) (rI0 fun i j => .bl (decide (i ≤ j))) ta tb tc) σ B (is (.bool (decide (i ≤ j) && decide (j ≤ k)))) := ep_chain (f := fun i j => decide (i ≤ j)) (g := fun i j => decide (i ≤ j)) ha hb hc
end
section
variable {P : Program} {w : World} {K : PySem.W.Frag} {mg : Str → Option Value} {base : Heap}
/-- a def of the top, called by its name -/
theorem cal {d : Df} {f : Addr} {fd : FuncData} {ps : List Str} {k : Nat} {sp : Sp} (F : At K d f fd) (h : FnOk P w K mg base CX0 k f fd ps sp) (hm : mg d.nm = some (.ref f)) (hb : Binds K fd ps []) : C8.Cal P w K mg base k d.nm sp [] :=
  ⟨f, fd, ps, [], h, hm, F.kp, hb, .nil⟩

/-! ### tupled -/
def flat : Nat → PyData → Bool
  | _, .none => true
  | _, .int _ => true
  | n + 1, .tuple ds => ds.all (flat n) && decide (ds.length ≤ 1000)
  | _, _ => false
def spTupled (n : Nat) : Sp := spF (ι := PyData) (fun d B vs => flat n d = true ∧ ∃ v, vs = [v] ∧ De B v d) is
abbrev dTupled (a : Fg → Addr) : Df := ⟨a, "tupled", "tupled", sTupled, []⟩
theorem scTupled : FnScope ["thing", "part"] ["thing"] (defScope sTupled) := ⟨rfl, rfl, rfl, by decide +kernel, rfl, by decide +kernel, by decide +kernel⟩
theorem ok_tupled {a : Fg → Addr} {f : Addr} {fd : FuncData} (F : At K (dTupled a) f fd) (T : Bt mg) (hm : mg "tupled" = some (.ref f)) : ∀ n : Nat, FnOk P w K mg base CX0 (n + 1) f fd ["thing"] (spTupled n)
  | 0 => by
    refine fok F scTupled (fun i B vs h => by obtain ⟨_, v, rfl, _⟩ := h; rfl) fun cdv A' outer s H E hr => ?_
    refine ⟨_, pss_one (ps_ret (pe_ifExp (pt_val (pe_callB call_isiT (by rfl) T.isinstance (by decide +kernel) (pa_cons (pv 0) (pa_cons (pe_tup (pa_cons (pe_bltn (v := .ty "list") (by rfl) T.list (by decide +kernel) rfl) (pa_cons (pe_bltn (v := .ty "tuple") (by rfl) T.tuple (by decide +kernel) rfl) pa_nil))) pa_nil)))) pe_no (pv 0))), fun d B vs h => ?_⟩
    obtain ⟨hf, v, rfl, hv⟩ := h
    refine st_ret (ep_if mo_is (et_B' (ep_isiT (ep_d rfl hv) (.inl rfl) (.inr (.inl rfl)))) (fun hb => ?_) fun hb => ep_d rfl hv)
    exfalso
    cases d <;> simp [flat, isA, tyN] at hf hb
  | n + 1 => by
    have ih := ok_tupled F T hm n
    have hb : Binds K fd ["thing"] [] := F.bindsN fun _ _ _ _ _ _ us hl => match us, hl with | [_], _ => rfl
    have C := cal F ih hm hb
    refine fok F scTupled (fun i B vs h => by obtain ⟨_, v, rfl, _⟩ := h; rfl) fun cdv A' outer s H E hr => ?_
    refine ⟨_, pss_one (ps_ret (pe_ifExp (pt_val (pe_callB call_isiT (by rfl) T.isinstance (by decide +kernel) (pa_cons (pv 0) (pa_cons (pe_tup (pa_cons (pe_bltn (v := .ty "list") (by rfl) T.list (by decide +kernel) rfl) (pa_cons (pe_bltn (v := .ty "tuple") (by rfl) T.tuple (by decide +kernel) rfl) pa_nil))) pa_nil))))
      (pe_callTy call_tuple_of (by rfl) T.tuple (by decide +kernel) (pa_cons (pe_lc (own := [("part", 1)]) (g := gName 1) (tt := tYes) rfl scTupled.nd (pi_tup (pv 0)) (blkOk_by (N := ["thing", "part"]) (sc := defScope sTupled) (by decide +kernel))
        (fun _ _ _ _ _ => pg_name (i := 1) scTupled.nd rfl (Or.inl rfl)) (fun _ _ _ _ _ => pts_nil) (fun _ _ _ _ _ => C8.pe_c C hr (Nat.le_refl _) (by rfl) (pa_cons (pv 1) pa_nil))) pa_nil)) (pv 0))), fun d B vs h => ?_⟩
    obtain ⟨hf, v, rfl, hv⟩ := h
    refine st_ret (ep_if mo_is (et_B' (ep_isiT (ep_d rfl hv) (.inl rfl) (.inr (.inl rfl)))) (fun hb => ?_) fun hb => ep_d rfl hv)
    cases d <;> first | (exfalso; simp [flat, isA, tyN] at hf hb; done) | skip
    rename_i ds
    rw [flat, Bool.and_eq_true, decide_eq_true_eq] at hf
    have hall : ∀ x ∈ ds, flat n x = true := List.all_eq_true.mp hf.1
    have e := ep_lcm (B := B) (σ := start ["thing", "part"] [v]) (wi := iTup K (tVar 0)) (g := gName 1) (te := tCall (spTupled n) [] E0 (tCons (tVar 1) tNil)) (vs := [1]) (l := ds) (ι := id) id (wi_tup (by rw [List.map_id]; exact ep_d rfl hv)) (by omega) ?_
    · have e2 := ep_tupleOf (K := K) e
      rw [List.map_id] at e2
      exact e2
    · intro x G hx eG
      refine tg_name fun v hv => ⟨rfl, ?_⟩
      exact ep_call (ι := PyData) x (da_cons (ep_d rfl hv) da_nil) fun G' vs e' p => ⟨hall x hx, by
        cases p with
        | cons p1 p2 =>
          cases p2
          exact ⟨_, rfl, p1⟩⟩

/-! ### last_end, counts -/
def spLastEnd : Sp := spF (ι := List Ln) (fun ls B vs => ls.length ≤ 1000 ∧ ∃ v, vs = [v] ∧ De B v (dl ls)) fun ls => is (.int (lastE ls))
abbrev dLastEnd (a : Fg → Addr) : Df := ⟨a, "last_end", "last_end", sLastEnd, []⟩
theorem scLastEnd : FnScope ["loans", "begin", "end"] ["loans"] (defScope sLastEnd) := ⟨rfl, rfl, rfl, by decide +kernel, rfl, by decide +kernel, by decide +kernel⟩
/-- the loans as they are walked -/
theorem tg_pr {K : PySem.W.Frag} {σ : L2.St} {G : Hp} {i j : Nat} {l : Ln} {M : L2.St → Prop} (h : M ((σ.set i (some (.int l.1))).set j (some (.int l.2)))) : TgP (gTup K 2 (gCons (gName i) (gCons (gName j) gNil))) (pr l) σ G M :=
  tg_pair fun x y dx dy => by
    rw [De.int' dx, De.int' dy]
    exact h
theorem ok_last_end {a : Fg → Addr} {f : Addr} {fd : FuncData} (F : At K (dLastEnd a) f fd) (T : Bt mg) : FnOk P w K mg base CX0 1 f fd ["loans"] spLastEnd := by
  refine fok F scLastEnd (fun i B vs h => by obtain ⟨_, v, rfl, _⟩ := h; rfl) fun cdv A' outer s H E hr => ?_
  refine ⟨_, pss_one (ps_ret (pe_callBK (call_maxDf rfl hr.units) (by rfl) T.max (by decide +kernel) (pa_cons ((pe_lc (own := [("begin", 1), ("end", 2)]) (g := (gTup K 2 (gCons (gName 1) (gCons (gName 2) gNil)))) (tt := tYes) rfl scLastEnd.nd (pi_tup (pv 0)) (blkOk_by (N := ["loans", "begin", "end"]) (sc := defScope sLastEnd) (by decide +kernel)) (fun _ _ _ _ _ => pg_tup (n := 2) rfl (pgs_cons (pg_name (i := 1) scLastEnd.nd rfl (by first | exact Or.inl rfl | exact Or.inr rfl)) (pgs_cons (pg_name (i := 2) scLastEnd.nd rfl (by first | exact Or.inl rfl | exact Or.inr rfl)) pgs_nil))) (fun _ _ _ _ _ => pts_nil) (fun _ _ _ _ _ => (pv 2)))) pa_nil) (pk_cons pe_int pk_nil))), fun ls B vs h => ?_⟩
  obtain ⟨hl, v, rfl, hv⟩ := h
  have e := ep_lcm (B := B) (σ := start ["loans", "begin", "end"] [v]) (wi := iTup K (tVar 0)) (g := (gTup K 2 (gCons (gName 1) (gCons (gName 2) gNil)))) (te := (tVar 2)) (vs := [1, 2]) (l := ls) (ι := pr) (fun l => .int l.2) (wi_tup (ep_d rfl hv)) (by omega) fun l G _ _ => tg_pr ⟨rfl, ep_d rfl (.int _)⟩
  refine st_ret ?_
  exact ep_maxDf (ns := ends ls) (by
    have h : (ends ls).map PyData.int = ls.map fun l => .int l.2 := by
      unfold ends
      rw [List.map_map]
      rfl
    unfold dI
    rw [h]
    exact e)
abbrev dCounts (a : Fg → Addr) : Df := ⟨a, "counts", "counts", sCounts, []⟩
theorem scCounts : FnScope ["loans", "beat", "begin", "end"] ["loans"] (defScope sCounts) := ⟨rfl, rfl, rfl, by decide +kernel, rfl, by decide +kernel, by decide +kernel⟩
def spCounts : Sp := spF (ι := List Ln) (fun ls B vs => ls.length ≤ 1000 ∧ (0 ≤ lastE ls ∧ lastE ls ≤ 1000) ∧ ∃ v, vs = [v] ∧ De B v (dl ls)) fun ls => is (dN ((List.range (lastE ls).toNat).map fun b : Nat => M.cnt ls b))
theorem ok_counts {a : Fg → Addr} {f : Addr} {fd : FuncData} (F : At K (dCounts a) f fd) (T : Bt mg) (C : C8.Cal P w K mg base 1 "last_end" spLastEnd []) : FnOk P w K mg base CX0 2 f fd ["loans"] spCounts := by
  refine fok F scCounts (fun i B vs h => by obtain ⟨_, _, v, rfl, _⟩ := h; rfl) fun cdv A' outer s H E hr => ?_
  refine ⟨_, pss_one (ps_ret ((pe_lc (own := [("beat", 1)]) (g := gName 1) (tt := tYes) rfl scCounts.nd (pi_range1 (by rfl) T.range (pa_cons ((C8.pe_c C hr (Nat.le_refl _) (by rfl) (pa_cons ((pv 0)) pa_nil))) pa_nil)) (blkOk_by (N := ["loans", "beat", "begin", "end"]) (sc := defScope sCounts) (by decide +kernel)) (fun _ _ _ _ _ => pg_name (i := 1) scCounts.nd rfl (by first | exact Or.inl rfl | exact Or.inr rfl)) (fun _ _ _ _ _ => pts_nil) (fun _ _ _ _ _ => (pe_callB (kLen K) (by rfl) T.len (by decide +kernel) (pa_cons ((pe_lc (own := [("begin", 2), ("end", 3)]) (g := (gTup K 2 (gCons (gName 2) (gCons (gName 3) gNil)))) rfl scCounts.nd (kTup K (pv 0)) (blkOk_by (by kernel_rfl)) (fun _ _ _ _ _ => pg_tup (n := 2) rfl (pgs_cons (pg_name (i := 2) scCounts.nd rfl (by first | exact Or.inl rfl | exact Or.inr rfl)) (pgs_cons (pg_name (i := 3) scCounts.nd rfl (by first | exact Or.inl rfl | exact Or.inr rfl)) pgs_nil))) (fun _ _ _ _ _ => pts_one (pt_chain op_le op_lt (pv 2) (pv 1) (pv 3))) (fun _ _ _ _ _ => pe_int))) pa_nil)))))), fun ls B vs h => ?_⟩
  obtain ⟨hl, hb, v, rfl, hv⟩ := h
  refine st_ret ?_
  unfold dN
  rw [List.map_map]
  refine ep_lcm (l := List.range (lastE ls).toNat) (ι := fun i => .int (i : Nat)) (nt ∘ fun b : Nat => M.cnt ls b) (wi_range (da_cons (d := .int ((lastE ls).toNat : Nat)) ?_ da_nil) (by omega)) (by simp; omega) fun b G _ eG => ?_
  · rw [Int.toNat_of_nonneg hb.1]
    exact ep_call (ι := List Ln) ls (da_cons (ep_d rfl hv) da_nil) fun G vs e p => ⟨hl, by
      cases p with
      | cons p1 p2 =>
        cases p2
        exact ⟨_, rfl, p1⟩⟩
  · refine tg_name fun x hx => ⟨rfl, ?_⟩
    rw [De.int' hx]
    have hc : M.cnt ls b = ((ls.filter fun l => decide (l.1 ≤ (b : Int)) && decide ((b : Int) < l.2)).map fun _ => PyData.int 1).length := by rw [List.length_map]; rfl
    show EvP _ _ _ (is (.int (M.cnt ls b : Nat)))
    rw [hc]
    exact ep_lenL (K := K) (ep_lc (l := ls) (ι := pr) (fun l => decide (l.1 ≤ (b : Int)) && decide ((b : Int) < l.2)) (fun _ => .int 1)
      (wi_tup (ep_d rfl (hv.mono eG))) (by omega) fun l G _ _ => tg_pr ⟨rfl, et_test' (ep_LeLt (ep_d rfl (.int _)) (ep_d rfl (.int _)) (ep_d rfl (.int _))), fun _ => ep_int⟩)
end
end Q
/-! K75D2 -/
set_option Elab.async false
set_option linter.all false
set_option maxRecDepth 100000
set_option maxHeartbeats 4000000
/-! Links: its small methods. -/
namespace Q
open PySem PySem.Spec PyProof.Rows L2 Evl SlX
open M (Ln Fr)
/-! ### methods of a class with slots -/
structure MR (P : Program) (w : World) (K : PySem.W.Frag) (mg : Str → Option Value) (base : Heap) (k : Nat) (C : Addr) (m : Str) (sp : Sp) : Prop where
  ex : ∃ g : Addr, SCls K C ∧ Meth K C m g ∧ FnR P w K mg base CX0 k g sp
section
variable {X : Cx} {k j : Nat} {C : Addr} {m : Str} {sp : Sp} {pos apos : Pos} {e o : Expr} {es : List Expr} {ta : TE} {t : TA}
theorem pe_m {pl : Sem Bool} (c : MR X.prog X.w X.K X.mg X.base k C m sp) (hr : Room j X.A) (hk : k ≤ j) (he : PE X o ta) (ha : PA X (e :: es) t)
    (hst : starEach (e :: es) X.env = (false, eval e X.env) :: starEach es X.env := by rfl) (hpl : (backTo pos (starEach es X.env)).any (·.1) = false := by rfl)
    (ht : eval (.Call (.Attribute o m apos) (e :: es) [] pos) X.env = (do
      let ov ← eval o X.env
      standAt apos.atName
      let (f, first) ← holding [ov] (getMethod ov m pl)
      callWith pos f first (backTo pos (starEach (e :: es) X.env)) (backToKw pos (keywordEach [] X.env))) := by rfl) :
    PE X (.Call (.Attribute o m apos) (e :: es) [] pos) (tMethSl C sp E0 ta t) := by
  obtain ⟨g, hc, hm, F⟩ := c.ex
  exact pe_methSl (pl := pl) he hc hm F (hr.mono hk) pass0 ha hst hpl ht
theorem pe_m0 {pl : Sem Bool} (c : MR X.prog X.w X.K X.mg X.base k C m sp) (hr : Room j X.A) (hk : k ≤ j) (he : PE X o ta)
    (ht : eval (.Call (.Attribute o m apos) [] [] pos) X.env = (do
      let ov ← eval o X.env
      standAt apos.atName
      let (f, first) ← holding [ov] (getMethod ov m pl)
      callWith pos f first (backTo pos (starEach [] X.env)) (backToKw pos (keywordEach [] X.env))) := by rfl) :
    PE X (.Call (.Attribute o m apos) [] [] pos) (tMethSl C sp E0 ta tNil) := by
  obtain ⟨g, hc, hm, F⟩ := c.ex
  exact pe_methSl0 (pl := pl) he hc hm F (hr.mono hk) pass0 ht
end
/-- a slot of an instance that is known -/
theorem ep_sl {σ : L2.St} {B : Hp} {ta : TE} {K : PySem.W.Frag} {C p : Addr} {f : Str} {i : Nat} {Pv R : PV} (c : SCls K C) (t : Slot1 K C f p i) (ha : EvP ta σ B Pv)
    (h : ∀ G x, Ex B G → Pv G x → ∃ a dx vs v, x = .ref a ∧ (∀ G', Ex G G' → Slt G' a C dx vs) ∧ vs[i]? = some (some v) ∧ R G v) (mR : Mo R) : EvP (tSl K ta f) σ B R :=
  Co.bind (r := fun x H Q => ∃ a C dx p vs i v, x = .ref a ∧ Slt H a C dx vs ∧ SCls K C ∧ Slot1 K C f p i ∧ vs[i]? = some (some v) ∧ Q v H) ha fun x G e p' => fun H1 e1 Q q => by
    obtain ⟨a, dx, vs, v, h1, h2, h3, h4⟩ := h G x e p'
    exact ⟨a, C, dx, p, vs, i, v, h1, h2 H1 e1, c, t, h3, q v H1 (Ex.refl _) (mR _ _ _ (cut_base e1) h4)⟩
theorem slt_mono {G G' : Hp} {a C dx : Addr} {vs : List (Option V)} (e : Ex G G') (h : Slt G a C dx vs) : Slt G' a C dx vs := by
  rcases h with ⟨h1, h2⟩ | ⟨h1, h2⟩
  · exact .inl ⟨e _ _ h1, h2⟩
  · exact .inr ⟨e _ _ h1, e _ _ h2⟩
/-! ### what Links holds -/
abbrev LK := List Ln × Option Int × Fr
structure LF (K : PySem.W.Frag) (C : Addr) : Prop where
  c : SCls K C
  loans : ∃ p, Slot1 K C "own_loans" p 3
  indexes : ∃ p, Slot1 K C "own_indexes" p 1
  keep : ∃ p, Slot1 K C "own_keep" p 2
  shut : ∃ p, Slot1 K C "own_shut" p 4
  anew : ∃ p, Slot1 K C "own_anew" p 0
structure LAt (C : Addr) (G : Hp) (a : Addr) (i : LK) (dx : Addr) (v0 v1 v2 v3 v4 : V) : Prop where
  sl : Slt G a C dx [some v0, some v1, some v2, some v3, some v4]
  d0 : De G v0 (.tuple (i.2.2.2.map .int))
  d1 : De G v1 (dN (List.range i.1.length))
  d2 : De G v2 (dk i.2.1)
  d3 : De G v3 (dl i.1)
  d4 : De G v4 (dk i.2.2.1)
  z : i.1.length ≤ 1000 ∧ i.2.2.2.length ≤ 1000
def isL (C : Addr) (i : LK) : PV := fun G v => ∃ a dx v0 v1 v2 v3 v4, v = .ref a ∧ LAt C G a i dx v0 v1 v2 v3 v4
theorem mo_L {C : Addr} {i : LK} : Mo (isL C i) := fun G G' v e ⟨a, dx, v0, v1, v2, v3, v4, h, l⟩ =>
  ⟨a, dx, v0, v1, v2, v3, v4, h, slt_mono e l.sl, l.d0.mono e, l.d1.mono e, l.d2.mono e, l.d3.mono e, l.d4.mono e, l.z⟩
section
variable {σ : L2.St} {B : Hp} {ta : TE} {K : PySem.W.Frag} {C : Addr} {i : LK}
theorem ep_loans (L : LF K C) (h : EvP ta σ B (isL C i)) : EvP (tSl K ta "own_loans") σ B (is (dl i.1)) := by
  obtain ⟨p, t⟩ := L.loans
  exact ep_sl L.c t h (fun G x _ ⟨a, dx, v0, v1, v2, v3, v4, h, l⟩ => ⟨a, dx, _, v3, h, fun G' e => slt_mono e l.sl, rfl, l.d3⟩) mo_is
theorem ep_indexes (L : LF K C) (h : EvP ta σ B (isL C i)) : EvP (tSl K ta "own_indexes") σ B (is (dN (List.range i.1.length))) := by
  obtain ⟨p, t⟩ := L.indexes
  exact ep_sl L.c t h (fun G x _ ⟨a, dx, v0, v1, v2, v3, v4, h, l⟩ => ⟨a, dx, _, v1, h, fun G' e => slt_mono e l.sl, rfl, l.d1⟩) mo_is
theorem ep_keep (L : LF K C) (h : EvP ta σ B (isL C i)) : EvP (tSl K ta "own_keep") σ B (is (dk i.2.1)) := by
  obtain ⟨p, t⟩ := L.keep
  exact ep_sl L.c t h (fun G x _ ⟨a, dx, v0, v1, v2, v3, v4, h, l⟩ => ⟨a, dx, _, v2, h, fun G' e => slt_mono e l.sl, rfl, l.d2⟩) mo_is
theorem ep_shut (L : LF K C) (h : EvP ta σ B (isL C i)) : EvP (tSl K ta "own_shut") σ B (is (dk i.2.2.1)) := by
  obtain ⟨p, t⟩ := L.shut
  exact ep_sl L.c t h (fun G x _ ⟨a, dx, v0, v1, v2, v3, v4, h, l⟩ => ⟨a, dx, _, v4, h, fun G' e => slt_mono e l.sl, rfl, l.d4⟩) mo_is
theorem ep_anew (L : LF K C) (h : EvP ta σ B (isL C i)) : EvP (tSl K ta "own_anew") σ B (is (.tuple (i.2.2.2.map .int))) := by
  obtain ⟨p, t⟩ := L.anew
  exact ep_sl L.c t h (fun G x _ ⟨a, dx, v0, v1, v2, v3, v4, h, l⟩ => ⟨a, dx, _, v0, h, fun G' e => slt_mono e l.sl, rfl, l.d0⟩) mo_is
/-- a loan's begin, its end -/
theorem ep_bg {ls : List Ln} {g : Nat} {tb : TE} (hg : g < ls.length) (h : EvP ta σ B (is (dl ls))) (h2 : EvP tb σ B (is (.int g))) : EvP (tOp (rIxT K) (tOp (rIxT K) ta tb) (tC (.int 0))) σ B (is (.int (M.bg ls g))) :=
  ep_ixT (j := 0) (ep_ixT (j := g) (d := pr ls[g]) h h2 rfl (by rw [List.getElem?_map, List.getElem?_eq_getElem hg]; rfl)) ep_int rfl (by unfold M.bg; rw [M.getD_lt hg]; rfl)
theorem ep_ed {ls : List Ln} {g : Nat} {tb : TE} (hg : g < ls.length) (h : EvP ta σ B (is (dl ls))) (h2 : EvP tb σ B (is (.int g))) : EvP (tOp (rIxT K) (tOp (rIxT K) ta tb) (tC (.int 1))) σ B (is (.int (M.ed ls g))) :=
  ep_ixT (j := 1) (ep_ixT (j := g) (d := pr ls[g]) h h2 rfl (by rw [List.getElem?_map, List.getElem?_eq_getElem hg]; rfl)) ep_int rfl (by unfold M.ed; rw [M.getD_lt hg]; rfl)
end
section
variable {P : Program} {w : World} {K : PySem.W.Frag} {mg : Str → Option Value} {base : Heap} {C : Addr}
abbrev FR (P : Program) (w : World) (K : PySem.W.Frag) (mg : Str → Option Value) (base : Heap) (k : Nat) (g : Addr) (sp : Sp) : Prop := FnR P w K mg base CX0 k g sp
theorem raw0 {d : Df} {f : Addr} {fd : FuncData} {ps : List Str} {k : Nat} {sp : Sp} (F : FnOk P w K mg base CX0 k f fd ps sp) (hb : Binds K fd ps []) : FR P w K mg base k f sp :=
  (F.raw hb .nil).imp fun vs H Q E h => by rw [List.append_nil]; exact h
/-! ### len, iter, gap -/
def spLLen (C : Addr) : Sp := spF (ι := LK) (fun i B vs => ∃ v, vs = [v] ∧ isL C i B v) fun i => is (.int (i.1.length : Nat))
abbrev dLLen (a : Fg → Addr) : Df := ⟨a, "__len__", "Links.__len__", sLLen, []⟩
theorem scLLen : FnScope ["self"] ["self"] (defScope sLLen) := ⟨rfl, rfl, rfl, by decide +kernel, rfl, by decide +kernel, by decide +kernel⟩
theorem ok_LLen {a : Fg → Addr} {f : Addr} {fd : FuncData} (F : At K (dLLen a) f fd) (T : Bt mg) (L : LF K C) : FR P w K mg base 1 f (spLLen C) := by
  refine raw0 (d := dLLen a) (fok F scLLen (fun i B vs h => by obtain ⟨v, rfl, _⟩ := h; rfl) fun cdv A' outer s H E hr => ?_) (F.bindsN fun _ _ _ _ _ _ us hl => match us, hl with | [_], _ => rfl)
  refine ⟨_, pss_one (ps_ret ((pe_callB call_len_seq (by rfl) T.len (by decide +kernel) (pa_cons (pe_sl (pv 0)) pa_nil)))), fun i B vs h => ?_⟩
  obtain ⟨v, rfl, hv⟩ := h
  refine st_ret ?_
  have e : i.1.length = (i.1.map pr).length := by rw [List.length_map]
  rw [e]
  exact ep_lenT (ep_loans L (ep_var rfl hv mo_L))
abbrev LT := LK × Nat × Nat
def AL2 (C : Addr) (i : LT) : PVs := fun B vs => (i.2.1 < i.1.1.length ∧ i.2.2 < i.1.1.length) ∧ ∃ v, vs = [v, .int i.2.1, .int i.2.2] ∧ isL C i.1 B v
def spLGap (C : Addr) : Sp := spF (AL2 C) fun i => is (.int (M.bg i.1.1 i.2.2 - M.ed i.1.1 i.2.1))
abbrev dLGap (a : Fg → Addr) : Df := ⟨a, "gap", "Links.gap", sLGap, []⟩
theorem scLGap : FnScope ["self", "giver", "taker"] ["self", "giver", "taker"] (defScope sLGap) := ⟨rfl, rfl, rfl, by decide +kernel, rfl, by decide +kernel, by decide +kernel⟩
theorem ok_LGap {a : Fg → Addr} {f : Addr} {fd : FuncData} (F : At K (dLGap a) f fd) (T : Bt mg) (L : LF K C) : FR P w K mg base 1 f (spLGap C) := by
  refine raw0 (d := dLGap a) (fok F scLGap (fun i B vs h => by obtain ⟨_, v, rfl, _⟩ := h; rfl) fun cdv A' outer s H E hr => ?_) (F.bindsN fun _ _ _ _ _ _ us hl => match us, hl with | [_, _, _], _ => rfl)
  refine ⟨_, pss_one (ps_ret (pe_op op_sub (kIxT K (kIxT K (kSl K (pv 0)) (pv 2)) pe_int) (kIxT K (kIxT K (kSl K (pv 0)) (pv 1)) pe_int))), fun i B vs h => ?_⟩
  obtain ⟨⟨h1, h2⟩, v, rfl, hv⟩ := h
  exact st_ret (ep_sub (ep_bg h2 (ep_loans L (ep_var rfl hv mo_L)) (ep_d rfl (.int _))) (ep_ed h1 (ep_loans L (ep_var rfl hv mo_L)) (ep_d rfl (.int _))))
/-- a call of a method of Links with two indexes -/
theorem ep_l2 {σ : L2.St} {B : Hp} {to ta tb : TE} {R : LT → PV} {i : LT} {v : V} {E : XK} (hi : i.2.1 < i.1.1.length ∧ i.2.2 < i.1.1.length) (ho : EvP to σ B (isL C i.1)) (ha : EvP ta σ B (is (.int i.2.1))) (hb : EvP tb σ B (is (.int i.2.2))) :
    EvP (tMethSl C (spF (AL2 C) R) E to (tCons ta (tCons tb tNil))) σ B (R i) :=
  ep_meth i ho mo_L (fun G x ⟨a, dx, v0, v1, v2, v3, v4, h, l⟩ => ⟨a, dx, _, h, fun G' e => slt_mono e l.sl⟩) (da_cons ha (da_cons hb da_nil)) (fun _ _ _ e h => h.mono e) fun G x vs e hx hvs => ⟨hi, x, by
    cases hvs with
    | cons h1 h2 => cases h2 with
      | cons h3 h4 =>
        cases h4
        rw [De.int' h1, De.int' h3], hx⟩
/-! ### can_follow, is_dead -/
def spLCan (C : Addr) : Sp := spF (AL2 C) fun i => is (.bool (M.can i.1.1 i.1.2.1 i.2.1 i.2.2))
abbrev dLCan (a : Fg → Addr) : Df := ⟨a, "can_follow", "Links.can_follow", sLCan, []⟩
theorem scLCan : FnScope ["self", "giver", "taker"] ["self", "giver", "taker"] (defScope sLCan) := ⟨rfl, rfl, rfl, by decide +kernel, rfl, by decide +kernel, by decide +kernel⟩
theorem ok_LCan {a : Fg → Addr} {f : Addr} {fd : FuncData} (F : At K (dLCan a) f fd) (T : Bt mg) (L : LF K C) (G : MR P w K mg base 1 C "gap" (spLGap C)) : FR P w K mg base 2 f (spLCan C) := by
  refine raw0 (d := dLCan a) (fok F scLCan (fun i B vs h => by obtain ⟨_, v, rfl, _⟩ := h; rfl) fun cdv A' outer s H E hr => ?_) (F.bindsN fun _ _ _ _ _ _ us hl => match us, hl with | [_, _, _], _ => rfl)
  refine ⟨_, pss_one (ps_ret (pe_and (pe_cmpR op_le (pe_int) (pe_m G hr (Nat.le_refl _) (pv 0) (pa_cons ((pv 1)) (pa_cons ((pv 2)) pa_nil))) rfl) (pe_one (pe_or (pe_cmp (pc_isN (kSl K (pv 0)))) (pe_one (pe_cmpR op_le (pe_m G hr (Nat.le_refl _) (pv 0) (pa_cons ((pv 1)) (pa_cons ((pv 2)) pa_nil))) (kSl K (pv 0)) rfl)))))), fun i B vs h => ?_⟩
  obtain ⟨hi, v, rfl, hv⟩ := h
  have hs : EvP (tVar 0) (start ["self", "giver", "taker"] [v, .int i.2.1, .int i.2.2]) B (isL C i.1) := ep_var rfl hv mo_L
  have hg : EvP (tMethSl C (spLGap C) E0 (tVar 0) (tCons (tVar 1) (tCons (tVar 2) tNil))) (start ["self", "giver", "taker"] [v, .int i.2.1, .int i.2.2]) B (is (.int (M.bg i.1.1 i.2.2 - M.ed i.1.1 i.2.1))) := ep_l2 (v := v) hi hs (ep_d rfl (.int _)) (ep_d rfl (.int _))
  refine st_ret (ep_andV (ep_le ep_int hg) fun _ => ?_)
  cases hk : i.1.2.1 with
  | none =>
    have h1 := ep_keep L hs
    rw [hk] at h1
    exact ep_orV (b := true) (ep_isN h1) fun z => by cases z
  | some k =>
    have h1 := ep_keep L hs
    rw [hk] at h1
    exact ep_orV (a := false) (ep_isN h1) fun z => ep_le hg h1
def spLDead (C : Addr) : Sp := spF (AL2 C) fun i => is (.bool (M.dd i.1.1 i.1.2.2 i.2.1 i.2.2))
abbrev dLDead (a : Fg → Addr) : Df := ⟨a, "is_dead", "Links.is_dead", sLDead, []⟩
theorem scLDead : FnScope ["self", "giver", "taker", "beat"] ["self", "giver", "taker"] (defScope sLDead) := ⟨rfl, rfl, rfl, by decide +kernel, rfl, by decide +kernel, by decide +kernel⟩
theorem ok_LDead {a : Fg → Addr} {f : Addr} {fd : FuncData} (F : At K (dLDead a) f fd) (T : Bt mg) (L : LF K C) (G : MR P w K mg base 1 C "gap" (spLGap C)) : FR P w K mg base 2 f (spLDead C) := by
  refine raw0 (d := dLDead a) (fok F scLDead (fun i B vs h => by obtain ⟨_, v, rfl, _⟩ := h; rfl) fun cdv A' outer s H E hr => ?_) (F.bindsN fun _ _ _ _ _ _ us hl => match us, hl with | [_, _, _], _ => rfl)
  refine ⟨_, pss_cons (ps_if (PW.pt (pw_and (pt_cmp (pc_notN (kSl K (pv 0)))) (pw_and1 (pt_cmpR op_ge (pe_m G hr (Nat.le_refl _) (pv 0) (pa_cons ((pv 1)) (pa_cons ((pv 2)) pa_nil))) (kSl K (pv 0)) rfl)))) (pss_one (ps_ret pe_bl)) pss_nil)
    (pss_one (ps_ret (pe_callB (kAny K) (by rfl) T.any (by decide +kernel) (pa_cons ((pe_lc (own := [("beat", 3)]) (g := gName 3) (tt := tYes) rfl scLDead.nd (kTup K (kSl K (pv 0))) (blkOk_by (N := ["self", "giver", "taker", "beat"]) (sc := defScope sLDead) (by decide +kernel)) (fun _ _ _ _ _ => pg_name (i := 3) scLDead.nd rfl (by first | exact Or.inl rfl | exact Or.inr rfl)) (fun _ _ _ _ _ => pts_nil) (fun _ _ _ _ _ => pe_chain op_lt op_le (kIxT K (kIxT K (kSl K (pv 0)) (pv 1)) pe_int) (pv 3) (kIxT K (kIxT K (kSl K (pv 0)) (pv 2)) pe_int)))) pa_nil)))), fun i B vs h => ?_⟩
  obtain ⟨hi, v, rfl, hv⟩ := h
  have hs : ∀ G, Ex B G → EvP (tVar 0) (start ["self", "giver", "taker", "beat"] [v, .int i.2.1, .int i.2.2]) G (isL C i.1) := fun G e => ep_var rfl (mo_L _ _ _ e hv) mo_L
  have hg : EvP (tMethSl C (spLGap C) E0 (tVar 0) (tCons (tVar 1) (tCons (tVar 2) tNil))) (start ["self", "giver", "taker", "beat"] [v, .int i.2.1, .int i.2.2]) B (is (.int (M.bg i.1.1 i.2.2 - M.ed i.1.1 i.2.1))) := ep_l2 (v := v) hi (hs B (Ex.refl B)) (ep_d rfl (.int _)) (ep_d rfl (.int _))
  refine sq_if mo_is moF (b := M.shutB i.1.1 i.1.2.2.1 i.2.1 i.2.2) ?_ (fun hb => st_ret ?_) fun hb => st_ret ?_
  · unfold M.shutB
    have h1 := ep_shut L (hs B (Ex.refl B))
    cases hk : i.1.2.2.1 with
    | none =>
      rw [hk] at h1
      exact et_and (b := false) (et_B' (ep_notN h1)) fun z => by cases z
    | some k =>
      rw [hk] at h1
      exact et_and (a := true) (et_B' (ep_notN h1)) fun z => et_test' (ep_ge hg h1)
  · unfold M.dd
    rw [hb]
    exact ep_bl
  · unfold M.dd
    rw [hb, Bool.false_or]
    have e : (i.1.2.2.2.any fun x => decide (M.bg i.1.1 i.2.1 < x) && decide (x ≤ M.bg i.1.1 i.2.2)) = (i.1.2.2.2.map fun x => decide (M.bg i.1.1 i.2.1 < x) && decide (x ≤ M.bg i.1.1 i.2.2)).any id := by rw [List.any_map]; rfl
    rw [e]
    refine ep_any ?_
    rw [List.map_map]
    refine ep_lcm (l := i.1.2.2.2) (ι := .int) _ (wi_tup (ep_anew L (hs B (Ex.refl B)))) ?_ fun x G _ eG => tg_name fun y hy => ⟨rfl, ?_⟩
    · obtain ⟨a, dx, v0, v1, v2, v3, v4, _, l⟩ := hv
      have := l.z.2
      omega
    · have hs' : EvP (tVar 0) ((wipe (start ["self", "giver", "taker", "beat"] [v, .int i.2.1, .int i.2.2]) [3]).set 3 (some y)) G (isL C i.1) := ep_var rfl (mo_L _ _ _ eG hv) mo_L
      exact ep_LtLe (ep_bg hi.1 (ep_loans L hs') (ep_d rfl (.int _))) (ep_d rfl hy) (ep_bg hi.2 (ep_loans L hs') (ep_d rfl (.int _)))
end
end Q
/-! K75D3 -/
set_option Elab.async false
set_option linter.all false
set_option maxRecDepth 100000
set_option maxHeartbeats 4000000
/-! Links: walked by itself; givers, living. -/
namespace Q
open PySem PySem.Spec PyProof.Rows L2 Evl SlX
open M (Ln Fr)
def rIterS (K : PySem.W.Frag) (n : Nat) : List V → Hp → VK → Prop := fun xs H Q => ∃ (l : Addr) (zs : List V), xs = [.ref l] ∧ SqL K H l zs ∧ ∀ it, n ≤ it → H it = none → Q (.ref it) (upd H it (ItO l it 0))
theorem call_iterS {X : Cx} : CallR X (.builtin "iter") (rIterS X.K X.s_0.heap.objs.size) := by
  intro pins s σ H xs us Q I r h
  obtain ⟨l, zs, rfl, hq, q⟩ := h
  obtain rfl := Vals.ref1 r
  obtain ⟨its, rv, pl, hz⟩ := I.list hq
  refine GNX.call_iter pl.isList ?_
  exact ⟨.ref s.heap.objs.size, _, I.laid (t' := s.toks) (fun b u e => Heap.get?_push_of_some _ e) (Nat.le_refl _) (itO_ok (Heap.get?_push_size _ rfl)), rfl, q _ I.sz (I.hok.fresh (Nat.le_refl _))⟩
section
variable {P : Program} {w : World} {K : PySem.W.Frag} {mg : Str → Option Value} {base : Heap} {C : Addr}
abbrev dLIter (a : Fg → Addr) : Df := ⟨a, "__iter__", "Links.__iter__", sLIter, []⟩
theorem scLIter : FnScope ["self"] ["self"] (defScope sLIter) := ⟨rfl, rfl, rfl, by decide +kernel, rfl, by decide +kernel, by decide +kernel⟩
theorem ok_LIter {a : Fg → Addr} {f : Addr} {fd : FuncData} (F : At K (dLIter a) f fd) (T : Bt mg) (L : LF K C) : IterOk P w K mg base 1 f C 1 := by
  intro A outer s H x dx vs l zs hr e0 hsl hv hz
  obtain ⟨p, t⟩ := L.indexes
  refine fn_at (ps := ["self"]) F scLIter hr e0 (F.bindsA (fun _ _ _ _ _ _ us hl => match us, hl with | [_], _ => rfl) s [.ref x] rfl) (vs := [.ref x]) (.cons rfl .nil) rfl fun cdv hr => ?_
  refine ⟨_, pss_one (ps_ret (pe_callB call_iterS (by rfl) T.iter (by decide +kernel) (pa_cons (pe_sl (pv 0)) pa_nil))), ?_⟩
  exact ⟨.ref x, rfl, x, C, dx, p, vs, 1, .ref l, rfl, hsl, L.c, t, hv, l, zs, rfl, hz, fun it h1 h2 => ⟨it, h1, rfl, rfl⟩⟩
/-- __iter__ of Links is found -/
structure LI (P : Program) (w : World) (K : PySem.W.Frag) (mg : Str → Option Value) (base : Heap) (C : Addr) : Prop where
  ex : ∃ g : Addr, PySem.W.findIn K (.ref C) "__iter__" = some (some (.ref g)) ∧ PySem.W.isFn K (.ref g) = true ∧ IterOk P w K mg base 1 g C 1
theorem pi_L {X : Cx} {tg e : Expr} {te : TE} {j : Nat} (I : LI X.prog X.w X.K X.mg X.base C) (hr : Room j X.A) (hk : 1 ≤ j) (he : PE X e te) : PI X tg e (iOwn X.K C 1 te) := by
  obtain ⟨g, h1, h2, h3⟩ := I.ex
  exact pi_own h1 h2 h3 (hr.mono hk) he
theorem wi_L {σ : L2.St} {B : Hp} {te : TE} {i : LK} (h : EvP te σ B (isL C i)) : EvI (iOwn K C 1 te) σ B ((List.range i.1.length).map nt) := fun H1 e R r => h H1 e _ fun v H2 e2 ⟨a, dx, v0, v1, v2, v3, v4, ha, l⟩ => by
  obtain ⟨b, xs, rfl, h1, h2⟩ := De.lst' l.d1
  exact ⟨a, dx, _, b, xs, ha, slt_mono cut_le l.sl, rfl, sq_of (cut_le _ _ h1), r _ H2 e2 (wl_list h1 h2)⟩
theorem isL_z {G : Hp} {v : V} {i : LK} (h : isL C i G v) : i.1.length ≤ 1000 ∧ i.2.2.2.length ≤ 1000 := by
  obtain ⟨a, dx, v0, v1, v2, v3, v4, _, l⟩ := h
  exact l.z
/-! ### givers, living -/
def AL1 (C : Addr) (i : LK × Nat) : PVs := fun B vs => i.2 < i.1.1.length ∧ ∃ v, vs = [v, .int i.2] ∧ isL C i.1 B v
theorem ep_l1 {σ : L2.St} {B : Hp} {to ta : TE} {R : LK × Nat → PV} {i : LK × Nat} {E : XK} (hi : i.2 < i.1.1.length) (ho : EvP to σ B (isL C i.1)) (ha : EvP ta σ B (is (.int i.2))) :
    EvP (tMethSl C (spF (AL1 C) R) E to (tCons ta tNil)) σ B (R i) :=
  ep_meth i ho mo_L (fun G x ⟨a, dx, v0, v1, v2, v3, v4, h, l⟩ => ⟨a, dx, _, h, fun G' e => slt_mono e l.sl⟩) (da_cons ha da_nil) (fun _ _ _ e h => h.mono e) fun G x vs e hx hvs => ⟨hi, x, by
    cases hvs with
    | cons h1 h2 =>
      cases h2
      rw [De.int' h1], hx⟩
def spLGivers (C : Addr) : Sp := spF (AL1 C) fun i => is (dN (M.givers i.1.1 i.1.2.1 i.2))
abbrev dLGivers (a : Fg → Addr) : Df := ⟨a, "givers", "Links.givers", sLGivers, []⟩
theorem scLGivers : FnScope ["self", "taker", "giver"] ["self", "taker"] (defScope sLGivers) := ⟨rfl, rfl, rfl, by decide +kernel, rfl, by decide +kernel, by decide +kernel⟩
theorem ok_LGivers {a : Fg → Addr} {f : Addr} {fd : FuncData} (F : At K (dLGivers a) f fd) (T : Bt mg) (I : LI P w K mg base C) (G : MR P w K mg base 2 C "can_follow" (spLCan C)) : FR P w K mg base 3 f (spLGivers C) := by
  refine raw0 (d := dLGivers a) (fok F scLGivers (fun i B vs h => by obtain ⟨_, v, rfl, _⟩ := h; rfl) fun cdv A' outer s H E hr => ?_) (F.bindsN fun _ _ _ _ _ _ us hl => match us, hl with | [_, _], _ => rfl)
  refine ⟨_, pss_one (ps_ret (pe_lc (own := [("giver", 2)]) (g := gName 2) rfl scLGivers.nd (pi_L I hr (by omega) (pv 0)) (blkOk_by (N := ["self", "taker", "giver"]) (sc := defScope sLGivers) (by decide +kernel)) (fun _ _ _ _ _ => pg_name (i := 2) scLGivers.nd rfl (by first | exact Or.inl rfl | exact Or.inr rfl)) (fun _ _ _ _ _ => pts_one (pt_val (pe_m G hr (Nat.le_refl _) (pv 0) (pa_cons ((pv 2)) (pa_cons ((pv 1)) pa_nil))))) (fun _ _ _ _ _ => (pv 2)))), fun i B vs h => ?_⟩
  obtain ⟨hi, v, rfl, hv⟩ := h
  refine st_ret (ep_lc (l := List.range i.1.1.length) (ι := nt) (fun g => M.can i.1.1 i.1.2.1 g i.2) nt (wi_L (ep_var rfl hv mo_L)) (by have := (isL_z hv).1; simp; omega) fun g G hg eG => tg_name fun y hy => ?_)
  rw [De.int' hy]
  rw [List.mem_range] at hg
  exact ⟨rfl, et_B' (ep_l2 (R := fun i => is (.bool (M.can i.1.1 i.1.2.1 i.2.1 i.2.2))) (v := v) (i := (i.1, g, i.2)) ⟨hg, hi⟩ (ep_var rfl (mo_L _ _ _ eG hv) mo_L) (ep_d rfl (.int _)) (ep_d rfl (.int _))), fun _ => ep_d rfl (.int _)⟩
def spLLiving (C : Addr) : Sp := spF (AL1 C) fun i => is (dN (M.living i.1.1 i.1.2.1 i.1.2.2 i.2))
abbrev dLLiving (a : Fg → Addr) : Df := ⟨a, "living", "Links.living", sLLiving, []⟩
theorem scLLiving : FnScope ["self", "taker", "giver"] ["self", "taker"] (defScope sLLiving) := ⟨rfl, rfl, rfl, by decide +kernel, rfl, by decide +kernel, by decide +kernel⟩
theorem givers_len {ls : List Ln} {k : Option Int} {t : Nat} : (M.givers ls k t).length ≤ ls.length := by
  unfold M.givers
  have := List.length_filter_le (fun g => M.can ls k g t) (List.range ls.length)
  rw [List.length_range] at this
  exact this
theorem ok_LLiving {a : Fg → Addr} {f : Addr} {fd : FuncData} (F : At K (dLLiving a) f fd) (T : Bt mg) (G : MR P w K mg base 3 C "givers" (spLGivers C)) (G2 : MR P w K mg base 2 C "is_dead" (spLDead C)) : FR P w K mg base 4 f (spLLiving C) := by
  refine raw0 (d := dLLiving a) (fok F scLLiving (fun i B vs h => by obtain ⟨_, v, rfl, _⟩ := h; rfl) fun cdv A' outer s H E hr => ?_) (F.bindsN fun _ _ _ _ _ _ us hl => match us, hl with | [_, _], _ => rfl)
  refine ⟨_, pss_one (ps_ret (pe_lc (own := [("giver", 2)]) (g := gName 2) rfl scLLiving.nd (kLst K (pe_m G hr (Nat.le_refl _) (pv 0) (pa_cons ((pv 1)) pa_nil))) (blkOk_by (N := ["self", "taker", "giver"]) (sc := defScope sLLiving) (by decide +kernel)) (fun _ _ _ _ _ => pg_name (i := 2) scLLiving.nd rfl (by first | exact Or.inl rfl | exact Or.inr rfl)) (fun _ _ _ _ _ => pts_one (pt_not (pt_val (pe_m G2 hr (by omega) (pv 0) (pa_cons ((pv 2)) (pa_cons ((pv 1)) pa_nil)))))) (fun _ _ _ _ _ => (pv 2)))), fun i B vs h => ?_⟩
  obtain ⟨hi, v, rfl, hv⟩ := h
  have hz := (isL_z hv).1
  have hl := givers_len (ls := i.1.1) (k := i.1.2.1) (t := i.2)
  refine st_ret (ep_lc (l := M.givers i.1.1 i.1.2.1 i.2) (ι := nt) (fun g => !M.dd i.1.1 i.1.2.2 g i.2) nt (wi_list (ep_l1 (R := fun i => is (dN (M.givers i.1.1 i.1.2.1 i.2))) hi (ep_var rfl hv mo_L) (ep_d rfl (.int _)))) (by omega) fun g G hg eG => tg_name fun y hy => ?_)
  rw [De.int' hy]
  exact ⟨rfl, et_not (et_B' (ep_l2 (R := fun i => is (.bool (M.dd i.1.1 i.1.2.2 i.2.1 i.2.2))) (v := v) (i := (i.1, g, i.2)) ⟨(M.mem_givers.mp hg).1, hi⟩ (ep_var rfl (mo_L _ _ _ eG hv) mo_L) (ep_d rfl (.int _)) (ep_d rfl (.int _)))), fun _ => ep_d rfl (.int _)⟩
end
end Q
/-! K75D4 -/
set_option Elab.async false
set_option linter.all false
set_option maxRecDepth 100000
set_option maxHeartbeats 4000000
/-! Links made. -/
namespace Q
open PySem PySem.Spec PyProof.Rows L2 Evl SlX
open M (Ln Fr)
def Sq (o : HO) : Prop := (∃ xs, o = .lst xs) ∨ ∃ xs, o = .tup xs
mutual
theorem De.chg {G G' : Hp} (h : ∀ b o, G b = some o → Sq o → G' b = some o) : ∀ {v : V} {d : PyData}, De G v d → De G' v d
  | _, _, .non => .non
  | _, _, .bl b => .bl b
  | _, _, .int i => .int i
  | _, _, .lst e a => .lst (h _ _ e (.inl ⟨_, rfl⟩)) (DeA.chg h a)
  | _, _, .tup e a => .tup (h _ _ e (.inr ⟨_, rfl⟩)) (DeA.chg h a)
theorem DeA.chg {G G' : Hp} (h : ∀ b o, G b = some o → Sq o → G' b = some o) : ∀ {vs : List V} {ds : List PyData}, DeA G vs ds → DeA G' vs ds
  | _, _, .nil => .nil
  | _, _, .cons a b => .cons (De.chg h a) (DeA.chg h b)
end
theorem DeA.two {H : Hp} {xs : List V} {d e : PyData} (h : DeA H xs [d, e]) : ∃ v u, xs = [v, u] ∧ De H v d ∧ De H u e := by
  cases h with
  | cons h1 h => cases h with
    | cons h2 h =>
      cases h
      exact ⟨_, _, rfl, h1, h2⟩
theorem DeA.one {H : Hp} {xs : List V} {d : PyData} (h : DeA H xs [d]) : ∃ v, xs = [v] ∧ De H v d := by
  cases h with
  | cons h1 h =>
    cases h
    exact ⟨_, rfl, h1⟩
theorem de_rg {G : Hp} (n : Nat) : DeA G (rgV 0 (n : Int)) ((List.range n).map nt) := by
  unfold rgV
  rw [Int.sub_zero, Int.toNat_natCast]
  generalize List.range n = l
  induction l with
  | nil => exact .nil
  | cons j l ih =>
    refine .cons ?_ ih
    show De G (V.int (0 + (j : Nat))) (nt j)
    rw [Int.zero_add]
    exact .int _
theorem ep_listRg {σ : L2.St} {B : Hp} {te : TE} {n : Nat} (h : EvP te σ B (is (.int n))) (hn : n ≤ 100000) : EvP (tLstRg (tRg1 te)) σ B (is (dN (List.range n))) := fun H1 e1 Q q => by
  show te σ H1 _
  refine h H1 e1 _ fun v H2 e2 p => ⟨n, De.int' p, RgOk.of_le (by omega) (by omega) (by omega) (by omega), fun l hl => ?_⟩
  exact q _ _ (e2.trans (Ex.new hl)) (.lst (by rw [cut_new (fresh_back e2 hl), upd_same]) (de_rg n))
/-- an instance under way: made after H1 -/
structure Mkg (C : Addr) (B H1 H : Hp) (a dx : Addr) (vs : List (Option V)) : Prop where
  eb : Ex B H1
  e : Ex H1 H
  ha : H1 a = none
  hd : H1 dx = none
  ne : dx ≠ a
  sl : Slt H a C dx vs
  nd : ∀ o, H dx = some o → ¬ Sq o
theorem sq_ins {C dx : Addr} {fs : List (Str × V)} : ¬ Sq (.ins C dx fs) := fun h => by rcases h with ⟨_, h⟩ | ⟨_, h⟩ <;> cases h
theorem sq_slO {a C dx : Addr} {vs : List (Option V)} : ¬ Sq (SlO a C dx vs) := fun h => by rcases h with ⟨_, h⟩ | ⟨_, h⟩ <;> cases h
theorem sq_xd : ¬ Sq (.xd []) := fun h => by rcases h with ⟨_, h⟩ | ⟨_, h⟩ <;> cases h
theorem sq_own {x : Addr} : ¬ Sq (.own x) := fun h => by rcases h with ⟨_, h⟩ | ⟨_, h⟩ <;> cases h
section
variable {C : Addr} {B H1 H H' : Hp} {a dx : Addr} {vs : List (Option V)} {K : PySem.W.Frag}
theorem Mkg.grow (m : Mkg C B H1 H a dx vs) (e : Ex H H') (nd : ∀ o, H' dx = some o → ¬ Sq o) : Mkg C B H1 H' a dx vs := ⟨m.eb, m.e.trans e, m.ha, m.hd, m.ne, slt_mono e m.sl, nd⟩
theorem slt_a (h : Slt H a C dx vs) : ∃ o, H a = some o ∧ ¬ Sq o := by
  rcases h with ⟨h, _⟩ | ⟨h, _⟩
  · exact ⟨_, h, sq_ins⟩
  · exact ⟨_, h, sq_slO⟩
theorem Mkg.chg (m : Mkg C B H1 H a dx vs) {v : V} {d : PyData} {ws : List (Option V)} (h : De (cut B H1 H) v d) : De (cut B H1 (slH H a C dx ws)) v d := h.chg fun b o e s => by
  have e2 := cut_le _ _ e
  have na : b ≠ a := fun q => by
    obtain ⟨u, hu, n⟩ := slt_a m.sl
    subst q
    rw [e2] at hu
    cases hu
    exact n s
  have nd : b ≠ dx := fun q => by
    subst q
    exact m.nd _ e2 s
  cases h1 : H1 b with
  | none =>
    rw [cut_new h1] at e ⊢
    rw [slH_ne na nd]
    exact e
  | some u =>
    cases h2 : B b with
    | none => rw [cut_none h1 h2] at e; cases e
    | some w => rw [cut_old h2] at e ⊢; rw [slH_ne na nd]; exact e
theorem Mkg.put (m : Mkg C B H1 H a dx vs) (ws : List (Option V)) : Mkg C B H1 (slH H a C dx ws) a dx ws :=
  ⟨m.eb, fun b o e => by rw [slH_ne (ne_of_none e m.ha) (ne_of_none e m.hd)]; exact m.e b o e, m.ha, m.hd, m.ne, slH_slt m.ne, fun o e => by
    have h : (slH H a C dx ws) dx = some (.xd []) := by unfold slH; rw [upd_ne m.ne, upd_same]
    rw [h] at e
    cases e
    exact sq_xd⟩
theorem nd_ex (m : Mkg C B H1 H a dx vs) (hd : ∃ o, H dx = some o) (e : Ex H H') : ∀ o, H' dx = some o → ¬ Sq o := fun o h => by
  obtain ⟨u, hu⟩ := hd
  have := e _ _ hu
  rw [h] at this
  cases this
  exact m.nd _ hu
theorem Mkg.cb (m : Mkg C B H1 H a dx vs) : Ex B H := m.eb.trans m.e
/-- self.f = e -/
theorem sq_store {D : Ends} {tz : TS} {σ : L2.St} {tv : TE} {f : Str} {p : Addr} {i j : Nat} {d : PyData} (c : SCls K C) (t : Slot1 K C f p i) (m : Mkg C B H1 H a dx vs) (hd : ∃ o, H dx = some o) (hs : σ[j]? = some (some (.ref a))) (hv : EvP tv σ (cut B H1 H) (is d))
    (k : ∀ y H', Mkg C B H1 H' a dx (putS i y vs) → (∃ o, H' dx = some o) → De (cut B H1 H') y d → (∀ v d, De (cut B H1 H) v d → De (cut B H1 H') v d) → tz D σ H') : tSeq (sSl K (tVar j) tv f) tz D σ H :=
  hv H cut_le _ fun y H2 e2 q => by
    rw [cut_cut m.e m.cb] at q
    have m2 := m.grow e2 (nd_ex m hd e2)
    refine ⟨.ref a, hs, a, C, dx, p, vs, i, rfl, m2.sl, c, t, ?_⟩
    exact k y _ (m2.put _) ⟨_, by unfold slH; rw [upd_ne m.ne, upd_same]⟩ (m2.chg q) fun v d h => m2.chg (h.mono (cut_mono e2))
end
section
variable {P : Program} {w : World} {K : PySem.W.Frag} {mg : Str → Option Value} {base : Heap} {C : Addr}
theorem flat_loans (ls : List Ln) (h : ls.length ≤ 1000) : flat 2 (dl ls) = true := by
  unfold dl
  rw [flat, Bool.and_eq_true, decide_eq_true_eq, List.length_map]
  refine ⟨List.all_eq_true.mpr fun x hx => ?_, h⟩
  obtain ⟨p, _, rfl⟩ := List.mem_map.mp hx
  rfl
theorem flat_ints (ns : List Int) (h : ns.length ≤ 1000) : flat 1 (.tuple (ns.map .int)) = true := by
  rw [flat, Bool.and_eq_true, decide_eq_true_eq, List.length_map]
  refine ⟨List.all_eq_true.mpr fun x hx => ?_, h⟩
  obtain ⟨p, _, rfl⟩ := List.mem_map.mp hx
  rfl
theorem flat_far (f : Fr) (h : f.2.length ≤ 1000) : flat 2 (dfar f) = true := by
  unfold dfar
  rw [flat]
  simp only [List.all_cons, List.all_nil, Bool.and_true, List.length_cons, List.length_nil]
  rw [flat_ints f.2 h]
  cases f.1 <;> rfl
def spLInit (C : Addr) : Sp := fun vs H Q _ => ∃ (a dx : Addr) (vl vk vf : V) (i : LK) (B H1 : Hp), vs = [.ref a, vl, vk, vf] ∧ Mkg C B H1 H a dx [] ∧ (∃ o, H dx = some o) ∧ De B vl (dl i.1) ∧ De B vk (dk i.2.1) ∧ De B vf (dfar i.2.2) ∧ (i.1.length ≤ 1000 ∧ i.2.2.2.length ≤ 1000) ∧
  ∀ H2, Ex H1 H2 → isL C i (cut B H1 H2) (.ref a) → Q .non H2
abbrev dLInit (a : Fg → Addr) : Df := ⟨a, "__init__", "Links.__init__", sLInit, []⟩
theorem scLInit : FnScope ["self", "loans", "keep", "far"] ["self", "loans", "keep", "far"] (defScope sLInit) := ⟨rfl, rfl, rfl, by decide +kernel, rfl, by decide +kernel, by decide +kernel⟩
theorem ok_LInit {a : Fg → Addr} {f : Addr} {fd : FuncData} (F : At K (dLInit a) f fd) (T : Bt mg) (L : LF K C) (TU : C8.Cal P w K mg base 3 "tupled" (spTupled 2) []) : FnOk P w K mg base CX0 4 f fd ["self", "loans", "keep", "far"] (spLInit C) := by
  refine fokD F scLInit (fun vs H Q E h => by obtain ⟨a, dx, vl, vk, vf, i, B, H1, rfl, _⟩ := h; rfl) fun cdv A' outer s H vs Q E hr h => ?_
  obtain ⟨x, dx, vl, vk, vf, i, B, H1, rfl, m, hd, h1, h2, h3, hz, q⟩ := h
  refine ⟨_, pss_cons (ps_sl (pv 0) (C8.pe_c TU hr (Nat.le_refl _) (by rfl) (pa_cons ((pv 1)) pa_nil))) (pss_cons (ps_sl (pv 0) (pe_listRg rfl (by rfl) T.list (prg_1 (by rfl) T.range (pe_callB call_len_seq (by rfl) T.len (by decide +kernel) (pa_cons (pe_sl (pv 0)) pa_nil)))))
    (pss_cons (ps_sl (pv 0) (pv 2)) (pss_one (ps_asg (C8.pe_c TU hr (Nat.le_refl _) (by rfl) (pa_cons ((pv 3)) pa_nil)) (pg_tup (n := 2) rfl (pgs_cons (pg_sl (pv 0)) (pgs_cons (pg_sl (pv 0)) pgs_nil))))))), ?_⟩
  obtain ⟨p0, t0⟩ := L.anew
  obtain ⟨p1, t1⟩ := L.indexes
  obtain ⟨p2, t2⟩ := L.keep
  obtain ⟨p3, t3⟩ := L.loans
  obtain ⟨p4, t4⟩ := L.shut
  have eB : ∀ {H}, Ex B H → Ex B (cut B H1 H) := fun e => cut_base e
  -- the loans
  refine sq_store L.c t3 m hd (by rfl) (d := dl i.1) ?_ fun y3 Ha ma hda d3 _ => ?_
  · exact ep_call (ι := PyData) (dl i.1) (da_cons (ep_d rfl (h1.mono (eB m.cb))) da_nil) fun G vs e p => ⟨flat_loans _ hz.1, by
      cases p with
      | cons p1 p2 =>
        cases p2
        exact ⟨_, rfl, p1⟩⟩
  -- the indexes
  refine sq_store L.c t1 ma hda (by rfl) (d := dN (List.range i.1.length)) ?_ fun y1 Hb mb hdb d1 kb => ?_
  · have sl : Slt (cut B H1 Ha) x C dx (putS 3 y3 []) := by
      rcases ma.sl with ⟨s1, s2⟩ | ⟨s1, s2⟩
      · cases s2
      · exact .inr ⟨by rw [cut_new m.ha]; exact s1, by rw [cut_new m.hd]; exact s2⟩
    have e1 : EvP (tSl K (tVar 0) "own_loans") (start ["self", "loans", "keep", "far"] [.ref x, vl, vk, vf]) (cut B H1 Ha) (is (dl i.1)) :=
      ep_sl L.c t3 (ep_var (P := fun _ v => v = .ref x) rfl rfl mo_eq) (fun G u e hu => ⟨x, dx, _, y3, hu, fun G' e' => slt_mono (e.trans e') sl, rfl, d3.mono e⟩) mo_is
    have e2 := ep_lenT (K := K) (σ := start ["self", "loans", "keep", "far"] [.ref x, vl, vk, vf]) e1
    rw [List.length_map] at e2
    exact ep_listRg e2 (by omega)
  -- keep
  refine sq_store L.c t2 mb hdb (by rfl) (d := dk i.2.1) (ep_d rfl (h2.mono (eB mb.cb))) fun y2 Hc mc hdc d2 kc => ?_
  -- shut, anew
  have e4 : EvP (tCall (spTupled 2) [] E0 (tCons (tVar 3) tNil)) (start ["self", "loans", "keep", "far"] [.ref x, vl, vk, vf]) (cut B H1 Hc) (is (dfar i.2.2)) := ep_call (ι := PyData) (dfar i.2.2) (da_cons (ep_d rfl (h3.mono (eB mc.cb))) da_nil) fun G vs e p => ⟨flat_far _ hz.2, by
    cases p with
    | cons p1 p2 =>
      cases p2
      exact ⟨_, rfl, p1⟩⟩
  refine e4 Hc cut_le _ fun v H2 e2 p => ?_
  rw [cut_cut mc.e mc.cb] at p
  have md := mc.grow e2 (nd_ex mc hdc e2)
  obtain ⟨at', xs, rfl, ht, hp⟩ := De.tup' p
  obtain ⟨v4, v0, rfl, dv4, dv0⟩ := hp.two
  refine ⟨at', _, rfl, st_of (cut_le _ _ ht), rfl, v4, _, rfl, .ref x, rfl, x, C, dx, p4, _, 4, rfl, md.sl, L.c, t4, v0, _, rfl, .ref x, rfl, x, C, dx, p0, _, 0, rfl, slH_slt m.ne, L.c, t0, rfl, ?_⟩
  have me := md.put (putS 4 v4 (putS 2 y2 (putS 1 y1 (putS 3 y3 []))))
  have mf := me.put (putS 0 v0 (putS 4 v4 (putS 2 y2 (putS 1 y1 (putS 3 y3 [])))))
  have tr : ∀ v d, De (cut B H1 Hc) v d → De (cut B H1 (slH (slH H2 x C dx (putS 4 v4 (putS 2 y2 (putS 1 y1 (putS 3 y3 []))))) x C dx (putS 0 v0 (putS 4 v4 (putS 2 y2 (putS 1 y1 (putS 3 y3 []))))))) v d := fun v d h => me.chg (md.chg (h.mono (cut_mono e2)))
  refine q _ mf.e ⟨x, dx, v0, y1, y2, y3, v4, rfl, ?_, me.chg (md.chg dv0), tr _ _ (kc _ _ d1), tr _ _ d2, tr _ _ (kc _ _ (kb _ _ d3)), me.chg (md.chg dv4), hz⟩
  rcases mf.sl with ⟨s1, s2⟩ | ⟨s1, s2⟩
  · cases s2
  · exact .inr ⟨by rw [cut_new m.ha]; exact s1, by rw [cut_new m.hd]; exact s2⟩
/-- Links(loans, keep, far) -/
abbrev LMk (P : Program) (w : World) (K : PySem.W.Frag) (mg : Str → Option Value) (base : Heap) (C : Addr) : Prop := C8.Mak P w K mg base 4 "Links" C (spLInit C) []
theorem ep_newL {σ : L2.St} {B : Hp} {ta tb tc : TE} {i : LK} {E : XK} (ha : EvP ta σ B (is (dl i.1))) (hb : EvP tb σ B (is (dk i.2.1))) (hc : EvP tc σ B (is (dfar i.2.2))) (hz : i.1.length ≤ 1000 ∧ i.2.2.2.length ≤ 1000) :
    EvP (tMake C (spLInit C) [] E (tCons ta (tCons tb (tCons tc tNil)))) σ B (isL C i) :=
  Co.bindA (r := fun vs H1 Q => ∀ x dx, H1 x = none → H1 dx = none → dx ≠ x → spLInit C (.ref x :: (vs ++ [])) (upd (upd H1 dx (.own x)) x (.ins C dx [])) (fun v H2 => v = .non ∧ Q (.ref x) H2) E) (da_cons ha (da_cons hb (da_cons hc da_nil))) fun vs G e p => fun H1 e1 Q q x dx hx hdx ne => by
    cases p with
    | cons p1 p => cases p with
      | cons p2 p => cases p with
        | cons p3 p =>
          cases p
          refine ⟨x, dx, _, _, _, i, G, H1, rfl, ⟨e1, fun b o h => by rw [upd_ne (ne_of_none h hx), upd_ne (ne_of_none h hdx)]; exact h, hx, hdx, ne, .inl ⟨upd_same, rfl⟩, fun o h => by
            rw [upd_ne ne, upd_same] at h
            cases h
            exact sq_own⟩, ⟨_, by rw [upd_ne ne, upd_same]⟩, p1, p2, p3, hz, fun H2 e2 hl => ⟨rfl, q _ H2 e2 hl⟩⟩
end
end Q
/-! K75G -/
set_option Elab.async false
set_option linter.all false
set_option maxRecDepth 100000
set_option maxHeartbeats 4000000
/-! Statements that change what is new: seen from what is known now. -/
namespace Q
open PySem PySem.Spec PyProof.Rows L2 Evl
open M (Ln Fr)
/-- B stood at the beginning H1; G is all that is there now but what stood unknown at the beginning -/
structure Kn (B H1 H G : Hp) : Prop where
  eb : Ex B H1
  e : Ex H1 H
  g : G = cut B H1 H
section
variable {B H1 H G H' : Hp} {D : Addr} {o o' : HO}
theorem Kn.eB (k : Kn B H1 H G) : Ex B H := k.eb.trans k.e
theorem Kn.le (k : Kn B H1 H G) : Ex G H := by rw [k.g]; exact cut_le
theorem Kn.base (k : Kn B H1 H G) : Ex B G := by rw [k.g]; exact cut_base k.eB
theorem Kn.own (k : Kn B H1 H G) (hB : B D = none) (hG : G D = some o) : H1 D = none := by
  cases h : H1 D with
  | none => rfl
  | some u => rw [k.g, cut_none h hB] at hG; cases hG
theorem Kn.pure (k : Kn B H1 H G) (e : Ex H H') : Kn B H1 H' (cut G H H') ∧ Ex G (cut G H H') :=
  ⟨⟨k.eb, k.e.trans e, by rw [k.g, cut_cut k.e k.eB]⟩, cut_base (k.le.trans e)⟩
theorem Kn.grow (k : Kn B H1 H G) (e : Ex H H') : Kn B H1 H' (cut B H1 H') := ⟨k.eb, k.e.trans e, rfl⟩
theorem cut_upd (h : H1 D = none) : cut B H1 (upd H D o) = upd (cut B H1 H) D o := by
  funext b
  by_cases q : b = D
  · subst q
    rw [cut_new h, upd_same, upd_same]
  · rw [upd_ne q]
    cases h1 : H1 b with
    | none => rw [cut_new h1, cut_new h1, upd_ne q]
    | some u =>
      cases h2 : B b with
      | none => rw [cut_none h1 h2, cut_none h1 h2]
      | some w => rw [cut_old h2, cut_old h2, upd_ne q]
theorem Kn.upd1 (k : Kn B H1 H G) (h : H1 D = none) : Kn B H1 (upd H D o) (upd G D o) :=
  ⟨k.eb, k.e.mut h, by rw [k.g, cut_upd h]⟩
theorem Kn.upd (k : Kn B H1 H G) (hB : B D = none) (hG : G D = some o) : Kn B H1 (upd H D o') (upd G D o') := k.upd1 (k.own hB hG)
theorem Kn.new (k : Kn B H1 H G) (h : H D = none) : Kn B H1 (L2.upd H D o) (L2.upd G D o) := k.upd1 (fresh_back k.e h)
theorem Kn.non (k : Kn B H1 H G) (h : H D = none) : G D = none := fresh_back k.le h
theorem Kn.bnon (k : Kn B H1 H G) (h : H D = none) : B D = none := fresh_back k.eB h
/-- at the beginning -/
theorem Kn.start (e : Ex B H) : Kn B H H B := ⟨e, Ex.refl H, by
  funext b
  cases h2 : B b with
  | some w => rw [cut_old h2, e b w h2]
  | none =>
    cases h1 : H b with
    | some u => rw [cut_none h1 h2]
    | none => rw [cut_new h1, h1]⟩
end
/-- without what may change -/
def wo (Ds : List Addr) (G : Hp) : Hp := fun b => if b ∈ Ds then none else G b
section
variable {Ds : List Addr} {G G' : Hp} {b : Addr} {o : HO}
theorem wo_le : Ex (wo Ds G) G := fun b o h => by
  unfold wo at h
  split at h
  · cases h
  · exact h
theorem wo_in (h : b ∈ Ds) : wo Ds G b = none := by unfold wo; rw [if_pos h]
theorem wo_out (h : b ∉ Ds) : wo Ds G b = G b := by unfold wo; rw [if_neg h]
end
section
variable {B H1 H G : Hp} {σ : L2.St} {te ta tb : TE} {P : PV} {nx : L2.St → Hp → Prop} {rt : VK} {bk ct : L2.St → Hp → Prop} {t u : TS} {i : Nat} {tt : TT}
theorem q_seq (h : t ⟨u ⟨nx, rt, bk, ct⟩, rt, bk, ct⟩ σ H) : tSeq t u ⟨nx, rt, bk, ct⟩ σ H := h
theorem q_asg (kn : Kn B H1 H G) (h : EvP te σ G P) (k : ∀ v H' G', Kn B H1 H' G' → Ex G G' → P G' v → nx (σ.set i (some v)) H') : tAsg te (gName i) ⟨nx, rt, bk, ct⟩ σ H :=
  h H kn.le _ fun v H2 e2 p => k v H2 _ (kn.pure e2).1 (kn.pure e2).2 p
theorem q_ret (kn : Kn B H1 H G) (h : EvP te σ G P) (k : ∀ v H' G', Kn B H1 H' G' → Ex G G' → P G' v → rt v H') : tRet te ⟨nx, rt, bk, ct⟩ σ H :=
  h H kn.le _ fun v H2 e2 p => k v H2 _ (kn.pure e2).1 (kn.pure e2).2 p
theorem q_if {b : Bool} (kn : Kn B H1 H G) (h : EvT tt σ G b) (h1 : b = true → ∀ H' G', Kn B H1 H' G' → Ex G G' → t ⟨nx, rt, bk, ct⟩ σ H') (h2 : b = false → ∀ H' G', Kn B H1 H' G' → Ex G G' → u ⟨nx, rt, bk, ct⟩ σ H') : tIfS tt t u ⟨nx, rt, bk, ct⟩ σ H :=
  h H kn.le _ fun H2 e2 => by
    cases b with
    | true => exact h1 rfl H2 _ (kn.pure e2).1 (kn.pure e2).2
    | false => exact h2 rfl H2 _ (kn.pure e2).1 (kn.pure e2).2
/-- x = [], x = {} : what is made stands nowhere yet -/
def MkE (te : TE) (o : HO) : Prop := ∀ (σ : L2.St) (H : Hp) (Q : VK), (∀ p, H p = none → Q (.ref p) (upd H p o)) → te σ H Q
theorem mk_lst : MkE (tLst tNil) (.lst []) := fun σ H Q q => ⟨by show 0 ≤ sizeLine; decide, q⟩
theorem mk_dict : MkE tDNewK (.dK []) := fun σ H Q q => q
theorem q_new {o : HO} (m : MkE te o) (kn : Kn B H1 H G) (k : ∀ D, G D = none → B D = none → Kn B H1 (upd H D o) (upd G D o) → nx (σ.set i (some (.ref D))) (upd H D o)) : tAsg te (gName i) ⟨nx, rt, bk, ct⟩ σ H :=
  m σ H _ fun D hD => k D (kn.non hD) (kn.bnon hD) (kn.new hD)
/-- l.append(e) -/
theorem q_append {K : PySem.W.Frag} {D : Addr} {xs : List V} (mo : Mo P) (kn : Kn B H1 H G) (hB : B D = none) (hG : G D = some (.lst xs)) (hz : xs.length < 100000) (ho : Ev ta σ G (.ref D)) (h : EvP te σ G P)
    (k : ∀ v H' G', Kn B H1 H' G' → Ex G G' → P G' v → Kn B H1 (upd H' D (.lst (xs ++ [v]))) (upd G' D (.lst (xs ++ [v]))) → nx σ (upd H' D (.lst (xs ++ [v])))) : tDrop (tBM K "list" rAppend ta (tCons te tNil)) ⟨nx, rt, bk, ct⟩ σ H :=
  ho H kn.le _ fun H2 e2 => ⟨Or.inl ⟨rfl, xs, sq_of (e2 D _ (kn.le _ _ hG))⟩, h H2 (kn.le.trans e2) _ fun v H3 e3 p => by
    have e := e2.trans e3
    obtain ⟨k2, e4⟩ := kn.pure e
    exact ⟨D, xs, v, rfl, rfl, e D _ (kn.le _ _ hG), sz_lt hz, k v H3 _ k2 e4 (mo _ _ _ (cut_later e2) p) (k2.upd hB (e4 _ _ hG))⟩⟩
/-- l.extend(e) -/
theorem q_extend {K : PySem.W.Frag} {D : Addr} {xs : List V} {ds : List PyData} (kn : Kn B H1 H G) (hB : B D = none) (hG : G D = some (.lst xs)) (hz : xs.length + ds.length ≤ 100000) (ho : Ev ta σ G (.ref D)) (h : EvP te σ G (is (.list ds)))
    (k : ∀ vs H' G', Kn B H1 H' G' → Ex G G' → DeA G' vs ds → Kn B H1 (upd H' D (.lst (xs ++ vs))) (upd G' D (.lst (xs ++ vs))) → nx σ (upd H' D (.lst (xs ++ vs)))) : tDrop (tBM K "list" rExtend ta (tCons te tNil)) ⟨nx, rt, bk, ct⟩ σ H :=
  ho H kn.le _ fun H2 e2 => ⟨Or.inl ⟨rfl, xs, sq_of (e2 D _ (kn.le _ _ hG))⟩, h H2 (kn.le.trans e2) _ fun v H3 e3 p => by
    have e := e2.trans e3
    obtain ⟨k2, e4⟩ := kn.pure e
    obtain ⟨b, vs, rfl, h1, h2⟩ := De.lst' p
    exact ⟨D, b, xs, vs, rfl, rfl, e D _ (kn.le _ _ hG), cut_le _ _ h1, sz_of (by rw [h2.len]; exact hz), k vs H3 _ k2 e4 (h2.mono (cut_later e2)) (k2.upd hB (e4 _ _ hG))⟩⟩
/-- for x in l: Gk is what stays -/
theorem q_for {α : Type} {wi : TI} {g : TG} {tb : TS} {l : List α} {ι : α → PyData} (Gk : Hp) (kn : Kn B H1 H G) (ek : Ex Gk G) (hw : EvI wi σ Gk (l.map ι)) (Iv : Nat → L2.St → Hp → Prop) (h0 : Iv 0 σ G) (hm : ∀ i σ G G', Iv i σ G → Ex G G' → Iv i σ G')
    (hs : ∀ (i : Nat) (a : α) (Gw : Hp) (σ : L2.St) (H' G' : Hp), l[i]? = some a → Ex Gk Gw → (∀ D o, H D = some o → Gk D = none → Gw D = none) → Ex Gw G' → Kn B H1 H' G' → Iv i σ G' →
      ∃ M : L2.St → Prop, TgP g (ι a) σ G' M ∧ ∀ σ2, M σ2 → tb ⟨fun σ3 H3 => ∃ G3, Kn B H1 H3 G3 ∧ Ex Gw G3 ∧ Iv (i + 1) σ3 G3, rt, nx, fun σ3 H3 => ∃ G3, Kn B H1 H3 G3 ∧ Ex Gw G3 ∧ Iv (i + 1) σ3 G3⟩ σ2 H')
    (hd : ∀ σ' H' G' Gw, Ex Gk Gw → (∀ D o, H D = some o → Gk D = none → Gw D = none) → Ex Gw G' → Kn B H1 H' G' → Iv l.length σ' G' → nx σ' H') : tFor wi g tb ⟨nx, rt, bk, ct⟩ σ H := hw H (ek.trans kn.le) _ fun J H2 e2 wl => by
  have ee : Ex Gk (cut Gk H H2) := cut_base (ek.trans (kn.le.trans e2))
  have e3 : Ex (cut Gk H H2) (cut G H H2) := cut_grow ek
  have frs : ∀ D o, H D = some o → Gk D = none → cut Gk H H2 D = none := fun D o h1 h2 => cut_none h1 h2
  generalize cut Gk H H2 = Gw at wl ee e3 frs
  obtain ⟨k2, e4⟩ := kn.pure e2
  refine for_it (D := ⟨nx, rt, bk, ct⟩) wl (g := g) (tb := tb) (σ := σ) (H := H2) (fun i σ H' => ∃ G', Kn B H1 H' G' ∧ Ex Gw G' ∧ Iv i σ G') ⟨_, k2, e3, hm _ _ _ _ h0 e4⟩ (fun i σ H' _ ⟨G', a, b, _⟩ => b.trans a.le) ?_ ?_
  · rintro i x σ3 H3 H4 hi ⟨G3, k3, e5, iv⟩ ⟨y1, d, y2, y3⟩
    obtain ⟨a, ha, rfl⟩ : ∃ a, l[i]? = some a ∧ ι a = d := by
      rw [List.getElem?_map] at y2
      exact Option.map_eq_some_iff.mp y2
    obtain ⟨k4, e6⟩ := k3.pure y1
    obtain ⟨Mσ, tg, hb⟩ := hs i a Gw σ3 H4 _ ha ee frs (e5.trans e6) k4 (hm _ _ _ _ iv e6)
    exact tg x (y3.mono (cut_grow e5)) H4 k4.le _ fun σ2 m => hb σ2 m
  · rintro σ3 H3 ⟨G3, k3, e5, iv⟩
    rw [List.length_map] at iv
    exact hd σ3 H3 G3 Gw ee frs e5 k3 iv
/-- while -/
theorem q_while {c : TT} {tb : TS} (kn : Kn B H1 H G) (Iv : Nat → L2.St → Hp → Prop) {m : Nat} (h0 : Iv m σ G)
    (hs : ∀ m σ H G, Kn B H1 H G → Iv m σ G → ∃ b, EvT c σ G b ∧ (b = true → ∀ H' G', Kn B H1 H' G' → Ex G G' → tb ⟨fun σ3 H3 => ∃ m' G3, m' < m ∧ Kn B H1 H3 G3 ∧ Iv m' σ3 G3, rt, nx, fun σ3 H3 => ∃ m' G3, m' < m ∧ Kn B H1 H3 G3 ∧ Iv m' σ3 G3⟩ σ H') ∧
      (b = false → ∀ H' G', Kn B H1 H' G' → Ex G G' → nx σ H')) : tWhile c tb ⟨nx, rt, bk, ct⟩ σ H := by
  refine ⟨fun m σ H => ∃ G, Kn B H1 H G ∧ Iv m σ G, ⟨m, G, kn, h0⟩, ?_⟩
  rintro m σ H ⟨G, kn, iv⟩
  obtain ⟨b, hb, h1, h2⟩ := hs m σ H G kn iv
  refine hb H kn.le _ fun H2 e2 => ?_
  obtain ⟨k2, e3⟩ := kn.pure e2
  cases b with
  | true => exact ⟨fun σ3 H3 => ∃ m' G3, m' < m ∧ Kn B H1 H3 G3 ∧ Iv m' σ3 G3, fun σ' H' ⟨m', G3, h1, h2, h3⟩ => ⟨m', h1, G3, h2, h3⟩, h1 rfl H2 _ k2 e3⟩
  | false => exact h2 rfl H2 _ k2 e3
end
end Q
/-! K75R3 -/
set_option Elab.async false
set_option linter.all false
set_option maxRecDepth 100000
set_option maxHeartbeats 4000000
/-! Rules of our own: x in d.values(). -/
namespace Q
open PySem PySem.Spec PyProof.Rows L2 Evl
/-! ### the iteration behind `in` -/
theorem entry_ci : entryFor table "proto.contains_iter" = some Builtin.«proto.contains_iter» := entryFor_of_tree (by kernel_rfl)
theorem noContains_values : typeLookup (.type "dict_values") "__contains__" = pure none := by rw [typeLookup_type, builtinLookup_eq_fast]; kernel_rfl
section
variable {prog : Program} {w : World} {K : Type} [DecidableEq K] {knd : KeyKind prog w K}
theorem ci_loop {it d : Addr} {ep : Nat} {kvs : List (K × Value)} {ns : List Int} {x : Int} {tx : Tok} {R : Result → Shared → Prop} (hne : it ≠ d) (hlen : ns.length = kvs.length) (hv : ∀ (i : Nat) (p : K × Value), kvs[i]? = some p → ∃ n t, ns[i]? = some n ∧ p.2 = .int n t) : ∀ (r i : Nat) (A : Around) (s : Shared), i + r = kvs.length → A.handled = none →
    s.heap.IsValIter it d i kvs.length ep → s.heap.DictAt knd d kvs ep →
    (∀ h' : Heap, (∀ b o, b ≠ it → s.heap.get? b = some o → h'.get? b = some o) → R (.ok (.ret (.bool (decide (x ∈ ns.drop i))))) { s with heap := h' }) →
    codeAny (model prog w) A (.builtin "proto.contains_iter" ⟨[.ref it, .int x tx], []⟩) R s
  | 0, i, A, s, hi, hh, st, dd, hR => by
    refine codeAny_builtin entry_ci ?_
    unfold Builtin.«proto.contains_iter»
    have hl : kvs[i]? = none := by simp; omega
    have hh2 : (A.under (.builtin "proto.contains_iter" ⟨[.ref it, .int x tx], []⟩)).handled = none := hh
    refine wpAny_bind (wpAny_pyNext_values_end hh2 st dd hl fun h' e => ?_)
    refine wpAny_bind (wpAny_rule ?_)
    refine wpAny_pure ?_
    have hn : ns.drop i = [] := by
      simp
      omega
    have := hR h' fun b o n q => e b o n q
    rw [hn] at this
    exact this
  | r + 1, i, A, s, hi, hh, st, dd, hR => by
    refine codeAny_builtin entry_ci ?_
    unfold Builtin.«proto.contains_iter»
    have hlt : i < kvs.length := by omega
    have hl : kvs[i]? = some (kvs[i].1, kvs[i].2) := List.getElem?_eq_getElem hlt
    obtain ⟨n, t, hn, hvt⟩ := hv i _ hl
    have hnl : i < ns.length := by omega
    have hd : ns.drop i = n :: ns.drop (i + 1) := by
      rw [List.getElem?_eq_getElem hnl] at hn
      cases hn
      exact List.drop_eq_getElem_cons hnl
    refine wpAny_bind (wpAny_pyNext_values_item (k := kvs[i].1) (v := kvs[i].2) st dd hl fun h' st' sb => ?_)
    have hvt : kvs[i].2 = .int n t := hvt
    rw [hvt]
    refine wpAny_bind (wpAny_eqBool_int ?_)
    cases hq : (n == x) with
    | true =>
      refine wpAny_bind (wpAny_rule (wpAny_pure ?_))
      have e : n = x := by simpa using hq
      have := hR h' fun b o n' q => (sb.2 b n').trans q
      rw [hd, e] at this
      simpa using this
    | false =>
      have e : ¬ n = x := by simpa using hq
      refine wpAny_pure ⟨(by kernel_rfl), ci_loop hne hlen hv r (i + 1) A _ (by omega) hh st' ?_ fun h2 k2 => ?_⟩
      · obtain ⟨od, es, hod, r⟩ := dd
        exact ⟨od, es, (sb.2 d hne.symm).trans hod, r⟩
      · have := hR h2 fun b o n' q => k2 b o n' ((sb.2 b n').trans q)
        rw [hd] at this
        have e2 : decide (x ∈ n :: ns.drop (i + 1)) = decide (x ∈ ns.drop (i + 1)) := by
          apply decide_eq_decide.mpr
          rw [List.mem_cons]
          constructor
          · rintro (h | h)
            · exact absurd h.symm e
            · exact h
          · exact .inr
        rw [e2] at this
        exact this
/-- x in v, v the values of d -/
theorem contains_vals {A : Around} {E : Value → Shared → Prop} {s : Shared} {v d : Addr} {ep : Nat} {kvs : List (K × Value)} {ns : List Int} {x : Int} {tx : Tok} {Q : Bool → Shared → Prop} (hh : A.handled = none) (hv : s.heap.IsValuesView v d) (dd : s.heap.DictAt knd d kvs ep) (hlen : ns.length = kvs.length)
    (hn : ∀ (i : Nat) (p : K × Value), kvs[i]? = some p → ∃ n t, ns[i]? = some n ∧ p.2 = .int n t)
    (hQ : ∀ h' : Heap, (∀ b o, s.heap.get? b = some o → h'.get? b = some o) → Q (decide (x ∈ ns)) { s with heap := h' }) : wpAny (model prog w) A (contains (.ref v) (.int x tx)) Q E s := by
  unfold contains
  refine wpAny_holding ?_
  rw [stdlibNamesSay?_of_typeIs hv.typeIs]
  refine wpAny_bind (wpAny_specialOf hv.typeIs noContains_values ?_)
  show wpAny _ A (if ((none : Option Value) == some Value.none) = true then _ else _) Q E s
  rw [if_neg (by simp)]
  refine wpAny_bind (wpAny_callSpecialUnlessNone?_none hv.typeIs noContains_values ?_)
  refine wpAny_bind (wpAny_rule ?_)
  refine wpAny_bind (wpAny_tryCatch (wpAny_pyIter_values hv dd ?_))
  have hd : d < s.heap.objs.size := by
    obtain ⟨od, es, hod, _⟩ := dd
    exact Heap.lt_size hod
  refine wpAny_bind (wpAny_runValue ?_)
  refine ci_loop (knd := knd) (d := d) (ep := ep) (kvs := kvs) (ns := ns) (Nat.ne_of_gt hd) hlen hn kvs.length 0 A _ (by omega) hh ⟨_, Heap.get?_push_size _ rfl, rfl, rfl⟩ ?_ fun h' k => ?_
  · obtain ⟨od, es, hod, r⟩ := dd
    exact ⟨od, es, Heap.get?_push_of_some _ hod, r⟩
  · refine wpAny_pure ?_
    exact hQ h' fun b o q => k b o (fun z => by rw [z] at q; exact absurd (Heap.lt_size q) (Nat.lt_irrefl _)) (Heap.get?_push_of_some _ q)
end
end Q
/-! K75R4 -/
set_option Elab.async false
set_option linter.all false
set_option maxRecDepth 100000
set_option maxHeartbeats 4000000
/-! Rules of our own: d.values() as a value, in it; a dict that stays; enumerate over a tuple. -/
namespace Q
open PySem PySem.Spec PyProof.Rows L2 Evl
theorem paired_get {α β : Type} {F : α → β → Prop} : ∀ {l : List α} {m : List β} {j : Nat} {b : β}, Paired F l m → m[j]? = some b → ∃ a, l[j]? = some a ∧ F a b
  | _, _, _, _, .nil, e => by simp at e
  | _, _, 0, _, .cons r _, e => by simp at e; subst e; exact ⟨_, rfl, r⟩
  | _, _, j + 1, _, .cons _ t, e => by simpa using paired_get (j := j) t (by simpa using e)
section
variable {X : Cx}
def rVals : V → List V → Hp → VK → Prop := fun x xs H Q => ∃ (a : Addr) (kvs : List (Key × V)), x = .ref a ∧ xs = [] ∧ H a = some (.dK kvs) ∧ ∀ p, H p = none → Q (.ref p) (upd H p (viewO "dict_values" p a))
theorem mt_values : MtR X "dict.values" rVals := by
  intro pins s σ H x xs v us Q I rx rxs h
  obtain ⟨a, kvs, rfl, rfl, ha, q⟩ := h
  cases rx
  cases rxs
  obtain ⟨z, hs, vs, kv, dd⟩ := dk_of I.hok ha
  refine call_meetsIn F.slot_dict_values dd.typeIs F.entry_dict_values (F.args_dict_values_1 _) (meets_dict_values (mixKind X.prog X.w) a hs) ⟨⟨vs, dd⟩, ?_⟩
  exact ⟨.ref s.heap.objs.size, _, I.laid (t' := s.toks) (fun b o q => Heap.get?_push_of_some _ q) (Nat.le_refl _) (viewO_ok (Heap.get?_push_size _ rfl)), rfl, q _ (I.hok.fresh (Nat.le_refl _))⟩
theorem pe_values {e : Expr} {td : TE} {apos cpos : Pos} (he : PE X e td) (hbase : attributeBase e "values" X.env (eval e X.env) = eval e X.env := by rfl) (hline : (apos.endLine == cpos.line) = true := by rfl) : PE X (.Call (.Attribute e "values" apos) [] [] cpos) (tBM0 X.K "dict" rVals td) :=
  pe_bm0 F.plainAttrs_dict F.slot_dict_values F.type_dict_values mt_values he hbase hline
theorem kValues (K : PySem.W.Frag) {e : Expr} {td : TE} {apos cpos : Pos} (he : PE X e td) (h : X.K = K := by rfl) (hbase : attributeBase e "values" X.env (eval e X.env) = eval e X.env := by rfl) (hline : (apos.endLine == cpos.line) = true := by rfl) : PE X (.Call (.Attribute e "values" apos) [] [] cpos) (tBM0 K "dict" rVals td) := by subst h; exact pe_values he hbase hline
/-- x in v, x not in v: v the values of a dict of ints -/
def rInV (neg : Bool) : R2 := fun x y H Q => ∃ (p a : Addr) (kvs : List (Key × V)) (ns : List Int) (i : Int), x = .int i ∧ y = .ref p ∧ H p = some (viewO "dict_values" p a) ∧ H a = some (.dK kvs) ∧ kvs.map (·.2) = ns.map V.int ∧ Q (.bl (if neg then !decide (i ∈ ns) else decide (i ∈ ns))) H
theorem inV_core {pins : List (Addr × Obj)} {s : Shared} {σ : L2.St} {H : Hp} {p a : Addr} {kvs : List (Key × V)} {ns : List Int} {i : Int} {t : Tok} {Q : Bool → Shared → Prop} (hc : X.calm = true) (I : Inv X pins σ H s) (hp : H p = some (viewO "dict_values" p a)) (ha : H a = some (.dK kvs)) (hn : kvs.map (·.2) = ns.map V.int)
    (q : ∀ h', (∀ b o, s.heap.get? b = some o → h'.get? b = some o) → Q (decide (i ∈ ns)) { s with heap := h' }) : wpAny (model X.prog X.w) X.A (contains (.ref p) (.int i t)) Q X.xe s := by
  obtain ⟨z, hs, vs, kv, dd⟩ := dk_of I.hok ha
  have hv : s.heap.get? p = some (DSub.viewOb "dict_values" a) := (show ObjOk X.prog X.w H s.heap p (viewO "dict_values" p a) from I.hok p _ hp).1
  obtain ⟨ep, da⟩ := dd.dictAt
  have l1 : kvs.length = vs.length := Paired.length kv
  have l2 : kvs.length = ns.length := by
    have := congrArg List.length hn
    simpa using this
  refine contains_vals (knd := mixKind X.prog X.w) (ns := ns) (I.ok.hd hc) ⟨_, hv, rfl, rfl⟩ da (by omega) (fun j pv hj => ?_) q
  have hjv : j < vs.length := by
    rcases Nat.lt_or_ge j vs.length with h | h
    · exact h
    · rw [List.getElem?_eq_none h] at hj; cases hj
  have hjk : j < kvs.length := by omega
  have hjn : j < ns.length := by omega
  have e2 : kvs[j].2 = V.int ns[j] := by
    have z : (kvs.map (·.2))[j]? = (ns.map V.int)[j]? := by rw [hn]
    rw [List.getElem?_map, List.getElem?_map, List.getElem?_eq_getElem hjk, List.getElem?_eq_getElem hjn] at z
    exact Option.some.inj z
  obtain ⟨kp, hkp, r⟩ := paired_get kv hj
  rw [List.getElem?_eq_getElem hjk] at hkp
  cases hkp
  have r2 : RelV kvs[j].2 pv.2 := r.2
  rw [e2] at r2
  obtain ⟨t, ht⟩ := r2
  exact ⟨ns[j], t, List.getElem?_eq_getElem hjn, ht⟩
theorem op_notInV (hc : X.calm = true) : OpR X (compareOp .NotIn) (rInV true) := by
  intro pins s σ H x y v u Q I rx ry h
  obtain ⟨p, a, kvs, ns, i, rfl, rfl, hp, ha, hn, q⟩ := h
  cases ry
  obtain ⟨t, rfl⟩ := rx
  show wpAny _ _ (do return Value.bool (!(← contains (.ref p) (.int i t)))) _ _ s
  exact wpAny_bind (inV_core hc I hp ha hn fun h' k => wpAny_pure ⟨.bl (!decide (i ∈ ns)), H, I.kept (t' := s.toks) k, rfl, q⟩)
theorem op_inV (hc : X.calm = true) : OpR X (compareOp .In) (rInV false) := by
  intro pins s σ H x y v u Q I rx ry h
  obtain ⟨p, a, kvs, ns, i, rfl, rfl, hp, ha, hn, q⟩ := h
  cases ry
  obtain ⟨t, rfl⟩ := rx
  show wpAny _ _ (do return Value.bool (← contains (.ref p) (.int i t))) _ _ s
  exact wpAny_bind (inV_core hc I hp ha hn fun h' k => wpAny_pure ⟨.bl (decide (i ∈ ns)), H, I.kept (t' := s.toks) k, rfl, q⟩)
/-- a dict that stays as it is -/
def tFrz (td : TE) : TE := fun σ H Q => td σ H fun x H1 => ∃ d u, x = .ref d ∧ H1 d = some u ∧ Mut (some u) ∧ ∀ od, Q (.ref d) (upd H1 d (.frz od u))
theorem pe_frz {e : Expr} {td : TE} (he : PE X e td) : PE X e (tFrz td) := by
  refine ⟨fun pins s σ H Q I h => ?_⟩
  refine thn (he.run pins s σ H _ I h) fun v s1 ⟨x, H1, I1, rx, d, u, ex, hd, mu, q⟩ => ?_
  subst ex
  obtain ⟨od, I2⟩ := I1.lock hd mu
  exact ⟨.ref d, _, I2, rx, q od⟩
end
end Q
/-! K75R5 -/
set_option Elab.async false
set_option linter.all false
set_option maxRecDepth 100000
set_option maxHeartbeats 4000000
/-! Rules of our own: enumerate over a tuple. -/
namespace Q
open PySem PySem.Spec PyProof.Rows L2 Evl
set_option maxHeartbeats 1000000 in
theorem meets_enum1 {v : Value} {o : Obj} {H : Heap → Prop} (B : Begins v o H) :
    Meets (Builtin.«enumerate.__new__» ⟨[.type "enumerate", v], []⟩) (fun _ R s => H s.heap ∧
      R (.ok (.ret (.ref (s.heap.push o).objs.size))) { s with heap := (s.heap.push o).push { cls := .type "enumerate", data := .fields #[.none, .bool false, .ref s.heap.objs.size, rawInt 0, .none, .none] } }) :=
  .of_wp fun prog w A R s h => by
    obtain ⟨hp, g, d, tk, os⟩ := s; obtain ⟨h1, h⟩ := h
    have hsub := sub_enumerate
    have q1 : ∀ {A' : Around} {E : Value → Shared → Prop} {Q : Value → Shared → Prop}, Q (.ref hp.objs.size) ⟨hp.push o, g, d, tk, os⟩ → wpAny (model prog w) A' (pyIter v) Q E ⟨hp, g, d, tk, os⟩ :=
      fun q => B.iter prog w _ _ ⟨hp, g, d, tk, os⟩ _ h1 q
    wp_walk using q1
    refine wpAny_stack_any fun st => wpAny_pure ?_
    split
    · rename_i c _ _ _ _ _
      cases (c == Value.type "enumerate")
      · wp_walk using q1
        exact ⟨_, rfl, h⟩
      · wp_walk using q1
        exact ⟨_, rfl, h⟩
    · wp_walk using q1
      exact ⟨_, rfl, h⟩
theorem enum1_begins {prog : Program} {w : World} {A : Around} {E : Value → Shared → Prop} {s : Shared} {v : Value} {o : Obj} {H : Heap → Prop} {Q : Value → Shared → Prop} (B : Begins v o H) (h1 : H s.heap)
    (h : ∀ h', IsEnum h' (s.heap.objs.size + 1) s.heap.objs.size 0 .none → h'.get? s.heap.objs.size = some o → h'.objs.size = s.heap.objs.size + 2 →
      (∀ b o, s.heap.get? b = some o → h'.get? b = some o) → Q (.ref (s.heap.objs.size + 1)) { s with heap := h' }) :
    wpAny (model prog w) A (call (.type "enumerate") [v]) Q E s := by
  refine callType_new F.called_enumerate (by decide) (F.typeCall_enumerate_1 _) (F.newCall_enumerate_1 _) (fun obj => F.args_object_init_2 obj _) F.entry_enumerate_new (meets_enum1 B) ⟨h1, ?_⟩
  have hz : (s.heap.push o).objs.size = s.heap.objs.size + 1 := Heap.size_push ..
  show _ ∧ _
  rw [hz]
  have he : IsEnum ((s.heap.push o).push { cls := .type "enumerate", data := .fields #[.none, .bool false, .ref s.heap.objs.size, rawInt 0, .none, .none] }) (s.heap.objs.size + 1) s.heap.objs.size 0 .none := by
    have := Heap.get?_push_size (s.heap.push o) (o := { cls := .type "enumerate", data := .fields #[.none, .bool false, .ref s.heap.objs.size, rawInt 0, .none, .none] }) rfl
    rw [hz] at this; exact this
  refine ⟨⟨_, he, rfl⟩, h _ he (Heap.get?_push_of_some _ (Heap.get?_push_size _ B.free)) (by rw [Heap.size_push, hz]) fun b o x => Heap.get?_push_of_some _ (Heap.get?_push_of_some _ x)⟩
/-- the tuple at a, each item in a new pair -/
def IteT (K : PySem.W.Frag) (a : Addr) : It :=
  ⟨fun i H => ∃ (xs : List V) (x : V), SqT K H a xs ∧ xs[i]? = some x, fun i H v H' => ∃ T x, v = .ref T ∧ H T = none ∧ H' = upd H T (.tup [.int (i : Nat), x]) ∧ ∀ xs, SqT K H a xs → xs[i]? = some x, fun i H => ∃ xs : List V, SqT K H a xs ∧ xs.length = i⟩
theorem turn_enumT {P : Program} {w : World} {K : PySem.W.Frag} {elts : List Expr} {kk : Nat} {tpos : Pos} (a e it : Addr) (hae : a ≠ e) (hai : a ≠ it) :
    Turn P w K (.Tuple elts kk tpos) (IteT K a) [e, it] e (fun i h => (∃ old, IsEnum h e it ((i : Nat) : Int) old) ∧ h.IsTupleIter it a i ∧ e ≠ it) where
  mem := by simp
  obj := fun i h st b hb => by
    obtain ⟨⟨old, he⟩, ⟨o, ho, hc, hd⟩, _⟩ := st
    have e' : b = e ∨ b = it := by simpa using hb
    rcases e' with z | z
    · rw [z]; exact ⟨_, he, fun v q => nomatch q⟩
    · rw [z]; exact ⟨o, ho, fun v q => by rw [hd] at q; cases q⟩
  keep := fun i h h' st k => let ⟨⟨old, he⟩, hi, hne⟩ := st; ⟨⟨old, k e (by simp) _ he⟩, hi.at fun o q => k it (by simp) o q, hne⟩
  item := by
    intro X hP hw hK hc i pins s σ H E I hf st hg
    subst hP hw hK
    obtain ⟨⟨old, he⟩, hit, hne⟩ := st
    obtain ⟨xs, x, hq, hx⟩ := hg
    obtain ⟨its, rv, p, hz⟩ := I.tuple hq
    obtain ⟨u, hu, ru⟩ := rv.get hx
    have hel : e < s.heap.objs.size := Heap.lt_size he
    have hil : it < s.heap.objs.size := by obtain ⟨_, q, _⟩ := hit; exact Heap.lt_size q
    have D := Draws.tuple (prog := X.prog) (w := X.w) (A := X.A.in1) (show X.A.in1.handled = none from I.ok.hd hc) it a hai its.toArray
    have hlt : i < its.toArray.size := by
      rcases Nat.lt_or_ge i its.toArray.size with z | z
      · exact z
      · have : its[i]? = none := List.getElem?_eq_none (by simpa using z)
        rw [hu] at this
        cases this
    refine wpAny_pyNext_enum_itemD D he ⟨hit, p⟩ hlt hne (by simp [hne, hae.symm]) fun x' h' tk hx' ho hst hT hsz hk => ?_
    obtain ⟨hit', hp'⟩ := hst
    have hxu : x' = u := by
      have : its[i]? = some x' := by simpa using hx'
      rw [hu] at this
      exact (Option.some.inj this).symm
    subst hxu
    refine ⟨_, rfl, wpAny_letOwnedTupleGo_enum (s := { s with heap := h', toks := tk + 1 }) ho fun h'' he' sb => ?_⟩
    have hT2 : h''.get? s.heap.objs.size = some { cls := .type "tuple", data := .seq #[.int i tk, x'] } := (sb.2 _ (Nat.ne_of_gt hel)).trans hT
    have new : ObjOk X.prog X.w (upd H s.heap.objs.size (.tup [.int (i : Nat), x])) h'' s.heap.objs.size (.tup [.int (i : Nat), x]) :=
      ⟨by show 2 ≤ sizeLine; decide, [.int i tk, x'], .cons ⟨_, rfl⟩ (.cons ru .nil), ⟨_, hT2, rfl, _, rfl⟩⟩
    have I1 : Inv X pins σ (upd H s.heap.objs.size (.tup [.int (i : Nat), x])) { s with heap := h'', toks := tk + 1 } :=
      I.turnedNew (ch := [e, it]) (fun b ob hb q => (sb.2 b (fun z => hb (by simp [z]))).trans (hk b ob (fun z => hb (by simp [z])) (fun z => hb (by simp [z])) q)) hf (Nat.le_refl _) new
    refine ⟨.ref s.heap.objs.size, _, I1, rfl, ⟨_, x, rfl, I.hok.fresh (Nat.le_refl _), rfl, fun ys hy => by rw [I.tuple_inj hy hq]; exact hx⟩, ⟨⟨x', ?_⟩, hit'.at fun o q => (sb.2 it (Ne.symm hne)).trans q, hne⟩, fun b hb => ?_⟩
    · have e1 : ((i + 1 : Nat) : Int) = (i : Int) + 1 := by omega
      rw [e1]; exact he'
    · have hb' : b < s.heap.objs.size := by
        have e' : b = e ∨ b = it := by simpa using hb
        rcases e' with z | z
        · rw [z]; exact hel
        · rw [z]; exact hil
      rw [upd_ne (Nat.ne_of_lt hb')]
      exact (hf b hb).1
  done := by
    intro X hP hw hK hc i pins s σ H E I hf st hg
    subst hP hw hK
    obtain ⟨⟨old, he⟩, hit, hne⟩ := st
    obtain ⟨xs, hq, hx⟩ := hg
    obtain ⟨its, rv, p, hz⟩ := I.tuple hq
    obtain ⟨f0, f1, f2, f3, f4, f5⟩ := hf it (by simp)
    have hl := rv.length
    have D := Draws.tuple (prog := X.prog) (w := X.w) (A := X.A.in1) (show X.A.in1.handled = none from I.ok.hd hc) it a hai its.toArray
    have hi : i = its.toArray.size := by simp; omega
    rw [hi] at hit
    exact wpAny_pyNext_enum_endD D he ⟨hit, p⟩ fun h' eb => ⟨rfl, I.turned (t' := s.toks) (fun b o hb q => eb b o hb q) f0 f1 f3 f4 f5⟩
  self := fun A i s Q E st h => let ⟨⟨_, he⟩, _⟩ := st; wpAny_pyIter_enum he h
def iEnumT (K : PySem.W.Frag) (ta : TA) : TI := fun σ H R => ta σ H fun vs H1 => ∃ a xs, vs = [.ref a] ∧ SqT K H1 a xs ∧ R (IteT K a) H1
theorem pi_enumT {X : Cx} {e : Expr} {ta : TA} {p pos tpos : Pos} {elts : List Expr} {kk : Nat} (hg : Gl X "enumerate") (hm : X.mg "enumerate" = none) (ha : PA X [e] ta) (hs : starEach [e] X.env = [(false, eval e X.env)] := by rfl) :
    PI X (.Tuple elts kk tpos) (.Call (.Name "enumerate" p) [e] [] pos) (iEnumT X.K ta) := by
  refine ⟨fun pins s σ H R I h => ?_⟩
  refine Call_ (ld_blt I hg hm boot_enumerate (PyProof.Rows.callWith_type1 (thn (ha.run pos pins s σ H _ I h) fun us s1 ⟨vs, H1, I1, r1, q1⟩ => ?_) hs rfl))
  obtain ⟨a, xs, ex, hq, q⟩ := q1
  subst ex
  cases r1 with
  | cons r rr =>
    cases rr
    cases r
    obtain ⟨its, rv, p', hz⟩ := I1.tuple hq
    have hal : a < s1.heap.objs.size := by
      obtain ⟨o, ho, _⟩ := p'
      exact Heap.lt_size ho
    refine enum1_begins (begins_tuple a its.toArray) p' fun h' he hit hsz hk => wpAny_pyIter_enum he ?_
    have I2 : Inv X pins σ H1 { s1 with heap := h' } := I1.kept (t' := s1.toks) hk
    refine ⟨s1.heap.objs.size + 1, [s1.heap.objs.size + 1, s1.heap.objs.size], _, _, H1, rfl, I2, turn_enumT a (s1.heap.objs.size + 1) s1.heap.objs.size (Nat.ne_of_lt (Nat.lt_succ_of_lt hal)) (Nat.ne_of_lt hal), ⟨⟨.none, he⟩, ⟨_, hit, rfl, rfl⟩, Nat.succ_ne_self _⟩, fun b hb => ?_, q⟩
    have e' : b = s1.heap.objs.size + 1 ∨ b = s1.heap.objs.size := by simpa using hb
    have hle : s1.heap.objs.size ≤ b := by
      rcases e' with z | z
      · rw [z]; exact Nat.le_add_right _ _
      · rw [z]; exact Nat.le_refl _
    exact I1.fpOk hle (I1.hok.fresh hle)
section
variable {σ : L2.St} {B : Hp} {K : PySem.W.Frag}
/-- the pairs of enumerate -/
def enI {α : Type} (ι : α → PyData) (p : α × Nat) : PyData := .tuple [nt p.2, ι p.1]
theorem wl_enumT {a : Addr} {xs : List V} {α : Type} {ι : α → PyData} {l : List α} (h : B a = some (.tup xs)) (hd : DeA B xs (l.map ι)) : Wl (IteT K a) B (l.zipIdx.map (enI ι)) := by
  have hl : (l.zipIdx.map (enI ι)).length = xs.length := by rw [hd.len]; simp
  unfold Wl
  rw [hl]
  refine ⟨fun i H hi e => ⟨xs, xs[i], st_of (e _ _ h), List.getElem?_eq_getElem hi⟩, fun H e => ⟨xs, st_of (e _ _ h), rfl⟩, ?_⟩
  rintro i H x H' hi e ⟨T, u, rfl, hT, rfl, hu⟩
  have hx := hu xs (st_of (e _ _ h))
  obtain ⟨d, h1, h2⟩ := hd.of hx
  rw [List.getElem?_map] at h1
  obtain ⟨b, hb, rfl⟩ := Option.map_eq_some_iff.mp h1
  refine ⟨Ex.new hT, enI ι (b, i), ?_, ?_⟩
  · rw [List.getElem?_map, List.getElem?_zipIdx, hb]
    simp
  · exact .tup (by rw [cut_new hT, upd_same]) (.cons (.int _) (.cons (h2.mono (cut_base (e.trans (Ex.new hT)))) .nil))
theorem wi_enumT {tl : TE} {α : Type} {ι : α → PyData} {l : List α} (h : EvP tl σ B (is (.tuple (l.map ι)))) : EvI (iEnumT K (tCons tl tNil)) σ B (l.zipIdx.map (enI ι)) := fun H1 e R r =>
  (da_cons h da_nil) H1 e _ fun vs H2 e2 p => by
    obtain ⟨v, rfl, p1⟩ := p.one
    obtain ⟨a, xs, rfl, h1, h2⟩ := De.tup' p1
    exact ⟨a, xs, rfl, st_of (cut_le _ _ h1), r _ H2 e2 (wl_enumT h1 h2)⟩
end
end Q
/-! K75D5 -/
set_option Elab.async false
set_option linter.all false
set_option maxRecDepth 100000
set_option maxHeartbeats 4000000
/-! Links.best. -/
namespace Q
open PySem PySem.Spec PyProof.Rows L2 Evl SlX
open M (Ln Fr)
section
variable {σ : L2.St} {B : Hp} {ta td te : TE} {K : PySem.W.Frag} {P : PV}
theorem ep_notInV {i : Int} {a : Addr} {kvs : List (Key × V)} {ns : List Int} (ha : EvP ta σ B (is (.int i))) (hd : Ev td σ B (.ref a)) (hk : B a = some (.dK kvs)) (hn : kvs.map (·.2) = ns.map V.int) :
    EvP (tOp (rInV true) ta (tBM0 K "dict" rVals td)) σ B (is (.bool (!decide (i ∈ ns)))) := fun H1 e1 Q q =>
  ha H1 e1 _ fun x H2 e2 p => hd H2 (e1.trans e2) _ fun H3 e3 => ⟨.inr (.inr (.inl ⟨rfl, .inl ⟨kvs, ((e1.trans e2).trans e3) _ _ hk⟩⟩)), a, kvs, rfl, rfl, ((e1.trans e2).trans e3) _ _ hk, fun v hv =>
    ⟨v, a, kvs, ns, i, De.int' p, rfl, upd_same, Ex.new hv _ _ (((e1.trans e2).trans e3) _ _ hk), hn, q _ _ ((e2.trans e3).trans (Ex.new hv)) (.bl _)⟩⟩
/-- min of the pairs (en g, g) -/
theorem ep_minG {en : Nat → Int} {l : List Nat} {g : Nat} (hg : M.IsLeast en l g) (ha : EvP ta σ B (is (.list (l.map fun g => pr (en g, (g : Int)))))) : EvP (tCB rMinP (tCons ta tNil)) σ B (is (pr (en g, (g : Int)))) :=
  ep_cb1 ha mo_is fun x G e p => fun H1 e1 Q q => by
    obtain ⟨a, xs, rfl, h1, h2⟩ := De.lst' p
    have hl : l.map (fun g => pr (en g, (g : Int))) = (l.map fun g => (en g, (g : Int))).map pr := by rw [List.map_map]; rfl
    rw [hl] at h2
    cases hq : l.map fun g => (en g, (g : Int)) with
    | nil =>
      have := hg.mem
      rw [List.map_eq_nil_iff.mp hq] at this
      cases this
    | cons p0 r =>
      rw [hq] at h2
      refine ⟨a, xs, p0, r, rfl, e1 _ _ h1, h2.mono e1, fun v z j hj hz hm hmin => q v H1 (Ex.refl _) ?_⟩
      obtain ⟨d, k1, k2⟩ := h2.of hj
      rw [hz] at k1
      cases k1
      rw [← hq] at hm hmin
      obtain ⟨h, hh, rfl⟩ := List.mem_map.mp hm
      have h3 := hmin _ (List.mem_map.mpr ⟨g, hg.mem, rfl⟩)
      rw [prB_no] at h3
      have h4 := hg.le h hh
      unfold M.lexle at h4
      have h3' : ¬ (en g < en h ∨ (en g = en h ∧ (g : Int) < (h : Int))) := h3
      have e3 : en g = en h ∧ g = h := by omega
      rw [e3.1, e3.2]
      exact k2.mono (cut_base e1)
end
section
variable {B H1 H G : Hp} {σ : L2.St} {te ta tb : TE} {P : PV} {nx : L2.St → Hp → Prop} {rt : VK} {bk ct : L2.St → Hp → Prop}
theorem ret_of {ts : TS} {R : PV} (h : ∀ (H1 : Hp) (nx : L2.St → Hp → Prop) (rt : VK) (bk ct : L2.St → Hp → Prop), Kn B H1 H1 B → (∀ v H' G', Kn B H1 H' G' → R G' v → rt v H') → ts ⟨nx, rt, bk, ct⟩ σ H1) : RetP ts σ B R := fun H1 e D _ r =>
  h H1 D.nx D.rt D.bk D.ct (Kn.start e) fun v H' G' kn p => r v H' kn.e (by rw [← kn.g]; exact p)
/-- d[k] = e -/
theorem q_dput {D : Addr} {kvs : List (Key × V)} {i : Int} (mo : Mo P) (kn : Kn B H1 H G) (hB : B D = none) (hG : G D = some (.dK kvs)) (hz : kvs.length < 100000) (hv : EvP te σ G P) (ho : Ev ta σ G (.ref D)) (hk : EvP tb σ G (is (.int i)))
    (k : ∀ v H' G', Kn B H1 H' G' → Ex G G' → P G' v → Kn B H1 (upd H' D (.dK (putK kvs (.inl i) v))) (upd G' D (.dK (putK kvs (.inl i) v))) → nx σ (upd H' D (.dK (putK kvs (.inl i) v)))) : sDPut ta tb te ⟨nx, rt, bk, ct⟩ σ H :=
  hv H kn.le _ fun v H2 e2 p => ho H2 (kn.le.trans e2) _ fun H3 e3 => hk H3 ((kn.le.trans e2).trans e3) _ fun y H4 e4 p4 => by
    have e := (e2.trans e3).trans e4
    obtain ⟨k2, e5⟩ := kn.pure e
    exact ⟨D, _, rfl, .inl ⟨kvs, .inl i, e _ _ (kn.le _ _ hG), De.int' p4, sz_lt hz, rfl⟩, k v H4 _ k2 e5 (mo _ _ _ (cut_mono (e3.trans e4)) p) (k2.upd hB (e5 _ _ hG))⟩
end
theorem range_at {n t a : Nat} (h : (List.range n)[t]? = some a) : a = t ∧ t < n := by
  have hl : t < n := by
    have := (List.getElem?_eq_some_iff.mp h).1
    simpa using this
  rw [List.getElem?_range hl] at h
  exact ⟨(Option.some.inj h).symm, hl⟩
theorem living_len {ls : List Ln} {k : Option Int} {f : Fr} {t : Nat} : (M.living ls k f t).length ≤ ls.length := by
  unfold M.living
  exact Nat.le_trans (List.length_filter_le _ _) givers_len
theorem wo_mono {Ds : List Addr} {G G' : Hp} (e : Ex G G') : Ex (wo Ds G) (wo Ds G') := fun b o h => by
  unfold wo at h ⊢
  split at h
  · cases h
  · rename_i n; rw [if_neg n]; exact e _ _ h
theorem wo_upd {Ds : List Addr} {G : Hp} {D : Addr} {o : HO} (hD : D ∈ Ds) : Ex (wo Ds G) (wo Ds (upd G D o)) := fun b o h => by
  unfold wo at h ⊢
  split at h
  · cases h
  · rename_i n
    rw [if_neg n, upd_ne (fun q => n (by rw [q]; exact hD))]
    exact h
/-- the pairs of best as a dict -/
def kvF (F : List (Nat × Nat)) : List (Key × V) := F.map fun p => (.inl (p.1 : Int), .int (p.2 : Int))
theorem kvF_vals (F : List (Nat × Nat)) : (kvF F).map (·.2) = (F.map fun p => (p.2 : Int)).map V.int := by
  unfold kvF
  rw [List.map_map, List.map_map]
  rfl
theorem putK_new {kvs : List (Key × V)} {k : Key} {v : V} (h : k ∉ kvs.map (·.1)) : putK kvs k v = kvs ++ [(k, v)] := by
  unfold putK
  rw [if_neg]
  intro q
  obtain ⟨p, hp, e⟩ := List.any_eq_true.mp q
  exact h (List.mem_map.mpr ⟨p, hp, by simpa using e⟩)
theorem kvF_keys {F : List (Nat × Nat)} {t : Nat} (h : t ∉ F.map (·.1)) : (Sum.inl (t : Int) : Key) ∉ (kvF F).map (·.1) := by
  unfold kvF
  rw [List.map_map]
  intro q
  obtain ⟨p, hp, e⟩ := List.mem_map.mp q
  have e : (Sum.inl (p.1 : Int) : Key) = Sum.inl (t : Int) := e
  have : (p.1 : Int) = (t : Int) := Sum.inl.inj e
  exact h (List.mem_map.mpr ⟨p, hp, by omega⟩)
theorem kvF_put {F : List (Nat × Nat)} {t g : Nat} (h : t ∉ F.map (·.1)) : putK (kvF F) (.inl (t : Int)) (.int (g : Int)) = kvF (F ++ [(t, g)]) := by
  rw [putK_new (kvF_keys h)]
  unfold kvF
  rw [List.map_append]
  rfl
theorem mem_castF {F : List (Nat × Nat)} {g : Nat} : decide ((g : Int) ∈ F.map fun p => (p.2 : Int)) = (F.map (·.2)).contains g := by
  rw [Bool.eq_iff_iff, decide_eq_true_eq, List.contains_iff_mem, List.mem_map, List.mem_map]
  constructor
  · rintro ⟨p, hp, e⟩
    exact ⟨p, hp, by omega⟩
  · rintro ⟨p, hp, e⟩
    exact ⟨p, hp, by omega⟩
section
variable {P : Program} {w : World} {K : PySem.W.Frag} {mg : Str → Option Value} {base : Heap} {C : Addr}
abbrev grL (i : LK) (t : Nat) : List (Nat × Nat) := M.gr (M.living i.1 i.2.1 i.2.2) (M.ed i.1) t
def spLBest (C : Addr) : Sp := spF (ι := LK) (fun i B vs => ∃ v, vs = [v] ∧ isL C i B v) fun i => fun G v => ∃ D, v = .ref D ∧ G D = some (.dK (kvF (M.F i.1 i.2.1 i.2.2)))
abbrev dLBest (a : Fg → Addr) : Df := ⟨a, "best", "Links.best", sLBest, []⟩
theorem scLBest : FnScope ["self", "found", "taker", "free", "giver"] ["self"] (defScope sLBest) := ⟨rfl, rfl, rfl, by decide +kernel, rfl, by decide +kernel, by decide +kernel⟩
theorem ok_LBest {a : Fg → Addr} {f : Addr} {fd : FuncData} (F : At K (dLBest a) f fd) (T : Bt mg) (L : LF K C) (I : LI P w K mg base C) (G4 : MR P w K mg base 4 C "living" (spLLiving C)) : FR P w K mg base 5 f (spLBest C) := by
  refine raw0 (d := dLBest a) (fok F scLBest (fun i B vs h => by obtain ⟨v, rfl, _⟩ := h; rfl) fun cdv A' outer s H E hr => ?_) (F.bindsN fun _ _ _ _ _ _ us hl => match us, hl with | [_], _ => rfl)
  refine ⟨_, (pss_cons ((ps_asg (pe_dnewK) (pg_name (i := 1) scLBest.nd rfl (by first | exact Or.inl rfl | exact Or.inr rfl)))) (pss_cons ((ps_for PassesOwn.never rfl (pi_L I hr (by omega) (pv 0)) (pg_name (i := 2) scLBest.nd rfl (by first | exact Or.inl rfl | exact Or.inr rfl)) ((pss_cons ((ps_setLc (i := 3) (own := [("giver", 4)]) (g := gName 4) rfl scLBest.nd rfl rfl rfl (kLst K (pe_m G4 hr (Nat.le_refl _) (pv 0) (pa_cons ((pv 2)) pa_nil))) (blkOk_by (N := ["self", "found", "taker", "free", "giver"]) (sc := defScope sLBest) (by decide +kernel)) (fun _ _ _ _ _ => pg_name (i := 4) scLBest.nd rfl (by first | exact Or.inl rfl | exact Or.inr rfl)) (fun _ _ _ _ _ => pts_one (pt_cmpR (op_notInV rfl) (pv 4) (kValues K (pv 1)) rfl)) (fun _ _ _ _ _ => pe_tup (pa_cons (kIxT K (kIxT K (kSl K (pv 0)) (pv 4)) pe_int) (pa_cons ((pv 4)) pa_nil))))) (pss_one (ps_if (pt_cmpR op_gt (pe_callB call_len_seq (by rfl) T.len (by decide +kernel) (pa_cons ((pv 3)) pa_nil)) pe_int rfl) (pss_one ((ps_dput (hu_of hr) ((pv 1)) ((pv 2)) (kIxT K (pe_callB (call_minP rfl hr.units) (by rfl) T.min (by decide +kernel) (pa_cons ((pv 3)) pa_nil)) pe_int) rfl))) pss_nil)))))) (pss_one (ps_ret (pv 1))))), fun i B vs h => ?_⟩
  obtain ⟨v, rfl, hv⟩ := h
  refine ret_of fun H1 nx rt bk ct kn hret => ?_
  refine q_seq (q_new mk_dict kn fun D hD hBD kn => ?_)
  have hvD : isL C i (wo [D] (upd B D (.dK []))) v := mo_L _ _ _ (fun b o e => by rw [wo_out (by simpa using ne_of_none e hBD), upd_ne (ne_of_none e hBD)]; exact e) hv
  refine q_seq (q_for (α := Nat) (l := List.range i.1.length) (ι := nt) (wo [D] (upd B D (.dK []))) kn wo_le (wi_L (i := i) (ep_var rfl hvD mo_L)) (fun t σ G => ∃ x2 x3 x4, σ = [some v, some (.ref D), x2, x3, x4] ∧ isL C i (wo [D] G) v ∧ G D = some (.dK (kvF (grL i t)))) ⟨_, _, _, rfl, hvD, upd_same⟩ ?_ ?_ ?_)
  · rintro t σ G G' ⟨x2, x3, x4, e, h1, h2⟩ e'
    exact ⟨x2, x3, x4, e, mo_L _ _ _ (wo_mono e') h1, e' _ _ h2⟩
  · rintro t a Gw σ H' G' ht eGw frs eG kn ⟨x2, x3, x4, rfl, h1, h2⟩
    have hta : a = t ∧ t < i.1.length := range_at ht
    obtain ⟨rfl, htn⟩ := hta
    have hGw : Gw D = none := frs D _ upd_same (wo_in (by simp))
    refine ⟨fun σ2 => σ2 = [some v, some (.ref D), some (.int (a : Nat)), x3, x4], tg_name fun x hx => by rw [De.int' hx]; rfl, ?_⟩
    rintro σ2 rfl
    have hs : ∀ {G2}, Ex G' G2 → isL C i G2 v := fun e => mo_L _ _ _ (wo_le.trans e) h1
    refine q_seq (q_asg kn (ep_lc (l := M.living i.1 i.2.1 i.2.2 a) (ι := nt) (fun g : Nat => !decide ((g : Int) ∈ (grL i a).map fun p => (p.2 : Int))) (fun g => pr (M.ed i.1 g, (g : Int)))
      (wi_list (ep_l1 (i := (i, a)) (R := fun i => is (dN (M.living i.1.1 i.1.2.1 i.1.2.2 i.2))) htn (ep_var rfl (hs (Ex.refl _)) mo_L) (ep_d rfl (.int _)))) ?_ fun g G2 hg e2 => tg_name fun y hy => ?_) fun vf H2 G2 kn2 e2 dvf => ?_)
    · have := living_len (ls := i.1) (k := i.2.1) (f := i.2.2) (t := a)
      have := (isL_z hv).1
      omega
    · rw [De.int' hy]
      refine ⟨rfl, et_test' (ep_notInV (ep_d rfl (.int _)) (ev_var rfl) (e2 _ _ h2) (kvF_vals _)), fun _ => ?_⟩
      exact ep_tup (da_cons (ep_ed (M.mem_living.mp hg).1 (ep_loans L (ep_var rfl (hs e2) mo_L)) (ep_d rfl (.int _))) (da_cons (ep_d rfl (.int _)) da_nil)) (by show 2 ≤ 100000; decide)
    · have efree : (M.living i.1 i.2.1 i.2.2 a).filter (fun g : Nat => !decide ((g : Int) ∈ (grL i a).map fun p => (p.2 : Int))) = M.free (M.living i.1 i.2.1 i.2.2) (grL i a) a := by
        unfold M.free
        apply List.filter_congr
        intro g _
        rw [mem_castF]
      rw [efree] at dvf
      refine q_if kn2 (et_test' (ep_gt (ep_lenL (ep_d rfl dvf)) ep_int)) (fun hb H3 G3 kn3 e3 => ?_) fun hb H3 G3 kn3 e3 => ?_
      · rcases M.gr_step (Lv := M.living i.1 i.2.1 i.2.2) (en := M.ed i.1) a with ⟨_, e⟩ | ⟨g, e, hg⟩
        · rw [e] at hb
          simp at hb
        · have dv3 : De G3 vf (.list ((M.free (M.living i.1 i.2.1 i.2.2) (grL i a) a).map fun g => pr (M.ed i.1 g, (g : Int)))) := dvf.mono e3
          have hD3 : G3 D = some (.dK (kvF (grL i a))) := e3 _ _ (e2 _ _ h2)
          have hnk : a ∉ (grL i a).map (·.1) := fun q => by
            obtain ⟨p, hp, ep⟩ := List.mem_map.mp q
            have := M.gr_keys a p hp
            omega
          refine q_dput (mo_is (d := .int (g : Nat))) kn3 hBD hD3 ?_ (ep_ixT (j := 1) (ep_minG hg (ep_d rfl dv3)) ep_int rfl rfl) (ev_var rfl) (ep_d rfl (.int (a : Nat))) fun v2 H4 G4 kn4 e4 dv4 kn5 => ⟨_, kn5, ?_, _, _, _, rfl, ?_, ?_⟩
          · unfold kvF
            rw [List.length_map]
            have : (grL i a).length ≤ a := M.gr_len (Lv := M.living i.1 i.2.1 i.2.2) (en := M.ed i.1) a
            have := (isL_z hv).1
            omega
          · exact ((eG.trans e2).trans (e3.trans e4)).mut hGw
          · exact mo_L _ _ _ ((wo_mono ((e2.trans e3).trans e4)).trans (wo_upd (by simp))) h1
          · rw [De.int' dv4, kvF_put hnk, upd_same]
            show _ = some (HO.dK (kvF (M.gr _ _ (a + 1))))
            rw [e]
      · rcases M.gr_step (Lv := M.living i.1 i.2.1 i.2.2) (en := M.ed i.1) a with ⟨e, _⟩ | ⟨g, e, hg⟩
        · refine ⟨G3, kn3, (eG.trans e2).trans e3, _, _, _, rfl, mo_L _ _ _ (wo_mono (e2.trans e3)) h1, ?_⟩
          rw [e3 _ _ (e2 _ _ h2)]
          show _ = some (HO.dK (kvF (M.gr _ _ (a + 1))))
          rw [e]
        · exfalso
          have := List.length_pos_of_mem hg.mem
          simp at hb
          rw [hb] at this
          simp at this
  · rintro σ H' G' Gw _ _ eG kn ⟨x2, x3, x4, rfl, h1, h2⟩
    rw [List.length_range] at h2
    exact q_ret kn (P := fun G w => w = .ref D ∧ G D = some (.dK (kvF (M.F i.1 i.2.1 i.2.2)))) (ep_var rfl ⟨rfl, h2⟩ fun _ _ _ e h => ⟨h.1, e _ _ h.2⟩) fun w H2 G2 kn2 _ h => hret w H2 G2 kn2 ⟨D, h⟩
end
end Q
/-! K75R6 -/
set_option Elab.async false
set_option linter.all false
set_option maxRecDepth 100000
set_option maxHeartbeats 4000000
/-! Rules of our own: {e for x in l if t}, e a whole number. -/
namespace Q
open PySem PySem.Spec PyProof.Rows L2 Evl PpSet
section
variable {X : Cx}
theorem addI_ok {pins : List (Addr × Obj)} {σ : L2.St} {H : Hp} {s : Shared} {D : Addr} {S : Int → Bool} {n : Nat} {y : Int} {t : Tok} {Q : Value → Shared → Prop} {E : Value → Shared → Prop} (I : Inv X pins σ H s) (hD : H D = some (SetO X.w D S n)) (room : n + 1 < scanBound)
    (h : ∀ s', Inv X pins σ (upd H D (SetO X.w D (fun j => S j || decide (j = y)) (if S y = true then n else n + 1))) s' → Q .none s') : wpAny (model X.prog X.w) X.A (call (.builtin "set.add") [.ref D, .int y t]) Q E s :=
  setR_add (setO_get I hD) room fun h' sb new => h _ (I.write (e := D) (t' := s.toks + 1) (by rw [hD]; trivial) (.inl rfl) (fun b u hb hu => (sb.2 b hb).trans hu) (let ⟨o, _, _, _, ho, _⟩ := new; ⟨o, ho⟩) (setO_new new))
/-- the reading: D the new set -/
def tScI (w : World) (wi : TI) (g : TG) (tt : TT) (te : TE) (vs : List Nat) : TE := fun σ H Q => wi σ H fun J H1 => ∀ D, H1 D = none → ∃ W : Nat → Nat → Hp → Prop, (∃ m, W 0 m (upd H1 D (SetO w D (fun _ => false) 0))) ∧ ∀ i m H, W i m H →
  (J.stop i H ∧ Q (.ref D) H) ∨ (J.go i H ∧ ∃ Nx : Hp → Prop, (∀ H', Nx H' → ∃ m', m' < m ∧ W (i + 1) m' H') ∧ ∀ x H', J.yld i H x H' → g x (wipe σ vs) H' fun σ2 H2 => wipe σ2 vs = wipe σ vs ∧ tt σ2 H2 fun b H3 =>
    if b = true then te σ2 H3 fun y H4 => ∃ (c : Int) (S : Int → Bool) (n : Nat), y = .int c ∧ H4 D = some (SetO w D S n) ∧ n + 1 < scanBound ∧ Nx (upd H4 D (SetO w D (fun j => S j || decide (j = c)) (if S c = true then n else n + 1))) else Nx H3)
theorem scI_core {pins : List (Addr × Obj)} {s : Shared} {σ : L2.St} {H : Hp} {Q : VK} {elt tg iter : Expr} {ifs : List Expr} {scope : Scope} {own : List (PySem.Str × Nat)} {pos pos' : Pos} {wi : TI} {g : TG} {tt : TT} {te : TE} {use : Option (Value → Sem Unit)} {Qf : Value → Shared → Prop}
    (hc : X.calm = true) (hN : X.N.Nodup) (I : Inv X pins σ H s) (hi : PI X tg iter wi) (ok : BlkOk X.N X.env.scope scope own)
    (hg : ∀ (s : Shared) (H : Hp) (C : Addr) (cl : List (PySem.Str × Addr)) (fp : List Addr), PG (X.blk s H scope (compEnvC scope cl C X.env) fp) tg g) (ht : ∀ (s : Shared) (H : Hp) (C : Addr) (cl : List (PySem.Str × Addr)) (fp : List Addr), PTs (X.blk s H scope (compEnvC scope cl C X.env) fp) ifs tt)
    (he : ∀ (s : Shared) (H : Hp) (C : Addr) (cl : List (PySem.Str × Addr)) (fp : List Addr), PE (X.blk s H scope (compEnvC scope cl C X.env) fp) elt te) (hs : ∀ x, foldedSetIterable iter X.env x = pure x)
    (h : tScI X.w wi g tt te (own.map (·.2)) σ H Q)
    (hRR : ∀ D C s' m H', Inv X pins σ H' s' → Q (.ref D) H' → s'.heap.Ns C m → FpOk X pins H' C → compPost (model X.prog X.w) X.A X.xe use Qf (.ref D) C (.ok .next) s') :
    wpAny (model X.prog X.w) X.A (comprehension (.SetComp elt [⟨tg, iter, ifs, 0⟩] scope pos) scope X.env pos' (newSet (.type "set")) false (eval iter X.env) use) Qf X.xe s := by
  have hfree : ∀ y ∈ scope.names, y.2 = .free → ∃ c, X.env.cells.lookup y.1 = some c := fun y hy e => by
    rcases ok.free y hy e with k | k
    · exact I.ok.has _ (.inl k)
    · exact I.ok.has _ (.inr k)
  refine wpAny_comprehension_free (use := use) rfl hs (closure_ok hfree) ok.kind (fun y hy e => by rw [ok.uniq y hy, e])
    (thn (hi.run pins s σ H _ I h) fun xv s1 hx => thn hx fun itv s2 h2 => ?_)
  obtain ⟨it, fp, tn, J, H2, e, I2, T, st2, f2, q⟩ := h2
  subst e
  refine newSet_ok (newEnv_comp ?_)
  generalize hD : s2.heap.objs.size = D
  have hDn : H2 D = none := I2.hok.fresh (Nat.le_of_eq hD)
  obtain ⟨W, ⟨m0, w0⟩, turn⟩ := q D hDn
  -- the new list
  generalize hs3 : ({ s2 with heap := s2.heap.push { cls := .type "set", dict := none, data := .set #[] 0 (.fresh 0 0 (!X.w.params.followText "set-order")) } } : Shared) = s3
  have I3 : Inv X pins σ (upd H2 D (SetO X.w D (fun _ => false) 0)) s3 := by
    rw [← hs3]
    refine I2.laid (t' := s2.toks) (fun b o e => Heap.get?_push_of_some _ e) (Nat.le_of_eq hD) ?_
    rw [← hD]
    exact setO_new (setR_fresh X.w)
  have h3 : s3.heap = s2.heap.push { cls := .type "set", dict := none, data := .set #[] 0 (.fresh 0 0 (!X.w.params.followText "set-order")) } := by rw [← hs3]
  have sz : ∀ b ∈ fp, b < s2.heap.objs.size := fun b hb => by
    obtain ⟨o, e, _⟩ := T.obj _ _ st2 b hb
    exact Heap.lt_size e
  have f3 : ∀ b ∈ fp, FpOk X pins (upd H2 D (SetO X.w D (fun _ => false) 0)) b ∧ b < s3.heap.objs.size := fun b hb => by
    have hlt := sz b hb
    refine ⟨⟨?_, (f2 b hb).2⟩, by rw [h3, Heap.size_push]; exact Nat.lt_succ_of_lt hlt⟩
    rw [upd_ne (by rw [← hD]; exact Nat.ne_of_lt hlt)]
    exact (f2 b hb).1
  have st3 : tn 0 s3.heap := T.keep _ _ _ st2 fun b _ o e => by rw [h3]; exact Heap.get?_push_of_some _ e
  have I4 := block_start I3 ok hN f3
  have pg := hg s3 (upd H2 D (SetO X.w D (fun _ => false) 0)) s3.heap.objs.size (cellsFrom (s3.heap.objs.size + 1) scope.names (cloFrom X.env.cells scope.names [])) fp
  have pt := ht s3 (upd H2 D (SetO X.w D (fun _ => false) 0)) s3.heap.objs.size (cellsFrom (s3.heap.objs.size + 1) scope.names (cloFrom X.env.cells scope.names [])) fp
  have pe := he s3 (upd H2 D (SetO X.w D (fun _ => false) 0)) s3.heap.objs.size (cellsFrom (s3.heap.objs.size + 1) scope.names (cloFrom X.env.cells scope.names [])) fp
  show codeAny _ _ (.compStart (.SetComp elt [⟨tg, iter, ifs, 0⟩] scope pos) 0 (.ref it) (.ref D) (compEnvC scope (cellsFrom (s3.heap.objs.size + 1) scope.names (cloFrom X.env.cells scope.names [])) s3.heap.objs.size X.env)) (compPost (model X.prog X.w) X.A X.xe use Qf (.ref D) s3.heap.objs.size) { s3 with heap := pushCells (s3.heap.push { cls := .type "dict", data := .dict #[] }) scope.names }
  have nfp : ∀ b ∈ fp, (upd H2 D (SetO X.w D (fun _ => false) 0)) b = none := fun b hb => (f3 b hb).1.1
  generalize hce : compEnvC scope (cellsFrom (s3.heap.objs.size + 1) scope.names (cloFrom X.env.cells scope.names [])) s3.heap.objs.size X.env = ce at I4 pg pt pe ⊢
  have cL : ce.locals = s3.heap.objs.size := by subst hce; rfl
  generalize hH3 : upd H2 D (SetO X.w D (fun _ => false) 0) = H3 at I3 I4 pg pt pe w0 nfp f3
  generalize hs4 : ({ s3 with heap := pushCells (s3.heap.push { cls := .type "dict", data := .dict #[] }) scope.names } : Shared) = s4 at I4 ⊢
  have st4 : tn 0 s4.heap := T.keep _ _ _ st3 fun b _ o e => by rw [← hs4]; exact pushCells_keeps _ _ _ _ (Heap.get?_push_of_some _ e)
  have stat : ∀ {σ' : L2.St} {H' : Hp} {s' : Shared}, Inv (X.blk s3 H3 scope ce fp) [] σ' H' s' → (∀ b ∈ fp, H' b = none) → ∀ b ∈ fp, FpOk (X.blk s3 H3 scope ce fp) [] H' b := fun {σ' H' s'} I' hn b hb =>
    ⟨hn b hb, (I'.ok.exf b hb).1, I'.ok.exfs b hb, .inl hb, fun x c e => (I'.ok.exf b hb).2 x c e, fun p hp => absurd (show p ∈ ([] : List (Addr × Obj)) ++ [] from hp) (by simp)⟩
  have loop : codeAny (model X.prog X.w) X.A (.compLoop (.SetComp elt [⟨tg, iter, ifs, 0⟩] scope pos) 0 (.ref it) (.ref D) ce) (compPost (model X.prog X.w) X.A X.xe use Qf (.ref D) s3.heap.objs.size) s4 := by
    refine compLoopS_any (fun n s' => ∃ i H', Inv (X.blk s3 H3 scope ce fp) [] (wipe σ (own.map (·.2))) H' s' ∧ tn i s'.heap ∧ (∀ b ∈ fp, H' b = none) ∧ W i n H') ?_ m0 ⟨0, H3, I4, st4, nfp, w0⟩
    rintro n s5 ⟨i, H5, I5, st5, n5, w5⟩
    rcases turn i n H5 w5 with ⟨stop, qq⟩ | ⟨go, Nx, hNx, step⟩
    · have td := T.done (X.blk s3 H3 scope ce fp) rfl rfl rfl hc i [] s5 _ H5 (fun _ _ => False) I5 (stat I5 n5) st5 stop
      refine thnF td fun r s6 ⟨hr, I6⟩ => ?_
      subst hr
      -- back in the def's context
      have I7 : Inv X pins σ H5 s6 := I3.call' (ch := fp) I6.os I6.base I6.hok I6.bare fun b hb => ⟨(f3 b hb).1.2.2.2.1, (f3 b hb).1.2.1, (f3 b hb).1.2.2.2.2.1, (f3 b hb).1.2.2.2.2.2⟩
      have nC : H5 s3.heap.objs.size = none := by
        have z : H5 ce.locals = none := I6.free
        rw [cL] at z
        exact z
      obtain ⟨m, hn, _⟩ := I6.loc
      have hn : s6.heap.Ns ce.locals m := hn
      rw [cL] at hn
      exact hRR D s3.heap.objs.size s6 m H5 I7 qq hn (I3.fpOk (Nat.le_refl _) nC)
    · have ti := T.item (X.blk s3 H3 scope ce fp) rfl rfl rfl hc i [] s5 _ H5 (fun _ _ => False) I5 (stat I5 n5) st5 go
      refine thnF ti fun r s6 ⟨u, hr, h6⟩ => ?_
      subst hr
      refine thnF h6 fun _ s7 ⟨x, H7, I7, r7, y7, st7, n7⟩ => ?_
      have I7' := I7.pinned (stat I7 n7) (T.obj _ _ st7)
      refine thnF (pg.run _ s7 _ H7 x u _ I7' r7 (step x H7 y7)) fun _ s8 ⟨σ8, H8, I8, hw8, q8⟩ => ?_
      refine thnF (pt.run _ s8 σ8 H8 _ I8 q8) fun b s9 ⟨H9, I9, q9⟩ => ?_
      -- the turn's end
      have fin : ∀ {s' : Shared} {H' : Hp}, Inv (X.blk s3 H3 scope ce fp) ([] ++ pinsAt fp s7.heap) σ8 H' s' → Nx H' → ∃ m, m < n ∧ ∃ i H', Inv (X.blk s3 H3 scope ce fp) [] (wipe σ (own.map (·.2))) H' s' ∧ tn i s'.heap ∧ (∀ b ∈ fp, H' b = none) ∧ W i m H' := fun {s' H'} I' nx => by
        obtain ⟨m', hm, w'⟩ := hNx H' nx
        have pin' : ∀ b ∈ fp, ∀ o, s7.heap.get? b = some o → s'.heap.get? b = some o ∧ H' b = none := fun b hb o e =>
          let z := I'.pin (b, o) (List.mem_append_right _ (List.mem_append_right _ (mem_pinsAt hb e)))
          ⟨z.1, z.2.1⟩
        have hl : (wipe σ (own.map (·.2))).length = σ8.length := by rw [← hw8, wipe_length]
        refine ⟨m', hm, i + 1, H', (I'.unpinned (pins := [])).weak hl (fun j v e => ?_), T.keep _ _ _ st7 fun b hb o e => (pin' b hb o e).1, fun b hb => ?_, w'⟩
        · rw [← hw8] at e
          exact (wipe_some e).1
        · obtain ⟨o, e, _⟩ := T.obj _ _ st7 b hb
          exact (pin' b hb o e).2
      cases b with
      | false =>
        simp only [Bool.false_eq_true, if_false] at q9 ⊢
        exact fin I9 q9
      | true =>
        simp only [if_true] at q9 ⊢
        refine thnF (pe.run _ s9 σ8 H9 _ I9 q9) fun z s10 ⟨yv, H10, I10, r10, cb, S0, n0, ey, hD10, hz10, nx⟩ => ?_
        subst ey
        obtain ⟨tz, rfl⟩ := (show ∃ tz, z = Value.int cb tz from r10)
        exact addI_ok (X := X.blk s3 H3 scope ce fp) I10 hD10 hz10 fun s11 I11 => fin I11 nx
  exact codeAny_compStart_set loop (T.self X.A 0 _ _ _ st4 loop)
theorem pe_scI {elt tg iter : Expr} {ifs : List Expr} {scope : Scope} {own : List (Str × Nat)} {pos : Pos} {wi : TI} {g : TG} {tt : TT} {te : TE} (hc : X.calm = true) (hN : X.N.Nodup) (hi : PI X tg iter wi) (ok : BlkOk X.N X.env.scope scope own)
    (hg : ∀ (s : Shared) (H : Hp) (C : Addr) (cl : List (Str × Addr)) (fp : List Addr), PG (X.blk s H scope (compEnvC scope cl C X.env) fp) tg g) (ht : ∀ (s : Shared) (H : Hp) (C : Addr) (cl : List (Str × Addr)) (fp : List Addr), PTs (X.blk s H scope (compEnvC scope cl C X.env) fp) ifs tt)
    (he : ∀ (s : Shared) (H : Hp) (C : Addr) (cl : List (Str × Addr)) (fp : List Addr), PE (X.blk s H scope (compEnvC scope cl C X.env) fp) elt te) (hs : ∀ x, foldedSetIterable iter X.env x = pure x := by intro _; rfl) :
    PE X (.SetComp elt [⟨tg, iter, ifs, 0⟩] scope pos) (tScI X.w wi g tt te (own.map (·.2))) := by
  refine ⟨fun pins s σ H Q I h => ?_⟩
  rw [eval_SetComp]
  refine scI_core hc hN I hi ok hg ht he hs h fun D C s' m H' I' q hn f => ⟨m, hn, fun h'' sb => ?_⟩
  obtain ⟨f0, f1, f2, f3, f4, f5⟩ := f
  exact ⟨.ref D, H', I'.turned (t' := s'.toks) (fun b o hb e => (sb.2 b hb).trans e) f0 f1 f3 f4 f5, rfl, q⟩
end
end Q
/-! K75E2 -/
set_option Elab.async false
set_option linter.all false
set_option maxRecDepth 100000
set_option maxHeartbeats 4000000
/-! Comprehensions of two levels, of a dict, of a set, over data. -/
namespace Q
open PySem PySem.Spec PyProof.Rows L2 Evl
theorem walk_W {J : It} {n : Nat} {Gd : Hp → Prop} {Y : Nat → Hp → V → Hp → Prop} (w : Walk J n Gd Y) (Pv : Nat → Hp → Prop) {H : Hp} (h0 : Pv 0 H) (hG : ∀ i H, Pv i H → Gd H) {Stop : Hp → Prop} {Step : (Hp → Prop) → V → Hp → Prop}
    (hs : ∀ i x H H', i < n → Pv i H → Y i H x H' → Step (Pv (i + 1)) x H') (hd : ∀ H, Pv n H → Stop H) : ∃ W : Nat → Nat → Hp → Prop, (∃ m, W 0 m H) ∧ ∀ i m H, W i m H →
      (J.stop i H ∧ Stop H) ∨ (J.go i H ∧ ∃ Nx : Hp → Prop, (∀ H', Nx H' → ∃ m', m' < m ∧ W (i + 1) m' H') ∧ ∀ x H', J.yld i H x H' → Step Nx x H') := by
  refine ⟨fun i m H => m = n - i ∧ i ≤ n ∧ Pv i H, ⟨n, by simp, Nat.zero_le _, h0⟩, ?_⟩
  rintro i m H ⟨rfl, hi, p⟩
  have q := hG i H p
  by_cases hlt : i < n
  · exact .inr ⟨w.goes i H hlt q, Pv (i + 1), fun H' p' => ⟨n - (i + 1), by omega, rfl, hlt, p'⟩, fun x H' y => hs i x H H' hlt p (w.yields i H x H' hlt q y)⟩
  · have e : i = n := by omega
    subst e
    exact .inl ⟨w.stops H q, hd H p⟩
/-- what is made, at D, under way: φ of what is known besides and of it; Gk is known besides -/
def Acc (G0 H2 : Hp) (D : Addr) (Gk : Hp) (φ : Hp → HO → Prop) (H : Hp) : Prop := ∃ G o, Kn G0 H2 H G ∧ G D = some o ∧ Ex Gk (wo [D] G) ∧ φ (wo [D] G) o
def MoA (φ : Hp → HO → Prop) : Prop := ∀ W W' o, Ex W W' → φ W o → φ W' o
section
variable {G0 H2 H H' Gk : Hp} {D : Addr} {φ φ' : Hp → HO → Prop} {o o' : HO}
theorem wo_cut {G : Hp} (hD : H D = some o) : Ex (cut (wo [D] G) H H') (wo [D] (cut G H H')) := fun b u h => by
  by_cases q : b = D
  · subst q
    rw [cut_none hD (wo_in (by simp))] at h
    cases h
  · rw [wo_out (by simpa using q)]
    exact cut_grow wo_le _ _ h
theorem wo_upd1 {G : Hp} : Ex (wo [D] G) (wo [D] (upd G D o)) := wo_upd (by simp)
theorem Acc.ex (a : Acc G0 H2 D Gk φ H) : Ex Gk H := by
  obtain ⟨G, o, kn, h1, h2, h3⟩ := a
  exact h2.trans (wo_le.trans kn.le)
/-- when the heap grows -/
theorem Acc.grow (a : Acc G0 H2 D Gk φ H) (m : MoA φ) (e : Ex H H') : Acc G0 H2 D Gk φ H' := by
  obtain ⟨G, o, kn, h1, h2, h3⟩ := a
  obtain ⟨k, e2⟩ := kn.pure e
  exact ⟨_, o, k, e2 _ _ h1, h2.trans (wo_mono e2), m _ _ _ (wo_mono e2) h3⟩
/-- the part known besides; it is there, and what comes to be known from it is known besides -/
theorem Acc.open (a : Acc G0 H2 D Gk φ H) (D0 : G0 D = none) : ∃ W o, Ex W H ∧ Ex Gk W ∧ H D = some o ∧ W D = none ∧ φ W o ∧
    (∀ H' W', Ex H H' → W' = cut W H H' → MoA φ → ∀ φ' o', φ' W' o' → MoA φ' → Acc G0 H2 D Gk φ' (upd H' D o')) ∧ (∀ H' W', Ex H H' → W' = cut W H H' → MoA φ → Acc G0 H2 D W' φ H' ∧ W' D = none) := by
  obtain ⟨G, o, kn, h1, h2, h3⟩ := a
  have hD := kn.le _ _ h1
  refine ⟨wo [D] G, o, wo_le.trans kn.le, h2, hD, wo_in (by simp), h3, fun H' W' e eW mφ φ' o' p m' => ?_, fun H' W' e eW mφ => ?_⟩
  · obtain ⟨k, e2⟩ := kn.pure e
    refine ⟨_, o', k.upd D0 (e2 _ _ h1), upd_same, h2.trans ((wo_mono e2).trans wo_upd1), ?_⟩
    rw [eW] at p
    exact m' _ _ _ ((wo_cut hD).trans wo_upd1) p
  · obtain ⟨k, e2⟩ := kn.pure e
    rw [eW]
    exact ⟨⟨_, o, k, e2 _ _ h1, wo_cut hD, mφ _ _ _ (wo_mono e2) h3⟩, cut_none hD (wo_in (by simp))⟩
theorem Acc.weak {Gk' : Hp} (a : Acc G0 H2 D Gk φ H) (e : Ex Gk' Gk) : Acc G0 H2 D Gk' φ H := by
  obtain ⟨G, o, kn, h1, h2, h3⟩ := a
  exact ⟨G, o, kn, h1, e.trans h2, h3⟩
end
abbrev φL (acc : List PyData) : Hp → HO → Prop := fun W o => ∃ xs, o = .lst xs ∧ DeA W xs acc
theorem mo_φL {acc : List PyData} : MoA (φL acc) := fun _ _ _ e ⟨xs, h1, h2⟩ => ⟨xs, h1, h2.mono e⟩
theorem flat_len {α β : Type} {h : α → List β} {M : Nat} : ∀ {l : List α}, (∀ a ∈ l, (h a).length ≤ M) → (l.flatMap h).length ≤ l.length * M
  | [], _ => by simp
  | a :: l, hh => by
    have := flat_len (l := l) fun b hb => hh b (List.mem_cons_of_mem _ hb)
    have := hh a List.mem_cons_self
    rw [List.flatMap_cons, List.length_append, List.length_cons, Nat.succ_mul]
    omega
section
variable {σ : L2.St} {B : Hp} {wi wi1 : TI} {g g1 : TG} {tt tt1 : TT} {te tk tv : TE} {vs vs1 : List Nat}
/-- [w a b for a in l for b in l1 a if f a b] -/
theorem ep_lc2 {α β : Type} {l : List α} {ι : α → PyData} (l1 : α → List β) {κ : β → PyData} (f : α → β → Bool) (w : α → β → PyData) (M : Nat) (hw : EvI wi σ B (l.map ι)) (hl : ∀ a ∈ l, (l1 a).length ≤ M) (hM : l.length * M ≤ 40000)
    (ht : ∀ (a : α) G, a ∈ l → Ex B G → TgP g (ι a) (wipe σ vs) G fun σ2 => wipe σ2 vs = wipe σ vs ∧ EvI wi1 σ2 G ((l1 a).map κ) ∧
      ∀ (b : β) G2, b ∈ l1 a → Ex G G2 → TgP g1 (κ b) (wipe σ2 vs1) G2 fun σ3 => wipe σ3 vs1 = wipe σ2 vs1 ∧ EvT tt1 σ3 G2 (f a b) ∧ (f a b = true → EvP te σ3 G2 (is (w a b)))) :
    EvP (tLc2 wi g tYes wi1 g1 tt1 te vs vs1) σ B (is (.list (l.flatMap fun a => ((l1 a).filter (f a)).map (w a)))) := fun H1 e1 Q q => hw H1 e1 _ fun J H2 e2 wl D hD => by
  generalize hG : cut B H1 H2 = G0 at wl
  have g0 : Ex G0 H2 := by rw [← hG]; exact cut_le
  have b0 : Ex B G0 := by rw [← hG]; exact cut_base (e1.trans e2)
  have kn0 := (Kn.start g0).new (o := .lst []) hD
  have D0 : G0 D = none := fresh_back g0 hD
  have hb : ∀ b o, G0 b = some o → wo [D] (upd G0 D (.lst [])) b = some o := fun b o h => by
    have n := ne_of_none h D0
    rw [wo_out (by simpa using n), upd_ne n]
    exact h
  refine walk_W wl (fun i H => Acc G0 H2 D G0 (φL ((l.take i).flatMap fun a => ((l1 a).filter (f a)).map (w a))) H) (Step := fun Nx x H' => g x (wipe σ vs) H' fun σ2 H2 => wipe σ2 vs = wipe σ vs ∧ tYes σ2 H2 fun b H3 => if b = true then wi1 σ2 H3 fun J1 H4 => ∃ W1 : Nat → Nat → Hp → Prop, (∃ m, W1 0 m H4) ∧ ∀ j k H, W1 j k H →
      (J1.stop j H ∧ Nx H) ∨ (J1.go j H ∧ ∃ Nx1 : Hp → Prop, (∀ H', Nx1 H' → ∃ k', k' < k ∧ W1 (j + 1) k' H') ∧ ∀ x H', J1.yld j H x H' → g1 x (wipe σ2 vs1) H' fun σ3 H5 => wipe σ3 vs1 = wipe σ2 vs1 ∧ tt1 σ3 H5 fun b H6 =>
        if b = true then te σ3 H6 fun y H7 => ∃ acc, H7 D = some (.lst acc) ∧ acc.length < sizeLine ∧ Nx1 (upd H7 D (.lst (acc ++ [y]))) else Nx1 H6)
    else Nx H3) ⟨_, _, kn0, upd_same, hb, [], rfl, .nil⟩ (fun i H a => a.ex) ?_ ?_
  · rintro i x H H' hi a ⟨y1, d, y2, y3⟩
    rw [List.length_map] at hi
    obtain ⟨av, ha, rfl⟩ : ∃ a, l[i]? = some a ∧ ι a = d := by
      rw [List.getElem?_map] at y2
      exact Option.map_eq_some_iff.mp y2
    have hmem := List.mem_of_getElem? ha
    have et : l.take (i + 1) = l.take i ++ [av] := by
      rw [List.take_succ, ha]
      rfl
    have lenB : ∀ j, ((l.take i).flatMap fun a => ((l1 a).filter (f a)).map (w a)).length + ((((l1 av).take j).filter (f av)).map (w av)).length ≤ 40000 := fun j => by
      have h1 := flat_len (h := fun a => ((l1 a).filter (f a)).map (w a)) (M := M) (l := l.take i) fun a ha => by
        rw [List.length_map]
        exact Nat.le_trans (List.length_filter_le _ _) (hl a (List.mem_of_mem_take ha))
      have h2 : ((((l1 av).take j).filter (f av)).map (w av)).length ≤ M := by
        rw [List.length_map]
        exact Nat.le_trans (List.length_filter_le _ _) (by rw [List.length_take]; have := hl av hmem; omega)
      have h3 : (l.take i).length = i := by rw [List.length_take]; omega
      rw [h3] at h1
      have h4 : (i + 1) * M ≤ l.length * M := Nat.mul_le_mul_right M hi
      rw [Nat.succ_mul] at h4
      omega
    obtain ⟨W, o, w1, w2, w3, w4, _, _, w7⟩ := a.open D0
    obtain ⟨a2, w8⟩ := w7 H' _ y1 rfl mo_φL
    have y3' : De (cut W H H') x (ι av) := y3.mono (cut_grow w2)
    refine ht av (cut W H H') hmem (b0.trans (w2.trans (cut_base (w1.trans y1)))) x y3' H' cut_le _ fun σ2 ⟨m1, m2, m3⟩ => ⟨m1, ?_⟩
    show wi1 σ2 H' _
    refine m2 H' cut_le _ fun J1 H4 e4 wl1 => ?_
    obtain ⟨W2, o2, v1, v2, v3, v4, _, _, v7⟩ := a2.open D0
    obtain ⟨a4, v8⟩ := v7 H4 _ e4 rfl mo_φL
    have eGi : Ex (cut (cut W H H') H' H4) (cut W2 H' H4) := cut_grow v2
    have a5 := a4.weak eGi
    have Gin : cut (cut W H H') H' H4 D = none := cut_none v3 w8
    have bGi : Ex (cut W H H') (cut (cut W H H') H' H4) := cut_base (cut_le.trans e4)
    generalize hGi : cut (cut W H H') H' H4 = Gi at wl1 a5 eGi Gin bGi
    refine walk_W wl1 (fun j H => Acc G0 H2 D Gi (φL (((l.take i).flatMap fun a => ((l1 a).filter (f a)).map (w a)) ++ (((l1 av).take j).filter (f av)).map (w av))) H) (Step := fun Nx1 x H' => g1 x (wipe σ2 vs1) H' fun σ3 H5 => wipe σ3 vs1 = wipe σ2 vs1 ∧ tt1 σ3 H5 fun b H6 =>
        if b = true then te σ3 H6 fun y H7 => ∃ acc, H7 D = some (.lst acc) ∧ acc.length < sizeLine ∧ Nx1 (upd H7 D (.lst (acc ++ [y]))) else Nx1 H6) ?_ (fun i H a => a.ex) ?_ ?_
    · simpa using a5
    · rintro j x1 H5 H6 hj a6 ⟨z1, d1, z2, z3⟩
      obtain ⟨bv, hbv, rfl⟩ : ∃ a, (l1 av)[j]? = some a ∧ κ a = d1 := by
        rw [List.getElem?_map] at z2
        exact Option.map_eq_some_iff.mp z2
      have et1 : (l1 av).take (j + 1) = (l1 av).take j ++ [bv] := by
        rw [List.take_succ, hbv]
        rfl
      obtain ⟨W5, o5, u1, u2, u3, u4, u5, u6, u7⟩ := a6.open D0
      obtain ⟨xs, rfl, hxs⟩ := u5
      have z3' : De (cut W5 H5 H6) x1 (κ bv) := z3.mono (cut_grow u2)
      refine m3 bv (cut W5 H5 H6) (List.mem_of_getElem? hbv) (bGi.trans (u2.trans (cut_base (u1.trans z1)))) x1 z3' H6 cut_le _ fun σ3 ⟨n1, n2, n3⟩ => ⟨n1, ?_⟩
      refine n2 H6 cut_le _ fun H7 e7 => ?_
      cases hf : f av bv with
      | false =>
        show Acc _ _ _ _ _ H7
        rw [et1, List.filter_append, List.filter_cons, hf]
        simp only [List.filter_nil, List.append_nil, Bool.false_eq_true, if_false]
        exact a6.grow mo_φL (z1.trans e7)
      | true =>
        refine n3 hf H7 (cut_le.trans e7) _ fun y H8 e8 py => ?_
        have e58 : Ex H5 H8 := (z1.trans e7).trans e8
        have lb := lenB j
        refine ⟨xs, e58 _ _ u3, sz_lt (by rw [hxs.len, List.length_append]; omega), ?_⟩
        rw [et1, List.filter_append, List.filter_cons, hf, List.map_append]
        simp only [List.filter_nil, if_true, List.map_cons, List.map_nil]
        refine u6 H8 _ e58 rfl mo_φL _ _ ⟨xs ++ [y], rfl, ?_⟩ mo_φL
        rw [← List.append_assoc]
        refine DeA.snoc (hxs.mono (cut_base (u1.trans e58))) ?_
        have k1 : Ex (cut (cut W5 H5 H6) H7 H8) (cut (cut W5 H5 H6) H6 H8) := cut_later e7
        rw [cut_cut z1 (u1.trans z1)] at k1
        exact De.mono k1 py
    · intro H9 a9
      show Acc _ _ _ _ _ H9
      rw [et, List.flatMap_append]
      rw [List.length_map, List.take_length] at a9
      have e : [av].flatMap (fun a => ((l1 a).filter (f a)).map (w a)) = ((l1 av).filter (f av)).map (w av) := by simp
      rw [e]
      refine a9.weak ?_
      exact w2.trans ((cut_base (w1.trans y1)).trans bGi)
  · rintro H ⟨G, o, kn, h1, h2, xs, rfl, h3⟩
    rw [List.length_map, List.take_length] at h3
    have eG : G = cut B H1 H := by
      rw [kn.g, ← hG, cut_cut e2 (e1.trans e2)]
    refine q (.ref D) H (e2.trans kn.e) (.lst (xs := xs) ?_ (h3.mono ?_))
    · rw [← eG]
      exact h1
    · rw [← eG]
      exact wo_le
/-- {k a: v a for a in l}, the keys apart -/
theorem ep_dc {α : Type} {l : List α} {ι : α → PyData} (k v : α → Int) (hw : EvI wi σ B (l.map ι)) (hl : l.length ≤ 40000) (nd : (l.map k).Nodup)
    (ht : ∀ (a : α) G, a ∈ l → Ex B G → TgP g (ι a) (wipe σ vs) G fun σ2 => wipe σ2 vs = wipe σ vs ∧ EvP tk σ2 G (is (.int (k a))) ∧ EvP tv σ2 G (is (.int (v a)))) :
    EvP (tDc wi g tYes tk tv vs) σ B (fun G u => ∃ D, u = .ref D ∧ B D = none ∧ G D = some (.dK (l.map fun a => (.inl (k a), .int (v a))))) := fun H1 e1 Q q => hw H1 e1 _ fun J H2 e2 wl D hD => by
  generalize hG : cut B H1 H2 = G0 at wl
  have g0 : Ex G0 H2 := by rw [← hG]; exact cut_le
  have b0 : Ex B G0 := by rw [← hG]; exact cut_base (e1.trans e2)
  have kn0 := (Kn.start g0).new (o := .dK []) hD
  have D0 : G0 D = none := fresh_back g0 hD
  have hb : ∀ b o, G0 b = some o → wo [D] (upd G0 D (.dK [])) b = some o := fun b o h => by
    have n := ne_of_none h D0
    rw [wo_out (by simpa using n), upd_ne n]
    exact h
  have mo : ∀ i : Nat, MoA (fun (_ : Hp) (o : HO) => o = .dK ((l.take i).map fun a => (.inl (k a), .int (v a)))) := fun _ _ _ _ _ h => h
  refine walk_W wl (fun i H => Acc G0 H2 D G0 (fun _ o => o = .dK ((l.take i).map fun a => (.inl (k a), .int (v a)))) H) (Step := fun Nx x H' => g x (wipe σ vs) H' fun σ2 H2 => wipe σ2 vs = wipe σ vs ∧ tYes σ2 H2 fun b H3 =>
    if b = true then tk σ2 H3 fun y H4 => tv σ2 H4 fun z H5 => ∃ kvs k, y = kV k ∧ H5 D = some (.dK kvs) ∧ kvs.length < sizeLine ∧ Nx (upd H5 D (.dK (putK kvs k z))) else Nx H3) ⟨_, _, kn0, upd_same, hb, rfl⟩ (fun i H a => a.ex) ?_ ?_
  · rintro i x H H' hi a ⟨y1, d, y2, y3⟩
    rw [List.length_map] at hi
    obtain ⟨av, ha, rfl⟩ : ∃ a, l[i]? = some a ∧ ι a = d := by
      rw [List.getElem?_map] at y2
      exact Option.map_eq_some_iff.mp y2
    have hmem := List.mem_of_getElem? ha
    have et : l.take (i + 1) = l.take i ++ [av] := by
      rw [List.take_succ, ha]
      rfl
    obtain ⟨W, o, w1, w2, w3, w4, w5, w6, w7⟩ := a.open D0
    subst w5
    refine ht av (cut W H H') hmem (b0.trans (w2.trans (cut_base (w1.trans y1)))) x (y3.mono (cut_grow w2)) H' cut_le _ fun σ2 ⟨m1, m2, m3⟩ => ⟨m1, ?_⟩
    show tk σ2 H' _
    refine m2 H' cut_le _ fun y H4 e4 p4 => m3 H4 (cut_le.trans e4) _ fun z H5 e5 p5 => ?_
    have e := (y1.trans e4).trans e5
    refine ⟨_, .inl (k av), De.int' p4, e _ _ w3, sz_lt (by rw [List.length_map, List.length_take]; omega), w6 H5 _ e rfl (mo i) _ _ ?_ (mo (i + 1))⟩
    rw [De.int' p5, et, List.map_append, putK_new]
    · rfl
    · intro q
      rw [List.map_map] at q
      obtain ⟨c, hc, ec⟩ := List.mem_map.mp q
      have ec : k c = k av := Sum.inl.inj ec
      have e3 : l.map k = (l.take i).map k ++ k av :: (l.drop (i + 1)).map k := by
        rw [← List.map_cons, ← List.map_append]
        congr 1
        have : l.drop i = av :: l.drop (i + 1) := by
          have hlt : i < l.length := hi
          rw [List.getElem?_eq_getElem hlt] at ha
          cases ha
          exact List.drop_eq_getElem_cons hlt
        rw [← this, List.take_append_drop]
      rw [e3] at nd
      exact (List.nodup_append.mp nd).2.2 (k c) (List.mem_map.mpr ⟨c, hc, rfl⟩) (k av) List.mem_cons_self ec
  · rintro H ⟨G, o, kn, h1, h2, rfl⟩
    rw [List.length_map, List.take_length] at h1
    have eG : G = cut B H1 H := by
      rw [kn.g, ← hG, cut_cut e2 (e1.trans e2)]
    exact q (.ref D) H (e2.trans kn.e) ⟨D, rfl, fresh_back (e1.trans e2) hD, by rw [← eG]; exact h1⟩
/-- {w a for a in l if f a} -/
theorem ep_scI {w0 : World} {α : Type} {l : List α} {ι : α → PyData} (f : α → Bool) (w : α → Int) (hw : EvI wi σ B (l.map ι)) (hl : l.length < 1000)
    (ht : ∀ (a : α) G, a ∈ l → Ex B G → TgP g (ι a) (wipe σ vs) G fun σ2 => wipe σ2 vs = wipe σ vs ∧ EvT tt σ2 G (f a) ∧ (f a = true → EvP te σ2 G (is (.int (w a))))) :
    EvP (tScI w0 wi g tt te vs) σ B (fun G u => ∃ D S n, u = .ref D ∧ G D = some (SetO w0 D S n) ∧ (∃ ds : List Int, ds.Nodup ∧ ds.length = n ∧ ∀ k ∈ ds, S k = true) ∧ ∀ k, S k = true ↔ ∃ a ∈ l, f a = true ∧ w a = k) := fun H1 e1 Q q => hw H1 e1 _ fun J H2 e2 wl D hD => by
  generalize hG : cut B H1 H2 = G0 at wl
  have g0 : Ex G0 H2 := by rw [← hG]; exact cut_le
  have b0 : Ex B G0 := by rw [← hG]; exact cut_base (e1.trans e2)
  have kn0 := (Kn.start g0).new (o := SetO w0 D (fun _ => false) 0) hD
  have D0 : G0 D = none := fresh_back g0 hD
  have hb : ∀ b o, G0 b = some o → wo [D] (upd G0 D (SetO w0 D (fun _ => false) 0)) b = some o := fun b o h => by
    have n := ne_of_none h D0
    rw [wo_out (by simpa using n), upd_ne n]
    exact h
  let φ : Nat → Hp → HO → Prop := fun i _ o => ∃ S n, o = SetO w0 D S n ∧ (n ≤ i ∧ ∃ ds : List Int, ds.Nodup ∧ ds.length = n ∧ ∀ k ∈ ds, S k = true) ∧ ∀ k, S k = true ↔ ∃ a ∈ l.take i, f a = true ∧ w a = k
  have mo : ∀ i : Nat, MoA (φ i) := fun _ _ _ _ _ h => h
  refine walk_W wl (fun i H => Acc G0 H2 D G0 (φ i) H) (Step := fun Nx x H' => g x (wipe σ vs) H' fun σ2 H2 => wipe σ2 vs = wipe σ vs ∧ tt σ2 H2 fun b H3 =>
    if b = true then te σ2 H3 fun y H4 => ∃ (c : Int) (S : Int → Bool) (n : Nat), y = .int c ∧ H4 D = some (SetO w0 D S n) ∧ n + 1 < scanBound ∧ Nx (upd H4 D (SetO w0 D (fun j => S j || decide (j = c)) (if S c = true then n else n + 1))) else Nx H3) ⟨_, _, kn0, upd_same, hb, _, 0, rfl, ⟨Nat.le_refl _, [], by simp, rfl, by simp⟩, fun k => by simp⟩ (fun i H a => a.ex) ?_ ?_
  · rintro i x H H' hi a ⟨y1, d, y2, y3⟩
    rw [List.length_map] at hi
    obtain ⟨av, ha, rfl⟩ : ∃ a, l[i]? = some a ∧ ι a = d := by
      rw [List.getElem?_map] at y2
      exact Option.map_eq_some_iff.mp y2
    have hmem := List.mem_of_getElem? ha
    have et : l.take (i + 1) = l.take i ++ [av] := by
      rw [List.take_succ, ha]
      rfl
    obtain ⟨W, o, w1, w2, w3, w4, w5, w6, w7⟩ := a.open D0
    obtain ⟨S, n, rfl, ⟨hn, ds, hd1, hd2, hd3⟩, hS⟩ := w5
    refine ht av (cut W H H') hmem (b0.trans (w2.trans (cut_base (w1.trans y1)))) x (y3.mono (cut_grow w2)) H' cut_le _ fun σ2 ⟨m1, m2, m3⟩ => ⟨m1, ?_⟩
    refine m2 H' cut_le _ fun H3 e3 => ?_
    cases hf : f av with
    | false =>
      show Acc _ _ _ _ _ H3
      obtain ⟨G', o', kn', k1, k2, k3⟩ := a.grow (mo i) (y1.trans e3)
      obtain ⟨S', n', rfl, ⟨hn', hd'⟩, hS'⟩ := k3
      refine ⟨G', _, kn', k1, k2, S', n', rfl, ⟨by omega, hd'⟩, fun k => ?_⟩
      rw [hS', et]
      constructor
      · rintro ⟨c, hc, r⟩
        exact ⟨c, List.mem_append_left _ hc, r⟩
      · rintro ⟨c, hc, r⟩
        rcases List.mem_append.mp hc with hc | hc
        · exact ⟨c, hc, r⟩
        · have : c = av := by simpa using hc
          rw [this, hf] at r
          cases r.1
    | true =>
      refine m3 hf H3 (cut_le.trans e3) _ fun y H4 e4 py => ?_
      have e := (y1.trans e3).trans e4
      refine ⟨w av, S, n, De.int' py, e _ _ w3, Nat.lt_of_le_of_lt (show n + 1 ≤ 1001 by omega) (by decide), w6 H4 _ e rfl (mo i) (φ (i + 1)) _ ⟨_, _, rfl, ?_, fun k => ?_⟩ (mo (i + 1))⟩
      · refine ⟨by split <;> omega, ?_⟩
        by_cases hc : S (w av) = true
        · rw [if_pos hc]
          exact ⟨ds, hd1, hd2, fun k hk => by rw [hd3 k hk]; rfl⟩
        · rw [if_neg hc]
          refine ⟨w av :: ds, List.nodup_cons.mpr ⟨fun z => hc (hd3 _ z), hd1⟩, by rw [List.length_cons, hd2], fun k hk => ?_⟩
          rcases List.mem_cons.mp hk with rfl | hk
          · simp
          · rw [hd3 k hk]; rfl
      · rw [Bool.or_eq_true, hS, decide_eq_true_eq, et]
        constructor
        · rintro (⟨c, hc, r⟩ | rfl)
          · exact ⟨c, List.mem_append_left _ hc, r⟩
          · exact ⟨av, by simp, hf, rfl⟩
        · rintro ⟨c, hc, r⟩
          rcases List.mem_append.mp hc with hc | hc
          · exact .inl ⟨c, hc, r⟩
          · have : c = av := by simpa using hc
            rw [this] at r
            exact .inr r.2.symm
  · rintro H ⟨G, o, kn, h1, h2, S, n, rfl, ⟨_, hn⟩, hS⟩
    rw [List.length_map] at hS
    rw [List.take_length] at hS
    have eG : G = cut B H1 H := by
      rw [kn.g, ← hG, cut_cut e2 (e1.trans e2)]
    exact q (.ref D) H (e2.trans kn.e) ⟨D, S, n, rfl, by rw [← eG]; exact h1, hn, hS⟩
/-- sorted(..) of a set -/
theorem ep_sortedS {w0 : World} {ta : TE} {A : Int → Prop} (hm : ∀ ds : List Int, ds.Nodup → (∀ k ∈ ds, A k) → ds.length < 64) (ha : EvP ta σ B (fun G u => ∃ D S n, u = .ref D ∧ G D = some (SetO w0 D S n) ∧ (∃ ds : List Int, ds.Nodup ∧ ds.length = n ∧ ∀ k ∈ ds, S k = true) ∧ ∀ k, S k = true ↔ A k)) :
    EvP (tCB (rSortedSet w0) (tCons ta tNil)) σ B (fun G v => (∃ a, v = .ref a ∧ B a = none) ∧ ∃ ns : List Int, De G v (dI ns) ∧ ns.Pairwise (· < ·) ∧ ∀ k, k ∈ ns ↔ A k) :=
  ep_cb1 ha (fun _ _ _ e ⟨D, S, n, h1, h2, h3⟩ => ⟨D, S, n, h1, e _ _ h2, h3⟩) fun x G e ⟨D, S, n, h1, h2, ⟨ds, d1, d2, d3⟩, h4⟩ => fun H1 e1 Q q =>
    ⟨D, S, n, by rw [h1], e1 _ _ h2, by rw [← d2]; exact hm ds d1 fun k hk => (h4 k).mp (d3 k hk), fun ns p p1 p2 p3 hp => q _ _ (Ex.new hp) ⟨⟨p, rfl, fresh_back (e.trans e1) hp⟩, ns, .lst (by rw [cut_new hp, upd_same]) (DeA.ints ns), p1, fun k => (p2 k).trans (h4 k)⟩⟩
/-- sorted(list of ints) -/
theorem ep_sortedI {K : PySem.W.Frag} {ta : TE} {ns : List Int} (ha : EvP ta σ B (is (dI ns))) : EvP (tCB (rSortedI K) (tCons ta tNil)) σ B (fun G v => ∃ ms : List Int, De G v (dI ms) ∧ ms.Pairwise (· ≤ ·) ∧ ms.Perm ns) :=
  ep_cb1 ha mo_is fun x G e p => fun H1 e1 Q q => by
    obtain ⟨a, xs, rfl, h1, h2⟩ := De.lst' p
    rw [h2.ints'] at h1
    exact ⟨a, ns, rfl, sq_of (e1 _ _ h1), fun ms p p1 p2 hp => q _ _ (Ex.new hp) ⟨ms, .lst (by rw [cut_new hp, upd_same]) (DeA.ints ms), p2, p1⟩⟩
end
end Q
/-! K75M5 -/
set_option Elab.async false
set_option linter.all false
set_option maxRecDepth 100000
set_option maxHeartbeats 4000000
/-! The crowd as it grows. -/
namespace M
structure CInv (Lv : Nat → List Nat) (en : Nat → Int) (n : Nat) (S fr : List Nat) : Prop where
  nd : S.Nodup
  lt : ∀ t ∈ S, t < n
  lf : ∀ t, t < n → t ∉ (gr Lv en n).map (·.1) → t ∈ S
  sub : ∀ t ∈ fr, t ∈ S
  cl : ∀ t ∈ S, t ∉ fr → ∀ g ∈ Lv t, ∀ u, (u, g) ∈ gr Lv en n → u ∈ S
  of : ∀ P : Nat → Prop, (∀ t, t < n → t ∉ (gr Lv en n).map (·.1) → P t) → (∀ t g u, P t → g ∈ Lv t → (u, g) ∈ gr Lv en n → P u) → ∀ t ∈ S, P t
section
variable {Lv : Nat → List Nat} {en : Nat → Int} {n : Nat} {S fr fr' : List Nat}
theorem cinv_start : CInv Lv en n ((List.range n).filter fun t => !((gr Lv en n).map (·.1)).contains t) ((List.range n).filter fun t => !((gr Lv en n).map (·.1)).contains t) where
  nd := List.nodup_range.sublist List.filter_sublist
  lt := fun t h => List.mem_range.mp (List.mem_filter.mp h).1
  lf := fun t h1 h2 => List.mem_filter.mpr ⟨List.mem_range.mpr h1, by simpa using h2⟩
  sub := fun t h => h
  cl := fun t h1 h2 => absurd h1 h2
  of := fun P h1 h2 t h => h1 t (List.mem_range.mp (List.mem_filter.mp h).1) (by simpa using (List.mem_filter.mp h).2)
theorem CInv.step (c : CInv Lv en n S fr) (nd : fr'.Nodup) (h : ∀ u, u ∈ fr' ↔ (∃ t ∈ fr, ∃ g ∈ Lv t, (u, g) ∈ gr Lv en n) ∧ u ∉ S) : CInv Lv en n (S ++ fr') fr' where
  nd := List.nodup_append.mpr ⟨c.nd, nd, fun a ha b hb e => ((h b).mp hb).2 (e ▸ ha)⟩
  lt := fun t ht => by
    rcases List.mem_append.mp ht with ht | ht
    · exact c.lt t ht
    · obtain ⟨⟨t', _, g, _, hu⟩, _⟩ := (h t).mp ht
      exact gr_keys n _ hu
  lf := fun t h1 h2 => List.mem_append_left _ (c.lf t h1 h2)
  sub := fun t ht => List.mem_append_right _ ht
  cl := fun t ht hn g hg u hu => by
    rcases List.mem_append.mp ht with ht | ht
    · by_cases hf : t ∈ fr
      · by_cases hs : u ∈ S
        · exact List.mem_append_left _ hs
        · exact List.mem_append_right _ ((h u).mpr ⟨⟨t, hf, g, hg, hu⟩, hs⟩)
      · exact List.mem_append_left _ (c.cl t ht hf g hg u hu)
    · exact absurd ht hn
  of := fun P h1 h2 t ht => by
    rcases List.mem_append.mp ht with ht | ht
    · exact c.of P h1 h2 t ht
    · obtain ⟨⟨t', ht', g, hg, hu⟩, _⟩ := (h t).mp ht
      exact h2 t' g t (c.of P h1 h2 t' (c.sub t' ht')) hg hu
theorem CInv.crowd (c : CInv Lv en n S []) {S' : List Nat} (p : S'.Perm S) : Crowd Lv en n S' where
  nd := p.nodup_iff.mpr c.nd
  lt := fun t h => c.lt t (p.mem_iff.mp h)
  lf := fun t h1 h2 => p.mem_iff.mpr (c.lf t h1 h2)
  cl := fun t h g hg u hu => p.mem_iff.mpr (c.cl t (p.mem_iff.mp h) (by simp) g hg u hu)
  of := fun P h1 h2 t h => c.of P h1 h2 t (p.mem_iff.mp h)
theorem CInv.len (c : CInv Lv en n S fr) : S.length ≤ n := by
  have := len_le (A := S) (B := List.range n) c.nd fun t h => List.mem_range.mpr (c.lt t h)
  rwa [List.length_range] at this
/-- who has the giver -/
def takenOf (F : List (Nat × Nat)) (g : Nat) : Option Nat := (F.find? fun p => p.2 == g).map (·.1)
theorem takenOf_iff {g u : Nat} : takenOf (gr Lv en n) g = some u ↔ (u, g) ∈ gr Lv en n := by
  unfold takenOf
  constructor
  · intro h
    obtain ⟨p, hp, e⟩ := Option.map_eq_some_iff.mp h
    have h1 := List.mem_of_find?_eq_some hp
    have h2 := List.find?_some hp
    have : p = (u, g) := Prod.ext e (by simpa using h2)
    rw [← this]
    exact h1
  · intro h
    cases hf : (gr Lv en n).find? fun p => p.2 == g with
    | none =>
      have := List.find?_eq_none.mp hf _ h
      simp at this
    | some p =>
      have h1 := List.mem_of_find?_eq_some hf
      have h2 := List.find?_some hf
      have h3 : p.2 = g := by simpa using h2
      have h4 : (p.1, g) ∈ gr Lv en n := by rw [← h3]; exact h1
      rw [gr_inj h h4]
      rfl
end
end M
/-! K75D6 -/
set_option Elab.async false
set_option linter.all false
set_option maxRecDepth 100000
set_option maxHeartbeats 4000000
/-! Links.crowd. -/
namespace Q
open PySem PySem.Spec PyProof.Rows L2 Evl SlX
open M (Ln Fr)
section
variable {σ : L2.St} {B : Hp} {ta tb td ty : TE} {K : PySem.W.Frag} {C : Addr}
/-- in a dict of whole numbers -/
theorem ep_din {D : Addr} {kvs : List (Key × V)} {i : Int} (hi : EvP ty σ B (is (.int i))) (hd : Ev td σ B (.ref D)) (h : B D = some (.dK kvs)) : EvP (tDIn ty td) σ B (is (.bool (valV kvs (.inl i)).isSome)) := fun H1 e Q q =>
  hi H1 e _ fun y H2 e2 p => hd H2 (e.trans e2) _ fun H3 e3 => ⟨D, _, rfl, .inl ⟨kvs, .inl i, .inl (((e.trans e2).trans e3) _ _ h), De.int' p, rfl⟩, q _ H3 (e2.trans e3) (.bl _)⟩
theorem ep_dget {D : Addr} {kvs : List (Key × V)} {i j : Int} (hd : Ev td σ B (.ref D)) (hi : EvP ty σ B (is (.int i))) (h : B D = some (.dK kvs)) (hv : valV kvs (.inl i) = some (.int j)) : EvP (tDGet td ty) σ B (is (.int j)) := fun H1 e Q q =>
  hd H1 e _ fun H2 e2 => hi H2 (e.trans e2) _ fun y H3 e3 p => ⟨D, _, rfl, .inl ⟨kvs, .inl i, .inl (((e.trans e2).trans e3) _ _ h), De.int' p, hv.symm⟩, q _ H3 (e2.trans e3) (.int _)⟩
/-- in a list of whole numbers -/
theorem inV_int {i : Int} {ns : List Int} : inV (.int i) (ns.map V.int) = decide (i ∈ ns) := by
  unfold inV
  rw [Bool.eq_iff_iff, decide_eq_true_eq, List.any_eq_true]
  constructor
  · rintro ⟨y, hy, e⟩
    obtain ⟨n, hn, rfl⟩ := List.mem_map.mp hy
    have : n = i := by simpa [eqV] using e
    rw [← this]
    exact hn
  · intro h
    exact ⟨.int i, List.mem_map.mpr ⟨i, h, rfl⟩, by simp [eqV]⟩
theorem flat_ints' (ns : List Int) : (ns.map V.int).all flatV = true := List.all_eq_true.mpr fun x hx => by
  obtain ⟨n, _, rfl⟩ := List.mem_map.mp hx
  rfl
theorem ep_in {neg : Bool} {i : Int} {ns : List Int} (ha : EvP ta σ B (is (.int i))) (hb : EvP tb σ B (is (dI ns))) : EvP (tOp (rIn K neg) ta tb) σ B (is (.bool (if neg then !decide (i ∈ ns) else decide (i ∈ ns)))) :=
  ep_op ha mo_is hb mo_is fun G x y e p1 p2 => fun H1 e1 Q q => by
    obtain ⟨a, xs, rfl, h1, h2⟩ := De.lst' p2
    rw [h2.ints'] at h1
    refine ⟨a, _, rfl, .inl (sq_of (e1 _ _ h1)), by rw [De.int' p1]; rfl, flat_ints' _, ?_⟩
    rw [De.int' p1, inV_int]
    exact q _ H1 (Ex.refl _) (.bl _)
/-- without dicts -/
def noD (B : Hp) : Hp := fun b => match B b with
  | some (.dK _) => none
  | o => o
theorem noD_le : Ex (noD B) B := fun b o h => by
  unfold noD at h
  split at h
  · cases h
  · exact h
theorem noD_of {b : Addr} {o : HO} (h : B b = some o) (hn : ∀ kvs, o ≠ .dK kvs) : noD B b = some o := by
  unfold noD
  split
  · rename_i kvs q
    rw [h] at q
    exact absurd (Option.some.inj q) (hn kvs)
  · exact h
theorem noD_not {b : Addr} {kvs : List (Key × V)} : noD B b ≠ some (.dK kvs) := fun h => by
  unfold noD at h
  split at h
  · cases h
  · rename_i q
    exact q kvs h
mutual
theorem De.noD : ∀ {v : V} {d : PyData}, De B v d → De (noD B) v d
  | _, _, .non => .non
  | _, _, .bl b => .bl b
  | _, _, .int i => .int i
  | _, _, .lst h a => .lst (noD_of h fun _ q => by cases q) (DeA.noD a)
  | _, _, .tup h a => .tup (noD_of h fun _ q => by cases q) (DeA.noD a)
theorem DeA.noD : ∀ {vs : List V} {ds : List PyData}, DeA B vs ds → DeA (noD B) vs ds
  | _, _, .nil => .nil
  | _, _, .cons a b => .cons (De.noD a) (DeA.noD b)
end
theorem isL_noD {i : LK} {v : V} (h : isL C i B v) : isL C i (noD B) v := by
  obtain ⟨a, dx, v0, v1, v2, v3, v4, h, l⟩ := h
  refine ⟨a, dx, v0, v1, v2, v3, v4, h, ?_, l.d0.noD, l.d1.noD, l.d2.noD, l.d3.noD, l.d4.noD, l.z⟩
  rcases l.sl with ⟨h1, h2⟩ | ⟨h1, h2⟩
  · exact .inl ⟨noD_of h1 (fun _ q => by cases q), h2⟩
  · exact .inr ⟨noD_of h1 (fun _ q => by cases q), noD_of h2 (fun _ q => by cases q)⟩
/-- self.best(): a new dict -/
theorem ep_best {i : LK} {E : XK} (ho : EvP ta σ B (isL C i)) : EvP (tMethSl C (spLBest C) E ta tNil) σ B (fun G v => ∃ D, v = .ref D ∧ B D = none ∧ G D = some (.dK (kvF (M.F i.1 i.2.1 i.2.2)))) := fun H1 e Q q =>
  ho H1 e _ fun x H2 e2 p => by
    obtain ⟨a, dx, v0, v1, v2, v3, v4, rfl, l⟩ := id p
    refine ⟨a, dx, _, rfl, slt_mono cut_le l.sl, i, noD (cut B H1 H2), noD_le.trans cut_le, ⟨_, rfl, isL_noD p⟩, fun v H3 e3 r => ?_⟩
    obtain ⟨D, rfl, hD⟩ := r
    have h2 : H2 D = none := by
      cases h : H2 D with
      | none => rfl
      | some u =>
        cases hn : noD (cut B H1 H2) D with
        | none => rw [cut_none h hn] at hD; cases hD
        | some w =>
          rw [cut_old hn] at hD
          have := (noD_le.trans (cut_le.trans e3)) _ _ hn
          rw [hD] at this
          cases this
          exact absurd hn noD_not
    refine q _ H3 (e2.trans e3) ⟨D, rfl, fresh_back (e.trans e2) h2, ?_⟩
    rw [cut_new (fresh_back e2 h2)]
    rw [cut_new h2] at hD
    exact hD
/-- d.items() of such a dict, walked -/
theorem wi_items {F : List (Nat × Nat)} (h : EvP td σ B (fun G v => ∃ D, v = .ref D ∧ B D = none ∧ G D = some (.dK (kvF F)))) : EvI (iItems (tFrz td)) σ B (F.map fun p => .tuple [nt p.1, nt p.2]) := fun H1 e R r =>
  h H1 e _ fun v H2 e2 ⟨D, hv, hB, hD⟩ => by
    have h1 : H1 D = none := by
      cases h : H1 D with
      | none => rfl
      | some u => rw [cut_none h hB] at hD; cases hD
    refine ⟨D, _, hv, cut_le _ _ hD, trivial, fun od => ⟨D, od, kvF F, rfl, upd_same, r _ _ (e2.mut h1) ?_⟩⟩
    have w := walk_items (d := D) (o := od) (kvs := kvF F)
    have hl : (kvF F).length = (F.map fun p => PyData.tuple [nt p.1, nt p.2]).length := by unfold kvF; simp
    unfold Wl
    rw [← hl]
    refine w.mono (fun H e => e _ _ (by rw [cut_new h1, upd_same])) fun j H x H' hj e y => ?_
    obtain ⟨T, u1, u2, rfl, hT, rfl, hu1, hu2⟩ := y
    have hk : (kvF F)[j]? = F[j]?.map fun p => (.inl (p.1 : Int), .int (p.2 : Int)) := by unfold kvF; rw [List.getElem?_map]
    have hu1 : ((kvF F)[j]?.map fun kv => kV kv.1) = some u1 := hu1
    have hu2 : (kvF F)[j]?.map Prod.snd = some u2 := hu2
    rw [hk] at hu1 hu2
    cases hF : F[j]? with
    | none => rw [hF] at hu1; cases hu1
    | some p =>
      rw [hF] at hu1 hu2
      cases hu1
      cases hu2
      refine ⟨Ex.new hT, .tuple [nt p.1, nt p.2], by rw [List.getElem?_map, hF]; rfl, .tup (by rw [cut_new hT, upd_same]; rfl) (.cons (.int _) (.cons (.int _) .nil))⟩
end
def kvT (F : List (Nat × Nat)) : List (Key × V) := F.map fun p => (.inl (p.2 : Int), .int (p.1 : Int))
theorem kvT_vals (F : List (Nat × Nat)) : (kvT F).map (·.2) = (F.map fun p => (p.1 : Int)).map V.int := by
  unfold kvT
  rw [List.map_map, List.map_map]
  rfl
theorem kvT_val : ∀ (F : List (Nat × Nat)) (g : Nat), valV (kvT F) (.inl (g : Int)) = (M.takenOf F g).map fun u => .int (u : Nat)
  | [], g => rfl
  | p :: F, g => by
    have ih := kvT_val F g
    unfold M.takenOf at ih ⊢
    rw [List.find?_cons]
    by_cases h : p.2 = g
    · have e : (kvT (p :: F)) = ((.inl (p.2 : Int), .int (p.1 : Int)) : Key × V) :: kvT F := rfl
      rw [e, valV_pos (by rw [h])]
      rw [beq_iff_eq.mpr h]
      rfl
    · have e : (kvT (p :: F)) = ((.inl (p.2 : Int), .int (p.1 : Int)) : Key × V) :: kvT F := rfl
      have hn : ¬ ((.inl (p.2 : Int) : Key) = .inl (g : Int)) := fun q => h (by have := Sum.inl.inj q; omega)
      rw [e, valV_neg hn, ih]
      rw [show (p.2 == g) = false by simpa using h]
theorem mem_castF1 {F : List (Nat × Nat)} {t : Nat} : decide ((t : Int) ∈ F.map fun p => (p.1 : Int)) = (F.map (·.1)).contains t := by
  rw [Bool.eq_iff_iff, decide_eq_true_eq, List.contains_iff_mem, List.mem_map, List.mem_map]
  constructor
  · rintro ⟨p, hp, e⟩
    exact ⟨p, hp, by omega⟩
  · rintro ⟨p, hp, e⟩
    exact ⟨p, hp, by omega⟩
abbrev cI (S : List Nat) : List Int := S.map fun n : Nat => (n : Int)
theorem mem_cI {S : List Nat} {u : Nat} : (u : Int) ∈ cI S ↔ u ∈ S := by
  rw [List.mem_map]
  constructor
  · rintro ⟨v, hv, e⟩
    have : v = u := by omega
    exact this ▸ hv
  · intro h
    exact ⟨u, h, rfl⟩
theorem dI_cI (S : List Nat) : dI (cI S) = dN S := by
  unfold dI dN cI
  rw [List.map_map]
  rfl
theorem to_nats : ∀ {ns : List Int}, (∀ k ∈ ns, ∃ u : Nat, k = u) → ∃ S : List Nat, ns = cI S
  | [], _ => ⟨[], rfl⟩
  | k :: ns, h => by
    obtain ⟨u, rfl⟩ := h k List.mem_cons_self
    obtain ⟨S, rfl⟩ := to_nats fun k hk => h k (List.mem_cons_of_mem _ hk)
    exact ⟨u :: S, rfl⟩
/-- list(..) of a list: a new one -/
theorem ep_listF {σ : L2.St} {B : Hp} {ta : TE} {K : PySem.W.Frag} {ds : List PyData} (ha : EvP ta σ B (is (.list ds))) : EvP (tCB (fun xs H Q => ∃ p ys, xs = [.ref p] ∧ (SqL K H p ys ∨ SqT K H p ys) ∧ ∀ l, H l = none → Q (.ref l) (upd H l (.lst ys))) (tCons ta tNil)) σ B (isF B (.list ds)) :=
  ep_cb1 ha mo_is fun x G e p => fun H1 e1 Q q => by
    obtain ⟨a, xs, rfl, h1, h2⟩ := De.lst' p
    exact ⟨a, xs, rfl, .inl (sq_of (e1 _ _ h1)), fun l hl => q _ _ (Ex.new hl) ⟨⟨l, rfl, fresh_back (e.trans e1) hl⟩, .lst (by rw [cut_new hl, upd_same]) (h2.mono (cut_base (e1.trans (Ex.new hl))))⟩⟩
theorem ep_tupleP {σ : L2.St} {B : Hp} {ta : TE} {K : PySem.W.Frag} {A : List PyData → Prop} (ha : EvP ta σ B (fun G v => ∃ ds, De G v (.list ds) ∧ A ds)) : EvP (tCB (fun xs H Q => ∃ a ys, xs = [.ref a] ∧ ((SqL K H a ys ∧ ∀ l, H l = none → Q (.ref l) (upd H l (.tup ys))) ∨ (SqT K H a ys ∧ Q (.ref a) H))) (tCons ta tNil)) σ B (fun G v => ∃ ds, De G v (.tuple ds) ∧ A ds) :=
  ep_cb1 ha (fun _ _ _ e ⟨ds, h, r⟩ => ⟨ds, h.mono e, r⟩) fun x G e ⟨ds, p, r⟩ => fun H1 e1 Q q => by
    obtain ⟨a, xs, rfl, h1, h2⟩ := De.lst' p
    exact ⟨a, xs, rfl, .inl ⟨sq_of (e1 _ _ h1), (Co.new (P := fun G v => ∃ ds, De G v (.tuple ds) ∧ A ds) fun G' a e2 h => ⟨ds, .tup h (h2.mono e2), r⟩) H1 e1 Q q⟩⟩
theorem ints_wo {G : Hp} {a D : Addr} {ns : List Int} (h : De G (.ref a) (dI ns)) (n : a ≠ D) : De (wo [D] G) (.ref a) (dI ns) := by
  cases h with
  | lst h1 h2 =>
    rw [h2.ints'] at h1
    exact .lst (by rw [wo_out (by simpa using n)]; exact h1) (DeA.ints ns)
section
variable {P : Program} {w : World} {K : PySem.W.Frag} {mg : Str → Option Value} {base : Heap} {C : Addr}
def spLCrowd (C : Addr) : Sp := spF (ι := LK) (fun i B vs => i.1.length ≤ 10 ∧ ∃ v, vs = [v] ∧ isL C i B v) fun i => fun G v => ∃ S : List Nat, De G v (.tuple (S.map nt)) ∧ M.Crowd (M.living i.1 i.2.1 i.2.2) (M.ed i.1) i.1.length S
abbrev dLCrowd (a : Fg → Addr) : Df := ⟨a, "crowd", "Links.crowd", sLCrowd, []⟩
theorem scLCrowd : FnScope ["self", "taken", "found", "fresh", "some", "taker", "giver"] ["self"] (defScope sLCrowd) := ⟨rfl, rfl, rfl, by decide +kernel, rfl, by decide +kernel, by decide +kernel⟩
theorem ok_LCrowd {a : Fg → Addr} {f : Addr} {fd : FuncData} (F : At K (dLCrowd a) f fd) (T : Bt mg) (L : LF K C) (I : LI P w K mg base C) (G4 : MR P w K mg base 4 C "living" (spLLiving C)) (G5 : MR P w K mg base 5 C "best" (spLBest C)) : FR P w K mg base 6 f (spLCrowd C) := by
  refine raw0 (d := dLCrowd a) (fok F scLCrowd (fun i B vs h => by obtain ⟨_, v, rfl, _⟩ := h; rfl) fun cdv A' outer s H E hr => ?_) (F.bindsN fun _ _ _ _ _ _ us hl => match us, hl with | [_], _ => rfl)
  refine ⟨_, (pss_cons ((ps_asg ((pe_dc (own := [("taker", 5), ("giver", 6)]) (g := (gTup K 2 (gCons (gName 5) (gCons (gName 6) gNil)))) (tt := tYes) rfl scLCrowd.nd (pi_items (pe_frz (pe_m0 G5 hr (Nat.le_refl _) (pv 0)))) (blkOk_by (N := ["self", "taken", "found", "fresh", "some", "taker", "giver"]) (sc := defScope sLCrowd) (by decide +kernel)) (fun _ _ _ _ _ => pg_tup (n := 2) rfl (pgs_cons (pg_name (i := 5) scLCrowd.nd rfl (by first | exact Or.inl rfl | exact Or.inr rfl)) (pgs_cons (pg_name (i := 6) scLCrowd.nd rfl (by first | exact Or.inl rfl | exact Or.inr rfl)) pgs_nil))) (fun _ _ _ _ _ => pts_nil) (fun _ _ _ _ _ => (pv 6)) (fun _ _ _ _ _ => (pv 5)))) (pg_name (i := 1) scLCrowd.nd rfl (by first | exact Or.inl rfl | exact Or.inr rfl)))) (pss_cons ((ps_asg ((pe_lc (own := [("taker", 5)]) (g := gName 5) rfl scLCrowd.nd (pi_L I hr (by omega) (pv 0)) (blkOk_by (N := ["self", "taken", "found", "fresh", "some", "taker", "giver"]) (sc := defScope sLCrowd) (by decide +kernel)) (fun _ _ _ _ _ => pg_name (i := 5) scLCrowd.nd rfl (by first | exact Or.inl rfl | exact Or.inr rfl)) (fun _ _ _ _ _ => pts_one (pt_cmpR (op_notInV rfl) (pv 5) (kValues K (pv 1)) rfl)) (fun _ _ _ _ _ => (pv 5)))) (pg_name (i := 2) scLCrowd.nd rfl (by first | exact Or.inl rfl | exact Or.inr rfl)))) (pss_cons ((ps_asg ((pe_callTy call_list_of (by rfl) T.list (by decide +kernel) (pa_cons ((pv 2)) pa_nil))) (pg_name (i := 3) scLCrowd.nd rfl (by first | exact Or.inl rfl | exact Or.inr rfl)))) (pss_cons ((ps_while PassesOwn.never (pt_cmpR op_gt (pe_callB call_len_seq (by rfl) T.len (by decide +kernel) (pa_cons ((pv 3)) pa_nil)) pe_int rfl) ((pss_cons ((ps_setLc2 (i := 4) (own := [("taker", 5), ("giver", 6)]) (vs1 := [6]) (g := gName 5) (g1 := gName 6) (tt := tYes) rfl scLCrowd.nd rfl rfl rfl (pi_list (pv 3)) (blkOk_by (N := ["self", "taken", "found", "fresh", "some", "taker", "giver"]) (sc := defScope sLCrowd) (by decide +kernel)) (by decide) (fun _ _ _ _ _ => pg_name (i := 5) scLCrowd.nd rfl (by first | exact Or.inl rfl | exact Or.inr rfl)) (fun _ _ _ _ _ => pts_nil) (fun _ _ _ _ _ => (kLst K (pe_m G4 hr (by omega) (pv 0) (pa_cons ((pv 5)) pa_nil)))) (fun _ _ _ _ _ => pg_name (i := 6) scLCrowd.nd rfl (by first | exact Or.inl rfl | exact Or.inr rfl)) (fun _ _ _ _ _ => pts_one (pt_cmp (pc_din (hu_of hr) (pv 6) (pv 1)))) (fun _ _ _ _ _ => pe_dget (hu_of hr) (pv 1) (pv 6) (by intro _ _; rfl)))) (pss_cons ((ps_asg ((pe_callB (cr_sortedSet rfl) (by rfl) T.sorted (by decide +kernel) (pa_cons ((pe_scI (own := [("taker", 5)]) (g := gName 5) rfl scLCrowd.nd (pi_list (pv 4)) (blkOk_by (N := ["self", "taken", "found", "fresh", "some", "taker", "giver"]) (sc := defScope sLCrowd) (by decide +kernel)) (fun _ _ _ _ _ => pg_name (i := 5) scLCrowd.nd rfl (by first | exact Or.inl rfl | exact Or.inr rfl)) (fun _ _ _ _ _ => pts_one (pt_cmpR (kNin K) (pv 5) (pv 2) rfl)) (fun _ _ _ _ _ => (pv 5)))) pa_nil))) (pg_name (i := 3) scLCrowd.nd rfl (by first | exact Or.inl rfl | exact Or.inr rfl)))) (pss_one ((ps_expr (pe_bm PySem.F.plainAttrs_list PySem.F.slot_list_extend PySem.F.type_list_extend mt_extend ((pv 2)) (pa_cons ((pv 3)) pa_nil)))))))))) (pss_one (ps_ret (pe_callTy call_tuple_of (by rfl) T.tuple (by decide +kernel) (pa_cons ((pe_callB cr_sortedI (by rfl) T.sorted (by decide +kernel) (pa_cons ((pv 2)) pa_nil))) pa_nil)))))))), fun i B vs h => ?_⟩
  obtain ⟨hn, v, rfl, hv⟩ := h
  refine ret_of fun H1 nx rt bk ct kn hret => ?_
  -- taken
  refine q_seq (q_asg kn (ep_dc (l := M.F i.1 i.2.1 i.2.2) (ι := fun p => .tuple [nt p.1, nt p.2]) (fun p => (p.2 : Int)) (fun p => (p.1 : Int)) (wi_items (ep_best (ep_var rfl hv mo_L))) ?_ ?_ fun p G hp e => tg_pair fun x y dx dy => ⟨rfl, ep_d rfl dy, ep_d rfl dx⟩) fun vt Ha Ga kna ea pt => ?_)
  · have : (M.F i.1 i.2.1 i.2.2).length ≤ i.1.length := M.gr_len _
    omega
  · have h := M.gr_ndv (Lv := M.living i.1 i.2.1 i.2.2) (en := M.ed i.1) i.1.length
    have e : (M.F i.1 i.2.1 i.2.2).map (fun p => (p.2 : Int)) = cI ((M.F i.1 i.2.1 i.2.2).map (·.2)) := by rw [cI, List.map_map]; rfl
    rw [e]
    exact M.nodup_map_on _ h fun x _ y _ e => by omega
  obtain ⟨Dt, rfl, hBt, hDt⟩ := pt
  have hDt : Ga Dt = some (.dK (kvT (M.F i.1 i.2.1 i.2.2))) := hDt
  -- found
  refine q_seq (q_asg kna (ep_lcF (l := List.range i.1.length) (ι := nt) (fun t : Nat => !decide ((t : Int) ∈ (M.F i.1 i.2.1 i.2.2).map fun p => (p.1 : Int))) nt (wi_L (i := i) (ep_var rfl (mo_L _ _ _ ea hv) mo_L)) (by simp; omega)
    fun t G ht e => tg_name fun y hy => by
      rw [De.int' hy]
      exact ⟨rfl, et_test' (ep_notInV (ep_d rfl (.int _)) (ev_var rfl) (e _ _ hDt) (kvT_vals _)), fun _ => ep_d rfl (.int _)⟩) fun vfo Hb Gb knb eb pf => ?_)
  obtain ⟨⟨Df, rfl, hGaf⟩, dfo⟩ := pf
  have hBf : B Df = none := fresh_back ea hGaf
  have ef : (List.range i.1.length).filter (fun t : Nat => !decide ((t : Int) ∈ (M.F i.1 i.2.1 i.2.2).map fun p => (p.1 : Int))) = (List.range i.1.length).filter fun t => !((M.F i.1 i.2.1 i.2.2).map (·.1)).contains t := by
    apply List.filter_congr
    intro t _
    rw [mem_castF1]
  rw [ef] at dfo
  generalize hS0 : ((List.range i.1.length).filter fun t => !((M.F i.1 i.2.1 i.2.2).map (·.1)).contains t) = S0 at dfo
  have c0 : M.CInv (M.living i.1 i.2.1 i.2.2) (M.ed i.1) i.1.length S0 S0 := by rw [← hS0]; exact M.cinv_start
  obtain ⟨xf, hxf, hdf⟩ : ∃ xf, Gb Df = some (.lst xf) ∧ DeA Gb xf (S0.map nt) := by
    cases dfo with
    | lst h1 h2 => exact ⟨_, h1, h2⟩
  have hxi : xf = (cI S0).map V.int := by
    have : S0.map nt = (cI S0).map .int := by rw [cI, List.map_map]; rfl
    rw [this] at hdf
    exact hdf.ints'
  rw [hxi] at hxf
  -- fresh
  refine q_seq (q_asg knb (ep_listF (ep_d rfl dfo)) fun vf Hc Gc knc ec dvf => ?_)
  obtain ⟨⟨af, rfl, haf⟩, dvf⟩ := dvf
  have dvf0 : De (wo [Df] Gc) (.ref af) (dN S0) := by
    have h : De Gc (.ref af) (dN S0) := dvf
    rw [← dI_cI] at h ⊢
    exact ints_wo h fun q => by rw [q, hxf] at haf; cases haf
  refine q_seq (q_while knc (fun m σ G => ∃ S fr vf x4 x5 x6, σ = [some v, some (.ref Dt), some (.ref Df), some vf, x4, x5, x6] ∧ isL C i (wo [Df] G) v ∧ G Dt = some (.dK (kvT (M.F i.1 i.2.1 i.2.2))) ∧ G Df = some (.lst ((cI S).map V.int)) ∧ De (wo [Df] G) vf (dN fr) ∧
    M.CInv (M.living i.1 i.2.1 i.2.2) (M.ed i.1) i.1.length S fr ∧ fr.Nodup ∧ m = 2 * (i.1.length - S.length) + (if fr = [] then 0 else 1)) ⟨S0, S0, .ref af, _, _, _, rfl, ?_, ?_, ec _ _ hxf, dvf0, c0, c0.nd, rfl⟩ ?_)
  · exact mo_L _ _ _ (fun b o h => by rw [wo_out (by simpa using ne_of_none h hBf)]; exact ((ea.trans eb).trans ec) _ _ h) hv
  · exact ec _ _ (eb _ _ hDt)
  rintro m σ H2 G2 kn2 ⟨S, fr, vf, x4, x5, x6, rfl, hL, hT, hF, dfr, ci, ndf, rfl⟩
  have lS := ci.len
  have lfr : fr.length ≤ 10 := by
    have := M.len_le (A := fr) (B := S) ndf ci.sub
    omega
  refine ⟨decide (0 < (fr.length : Int)), et_test' (ep_gt ?_ ep_int), fun hb H3 G3 kn3 e3 => ?_, fun hb H3 G3 kn3 e3 => ?_⟩
  · have h := ep_lenL (K := K) (ep_d (σ := [some v, some (.ref Dt), some (.ref Df), some vf, x4, x5, x6]) (i := 3) rfl (dfr.mono wo_le))
    rw [List.length_map] at h
    exact h
  · have hL3 : ∀ {G}, Ex G3 G → isL C i G v := fun e => mo_L _ _ _ (wo_le.trans (e3.trans e)) hL
    -- some
    refine q_seq (q_asg kn3 (ep_lc2 (l := fr) (ι := nt) (fun t => M.living i.1 i.2.1 i.2.2 t) (κ := nt) (fun t g => (M.takenOf (M.F i.1 i.2.1 i.2.2) g).isSome) (fun t g => nt ((M.takenOf (M.F i.1 i.2.1 i.2.2) g).getD 0)) 10
      (wi_list (ep_d rfl (dfr.mono (wo_le.trans e3)))) (fun t _ => Nat.le_trans living_len hn) (by omega) fun t G ht e => tg_name fun y hy => ?_) fun vs H4 G4 kn4 e4 dvs => ?_)
    · rw [De.int' hy]
      refine ⟨rfl, wi_list (ep_l1 (i := (i, t)) (R := fun i => is (dN (M.living i.1.1 i.1.2.1 i.1.2.2 i.2))) (ci.lt t (ci.sub t ht)) (ep_var rfl (hL3 e) mo_L) (ep_d rfl (.int _))), fun g G5 hg e5 => tg_name fun z hz => ?_⟩
      rw [De.int' hz]
      have hT5 : G5 Dt = some (.dK (kvT (M.F i.1 i.2.1 i.2.2))) := e5 _ _ (e _ _ (e3 _ _ hT))
      refine ⟨rfl, et_B' ?_, fun hs => ?_⟩
      · have h := ep_din (σ := [some v, some (.ref Dt), some (.ref Df), some vf, x4, some (.int (t : Nat)), some (.int (g : Nat))]) (ty := tVar 6) (td := tVar 1) (ep_d rfl (.int (g : Nat))) (ev_var rfl) hT5
        rw [kvT_val, Option.isSome_map] at h
        exact h
      · obtain ⟨u, hu⟩ := Option.isSome_iff_exists.mp hs
        rw [hu]
        exact ep_dget (ev_var rfl) (ep_d rfl (.int (g : Nat))) hT5 (by rw [kvT_val, hu]; rfl)
    · let f : Nat → Bool := fun g => (M.takenOf (M.F i.1 i.2.1 i.2.2) g).isSome
      let tk : Nat → Nat := fun g => (M.takenOf (M.F i.1 i.2.1 i.2.2) g).getD 0
      obtain ⟨some', hsome⟩ : ∃ some' : List Nat, some' = fr.flatMap fun t => ((M.living i.1 i.2.1 i.2.2 t).filter f).map tk := ⟨_, rfl⟩
      have dvs2 : De G4 vs (.list (some'.map nt)) := by
        have e : (fr.flatMap fun t => ((M.living i.1 i.2.1 i.2.2 t).filter f).map fun g => nt (tk g)) = some'.map nt := by
          rw [hsome, List.map_flatMap]
          congr 1
          funext t
          rw [List.map_map]
          rfl
        rw [← e]
        exact dvs
      have mems : ∀ u, u ∈ some' ↔ ∃ t ∈ fr, ∃ g ∈ M.living i.1 i.2.1 i.2.2 t, (u, g) ∈ M.F i.1 i.2.1 i.2.2 := fun u => by
        rw [hsome, List.mem_flatMap]
        constructor
        · rintro ⟨t, ht, hu⟩
          obtain ⟨g, hg, rfl⟩ := List.mem_map.mp hu
          obtain ⟨h1, h2⟩ := List.mem_filter.mp hg
          obtain ⟨x, hx⟩ := Option.isSome_iff_exists.mp h2
          refine ⟨t, ht, g, h1, ?_⟩
          have : tk g = x := by show (M.takenOf _ g).getD 0 = x; rw [hx]; rfl
          rw [this]
          exact M.takenOf_iff.mp hx
        · rintro ⟨t, ht, g, hg, hu⟩
          have hx := M.takenOf_iff.mpr hu
          refine ⟨t, ht, List.mem_map.mpr ⟨g, List.mem_filter.mpr ⟨hg, ?_⟩, ?_⟩⟩
          · show (M.takenOf _ g).isSome = true
            rw [hx]; rfl
          · show (M.takenOf _ g).getD 0 = u
            rw [hx]; rfl
      have lsome : some'.length < 1000 := by
        have h := flat_len (h := fun t => ((M.living i.1 i.2.1 i.2.2 t).filter f).map tk) (M := 10) (l := fr) fun t _ => by
          rw [List.length_map]
          exact Nat.le_trans (List.length_filter_le _ _) (Nat.le_trans living_len hn)
        rw [← hsome] at h
        omega
      have hF4 : G4 Df = some (.lst ((cI S).map V.int)) := e4 _ _ (e3 _ _ hF)
      refine q_seq (q_asg kn4 (ep_sortedS (A := fun k => ∃ u ∈ some', (!decide ((u : Int) ∈ cI S)) = true ∧ (u : Int) = k) (fun ds nd hA => ?_) (ep_scI (l := some') (ι := nt) (fun u => !decide ((u : Int) ∈ cI S)) (fun u => (u : Int)) (wi_list (ep_d rfl dvs2)) lsome fun u G hu e => tg_name fun y hy => ?_)) fun vfr H5 G5 kn5 e5 pf => ?_)
      · have sub : ∀ k ∈ ds, k ∈ cI (List.range i.1.length) := fun k hk => by
          obtain ⟨u, hu, _, rfl⟩ := hA k hk
          obtain ⟨t, _, g, _, hug⟩ := (mems u).mp hu
          exact mem_cI.mpr (List.mem_range.mpr (M.gr_keys _ _ hug))
        have := M.len_le nd sub
        simp at this
        omega
      · rw [De.int' hy]
        refine ⟨rfl, et_test' ?_, fun _ => ep_d rfl (.int _)⟩
        have dF : De G (.ref Df) (dI (cI S)) := .lst (e _ _ hF4) (DeA.ints _)
        exact ep_in (neg := true) (ep_d rfl (.int (u : Nat))) (ep_d rfl dF)
      · obtain ⟨⟨afr, rfl, hafr⟩, ns, dns, pns, ins⟩ := pf
        obtain ⟨fr', rfl⟩ := to_nats (ns := ns) fun k hk => by
          obtain ⟨u, _, _, h⟩ := (ins k).mp hk
          exact ⟨u, h.symm⟩
        have nd' : fr'.Nodup := by
          have : (cI fr').Nodup := pns.imp fun h => by omega
          exact M.nodup_of_map _ this
        have memf : ∀ u, u ∈ fr' ↔ (∃ t ∈ fr, ∃ g ∈ M.living i.1 i.2.1 i.2.2 t, (u, g) ∈ M.F i.1 i.2.1 i.2.2) ∧ u ∉ S := fun u => by
          rw [← mem_cI, ins]
          constructor
          · rintro ⟨x, h1, h2, h3⟩
            have : x = u := by omega
            subst this
            refine ⟨(mems x).mp h1, ?_⟩
            simp only [Bool.not_eq_true', decide_eq_false_iff_not] at h2
            exact fun q => h2 (mem_cI.mpr q)
          · rintro ⟨h1, h2⟩
            refine ⟨u, (mems u).mpr h1, ?_, rfl⟩
            simp only [Bool.not_eq_true', decide_eq_false_iff_not]
            exact fun q => h2 (mem_cI.mp q)
        have c2 := ci.step nd' memf
        have l2 := c2.len
        rw [List.length_append] at l2
        have hF5 : G5 Df = some (.lst ((cI S).map V.int)) := e5 _ _ hF4
        refine q_extend (ds := (cI fr').map .int) kn5 hBf hF5 (by simp; omega) (ev_var rfl) (ep_d rfl dns) fun vs' H6 G6 kn6 e6 dvs' kn7 => ?_
        rw [dvs'.ints'] at kn7 ⊢
        refine ⟨_, _, ?_, kn7, S ++ fr', fr', .ref afr, _, _, _, rfl, ?_, ?_, ?_, ?_, c2, nd', rfl⟩
        · rw [List.length_append]
          have hfr : fr ≠ [] := fun q => by rw [q] at hb; simp at hb
          rw [if_neg hfr]
          by_cases q : fr' = []
          · rw [if_pos q, q]; simp
          · rw [if_neg q]
            have := List.length_pos_iff.mpr q
            omega
        · exact mo_L _ _ _ ((wo_mono (((e3.trans e4).trans e5).trans e6)).trans wo_upd1) hL
        · rw [upd_ne (fun q => by rw [q, hF] at hT; cases hT)]
          exact e6 _ _ (e5 _ _ (e4 _ _ (e3 _ _ hT)))
        · rw [upd_same, cI, cI, cI, List.map_append, List.map_append]
        · have d1 := ints_wo (D := Df) dns fun q => by rw [q, hF4] at hafr; cases hafr
          rw [← dI_cI]
          exact De.mono ((wo_mono e6).trans wo_upd1) d1
  · have hfr : fr = [] := by
      cases fr with
      | nil => rfl
      | cons a r => simp at hb
    subst hfr
    have dF : De G3 (.ref Df) (dI (cI S)) := .lst (e3 _ _ hF) (DeA.ints _)
    refine q_ret kn3 (P := fun G v => ∃ S' : List Nat, De G v (.tuple (S'.map nt)) ∧ S'.Perm S) ?_ fun w2 H4 G4 kn4 e4 ⟨S', h1, h2⟩ => hret w2 H4 G4 kn4 ⟨S', h1, ci.crowd h2⟩
    refine (ep_tupleP (A := fun ds => ∃ ms : List Int, ds = ms.map .int ∧ ms.Perm (cI S)) ((ep_sortedI (ep_d rfl dF)).imp fun G v _ ⟨ms, h1, _, h3⟩ => ⟨_, h1, ms, rfl, h3⟩)).imp fun G v _ ⟨ds, h1, ms, h2, h3⟩ => ?_
    obtain ⟨S', rfl⟩ := to_nats (ns := ms) fun k hk => by
      obtain ⟨u, _, e⟩ := List.mem_map.mp (h3.mem_iff.mp hk)
      exact ⟨u, e.symm⟩
    refine ⟨S', ?_, ?_⟩
    · rw [h2] at h1
      have e : (cI S').map PyData.int = S'.map nt := by rw [cI, List.map_map]; rfl
      rw [← e]
      exact h1
    · have h := h3.map Int.toNat
      have e : ∀ l : List Nat, (cI l).map Int.toNat = l := fun l => by
        induction l with
        | nil => rfl
        | cons a l ih => show (a : Int).toNat :: (cI l).map Int.toNat = _; rw [ih]; rfl
      rwa [e, e] at h
end
end Q
/-! K75D7 -/
set_option Elab.async false
set_option linter.all false
set_option maxRecDepth 100000
set_option maxHeartbeats 4000000
/-! fewest_lifeless, best_handing, crowd, dead, lifeless. -/
namespace Q
open PySem PySem.Spec PyProof.Rows L2 Evl SlX
open M (Ln Fr)
section
variable {P : Program} {w : World} {K : PySem.W.Frag} {mg : Str → Option Value} {base : Heap} {C : Addr}
def AF (m : Nat) (i : LK) : PVs := fun B vs => (i.1.length ≤ m ∧ i.2.2.2.length ≤ 1000) ∧ DeA B vs [dl i.1, dk i.2.1, dfar i.2.2]
theorem AF.len {m : Nat} {i : LK} {B : Hp} {vs : List V} (h : AF m i B vs) : vs.length = 3 := h.2.len
/-- all that a def needs of Links -/
structure LA (P : Program) (w : World) (K : PySem.W.Frag) (mg : Str → Option Value) (base : Heap) (C : Addr) : Prop where
  L : LF K C
  I : LI P w K mg base C
  new : LMk P w K mg base C
  len : ∃ g, PySem.W.findIn K (.ref C) "__len__" = some (some (.ref g)) ∧ PySem.W.isFn K (.ref g) = true ∧ FR P w K mg base 1 g (spLLen C)
  gap : MR P w K mg base 1 C "gap" (spLGap C)
  dead : MR P w K mg base 2 C "is_dead" (spLDead C)
  best : MR P w K mg base 5 C "best" (spLBest C)
  crowd : MR P w K mg base 6 C "crowd" (spLCrowd C)
theorem DeA.three {H : Hp} {xs : List V} {d e f : PyData} (h : DeA H xs [d, e, f]) : ∃ v u t, xs = [v, u, t] ∧ De H v d ∧ De H u e ∧ De H t f := by
  cases h with
  | cons h1 h =>
    obtain ⟨u, t, rfl, h2, h3⟩ := h.two
    exact ⟨_, u, t, rfl, h1, h2, h3⟩
theorem ep_lenSl {σ : L2.St} {B : Hp} {ta : TE} {i : LK} {E : XK} (h : EvP ta σ B (isL C i)) : EvP (tCB (rLenSl C (spLLen C) E) (tCons ta tNil)) σ B (is (.int (i.1.length : Nat))) :=
  ep_cb1 h mo_L fun x G e p => fun H1 e1 Q q => by
    obtain ⟨a, dx, v0, v1, v2, v3, v4, rfl, l⟩ := id p
    refine ⟨a, dx, _, rfl, slt_mono e1 l.sl, i, G, e1, ⟨_, rfl, p⟩, fun v H2 e2 r => ⟨_, De.int' r, ⟨by omega, ?_⟩, q _ H2 e2 ?_⟩⟩
    · have := l.z.1
      omega
    · rw [De.int' r]
      exact .int _
theorem ep_lenDict {σ : L2.St} {B : Hp} {ta : TE} {kvs : List (Key × V)} {Pv : V → Prop} (h : EvP ta σ B (fun G v => ∃ D, v = .ref D ∧ G D = some (.dK kvs))) : EvP (tCB (fun xs H Q => ∃ a kvs, xs = [V.ref a] ∧ H a = some (.dK kvs) ∧ Q (.int kvs.length) H) (tCons ta tNil)) σ B (is (.int (kvs.length : Nat))) :=
  ep_cb1 h (fun _ _ _ e ⟨D, h1, h2⟩ => ⟨D, h1, e _ _ h2⟩) fun x G e ⟨D, h1, h2⟩ => fun H1 e1 Q q => ⟨D, kvs, by rw [h1], e1 _ _ h2, q _ H1 (Ex.refl _) (.int _)⟩
/-! ### fewest_lifeless -/
def spFew : Sp := spF (AF 1000) fun i => is (nt (M.U i.1 i.2.1 i.2.2))
abbrev dFew (a : Fg → Addr) : Df := ⟨a, "fewest_lifeless", "fewest_lifeless", sFewest, []⟩
theorem scFew : FnScope ["loans", "keep", "far", "links"] ["loans", "keep", "far"] (defScope sFewest) := ⟨rfl, rfl, rfl, by decide +kernel, rfl, by decide +kernel, by decide +kernel⟩
theorem ok_few {a : Fg → Addr} {f : Addr} {fd : FuncData} (F : At K (dFew a) f fd) (T : Bt mg) (A : LA P w K mg base C) : FnOk P w K mg base CX0 6 f fd ["loans", "keep", "far"] spFew := by
  obtain ⟨gl, l1, l2, l3⟩ := A.len
  refine fok F scFew (fun i B vs h => h.len) fun cdv A' outer s H E hr => ?_
  refine ⟨_, (pss_cons ((ps_asg (C8.pe_mk A.new hr (Nat.le_refl _) (by rfl) (pa_cons ((pv 0)) (pa_cons ((pv 1)) (pa_cons ((pv 2)) pa_nil)))) (pg_name (i := 3) scFew.nd rfl (by first | exact Or.inl rfl | exact Or.inr rfl)))) (pss_one (ps_ret (pe_op op_sub ((pe_callB (call_lenSl (E := E0) (n := 1) l1 l2 l3 (hr.mono (by omega)) pass0) (by rfl) T.len (by decide +kernel) (pa_cons ((pv 3)) pa_nil))) ((pe_callB call_lenD (by rfl) T.len (by decide +kernel) (pa_cons (pe_m0 A.best hr (Nat.le_refl _) (pv 3)) pa_nil))))))), fun i B vs h => ?_⟩
  obtain ⟨hz, hd⟩ := h
  obtain ⟨vl, vk, vf, rfl, h1, h2, h3⟩ := hd.three
  refine sq_asg (ep_newL (i := i) (ep_d rfl h1) (ep_d rfl h2) (ep_d rfl h3) hz) fun v G e hv => st_ret ?_
  have hle : (M.F i.1 i.2.1 i.2.2).length ≤ i.1.length := M.gr_len _
  have e2 : (nt (M.U i.1 i.2.1 i.2.2)) = .int ((i.1.length : Nat) - ((kvF (M.F i.1 i.2.1 i.2.2)).length : Nat)) := by
    unfold nt M.U M.left kvF
    rw [List.length_map]
    congr 1
    have e0 : (M.gr (M.living i.1 i.2.1 i.2.2) (M.ed i.1) i.1.length).length = (M.F i.1 i.2.1 i.2.2).length := rfl
    rw [e0]
    omega
  rw [e2]
  exact ep_sub (ep_lenSl (ep_var rfl hv mo_L)) (ep_lenDict (Pv := fun _ => True) ((ep_best (ep_var rfl hv mo_L)).imp fun _ _ _ ⟨D, h1, _, h2⟩ => ⟨D, h1, h2⟩))
/-! ### best_handing -/
theorem kvF_val : ∀ (F : List (Nat × Nat)) (t : Nat), valV (kvF F) (.inl (t : Int)) = ((F.find? fun p => p.1 == t).map (·.2)).map fun u => .int (u : Nat)
  | [], t => rfl
  | p :: F, t => by
    have ih := kvF_val F t
    rw [List.find?_cons]
    have e : (kvF (p :: F)) = ((.inl (p.1 : Int), .int (p.2 : Int)) : Key × V) :: kvF F := rfl
    by_cases h : p.1 = t
    · rw [e, valV_pos (by rw [h])]
      rw [beq_iff_eq.mpr h]
      rfl
    · have hn : ¬ ((.inl (p.1 : Int) : Key) = .inl (t : Int)) := fun q => h (by have := Sum.inl.inj q; omega)
      rw [e, valV_neg hn, ih]
      rw [show (p.1 == t) = false by simpa using h]
theorem ep_dget1 {σ : L2.St} {B : Hp} {td ty : TE} {D : Addr} {kvs : List (Key × V)} {i : Int} {o : Option Nat} (hd : Ev td σ B (.ref D)) (hi : EvP ty σ B (is (.int i))) (h : B D = some (.dK kvs)) (hv : valV kvs (.inl i) = o.map fun u => .int (u : Nat)) : EvP (tDGet1 td ty) σ B (is (dn o)) := fun H1 e Q q =>
  hd H1 e _ fun H2 e2 => ⟨D, rfl, .inl ⟨kvs, .inl ((e.trans e2) _ _ h)⟩, hi H2 (e.trans e2) _ fun y H3 e3 p => ⟨_, .inl ⟨kvs, .inl i, .inl (((e.trans e2).trans e3) _ _ h), De.int' p, rfl⟩, q _ H3 (e2.trans e3) (by
    rw [hv]
    cases o with
    | none => exact .non
    | some u => exact .int _)⟩⟩
def spBestH : Sp := spF (AF 1000) fun i => is (.tuple ((M.bestH i.1 i.2.1 i.2.2).map dn))
abbrev dBestH (a : Fg → Addr) : Df := ⟨a, "best_handing", "best_handing", sBestH, []⟩
theorem scBestH : FnScope ["loans", "keep", "far", "links", "found", "taker"] ["loans", "keep", "far"] (defScope sBestH) := ⟨rfl, rfl, rfl, by decide +kernel, rfl, by decide +kernel, by decide +kernel⟩
theorem ok_bestH {a : Fg → Addr} {f : Addr} {fd : FuncData} (F : At K (dBestH a) f fd) (T : Bt mg) (A : LA P w K mg base C) : FnOk P w K mg base CX0 6 f fd ["loans", "keep", "far"] spBestH := by
  refine fok F scBestH (fun i B vs h => h.len) fun cdv A' outer s H E hr => ?_
  refine ⟨_, (pss_cons ((ps_asg (C8.pe_mk A.new hr (Nat.le_refl _) (by rfl) (pa_cons ((pv 0)) (pa_cons ((pv 1)) (pa_cons ((pv 2)) pa_nil)))) (pg_name (i := 3) scBestH.nd rfl (by first | exact Or.inl rfl | exact Or.inr rfl)))) (pss_cons ((ps_asg (pe_m0 A.best hr (Nat.le_refl _) (pv 3)) (pg_name (i := 4) scBestH.nd rfl (by first | exact Or.inl rfl | exact Or.inr rfl)))) (pss_one (ps_ret (pe_callTy call_tuple_of (by rfl) T.tuple (by decide +kernel) (pa_cons ((pe_lc (own := [("taker", 5)]) (g := gName 5) (tt := tYes) rfl scBestH.nd (pi_L A.I hr (by omega) (pv 3)) (blkOk_by (N := ["loans", "keep", "far", "links", "found", "taker"]) (sc := defScope sBestH) (by decide +kernel)) (fun _ _ _ _ _ => pg_name (i := 5) scBestH.nd rfl (by first | exact Or.inl rfl | exact Or.inr rfl)) (fun _ _ _ _ _ => pts_nil) (fun _ _ _ _ _ => pe_dget1 (hu_of hr) (pv 4) (pv 5) ⟨rfl, rfl, rfl, rfl⟩))) pa_nil)))))), fun i B vs h => ?_⟩
  obtain ⟨hz, hd⟩ := h
  obtain ⟨vl, vk, vf, rfl, h1, h2, h3⟩ := hd.three
  refine sq_asg (ep_newL (i := i) (ep_d rfl h1) (ep_d rfl h2) (ep_d rfl h3) hz) fun v G e hv => ?_
  refine sq_asg (ep_best (ep_var rfl hv mo_L)) fun vb G2 e2 pb => st_ret ?_
  obtain ⟨D, rfl, _, hD⟩ := pb
  refine ep_tupleOf ?_
  unfold M.bestH
  rw [List.map_map]
  refine ep_lcm (l := List.range i.1.length) (ι := nt) _ (wi_L (i := i) (ep_var rfl (mo_L _ _ _ e2 hv) mo_L)) (by simp; omega) fun t G3 ht e3 => tg_name fun y hy => ?_
  rw [De.int' hy]
  exact ⟨rfl, ep_dget1 (ev_var rfl) (ep_d rfl (.int (t : Nat))) (e3 _ _ hD) (kvF_val _ t)⟩
/-! ### crowd -/
def spCrowd : Sp := spF (AF 10) fun i => fun G v => ∃ S : List Nat, De G v (.tuple (S.map nt)) ∧ M.Crowd (M.living i.1 i.2.1 i.2.2) (M.ed i.1) i.1.length S
abbrev dCrowd (a : Fg → Addr) : Df := ⟨a, "crowd", "crowd", sCrowd, []⟩
theorem scCrowd : FnScope ["loans", "keep", "far"] ["loans", "keep", "far"] (defScope sCrowd) := ⟨rfl, rfl, rfl, by decide +kernel, rfl, by decide +kernel, by decide +kernel⟩
theorem ok_crowd {a : Fg → Addr} {f : Addr} {fd : FuncData} (F : At K (dCrowd a) f fd) (T : Bt mg) (A : LA P w K mg base C) : FnOk P w K mg base CX0 7 f fd ["loans", "keep", "far"] spCrowd := by
  refine fok F scCrowd (fun i B vs h => h.len) fun cdv A' outer s H E hr => ?_
  refine ⟨_, (pss_one (ps_ret (pe_m0 A.crowd hr (Nat.le_refl _) (C8.pe_mk A.new hr (by omega) (by rfl) (pa_cons ((pv 0)) (pa_cons ((pv 1)) (pa_cons ((pv 2)) pa_nil))))))), fun i B vs h => ?_⟩
  obtain ⟨hz, hd⟩ := h
  obtain ⟨vl, vk, vf, rfl, h1, h2, h3⟩ := hd.three
  refine st_ret (ep_meth i (ep_newL (i := i) (ep_d rfl h1) (ep_d rfl h2) (ep_d rfl h3) ⟨by omega, hz.2⟩) mo_L (fun G x ⟨a, dx, v0, v1, v2, v3, v4, h, l⟩ => ⟨a, dx, _, h, fun G' e => slt_mono e l.sl⟩) (as_nil (P := fun _ vs => vs = []) fun _ _ => rfl) (fun _ _ _ _ h => h) fun G x vs e hx hvs => ?_)
  have hvs : vs = [] := hvs
  rw [hvs]
  exact ⟨hz.1, x, rfl, hx⟩
end
end Q
/-! K75D8 -/
set_option Elab.async false
set_option linter.all false
set_option maxRecDepth 100000
set_option maxHeartbeats 4000000
/-! dead, lifeless. -/
namespace Q
open PySem PySem.Spec PyProof.Rows L2 Evl SlX
open M (Ln Fr)
section
variable {P : Program} {w : World} {K : PySem.W.Frag} {mg : Str → Option Value} {base : Heap} {C : Addr}
abbrev HK := List Ln × Fr × List (Option Nat)
abbrev dh (hd : List (Option Nat)) : PyData := .tuple (hd.map dn)
def AH (i : HK) : PVs := fun B vs => ((i.1.length ≤ 1000 ∧ i.2.1.2.length ≤ 1000) ∧ i.2.2.length = i.1.length ∧ ∀ t g : Nat, i.2.2[t]? = some (some g) → g < i.1.length) ∧ DeA B vs [dl i.1, dfar i.2.1, dh i.2.2]
theorem AH.len {i : HK} {B : Hp} {vs : List V} (h : AH i B vs) : vs.length = 3 := h.2.len
def deadP (ls : List Ln) (far : Fr) (hd : List (Option Nat)) (t : Nat) : Bool := match hd.getD t none with
  | none => false
  | some g => M.dd ls far g t
def spDead : Sp := spF AH fun i => is (dN ((List.range i.1.length).filter (deadP i.1 i.2.1 i.2.2)))
abbrev dDead (a : Fg → Addr) : Df := ⟨a, "dead", "dead", sDead, []⟩
theorem scDead : FnScope ["loans", "far", "handing", "links", "taker"] ["loans", "far", "handing"] (defScope sDead) := ⟨rfl, rfl, rfl, by decide +kernel, rfl, by decide +kernel, by decide +kernel⟩
theorem ok_dead {a : Fg → Addr} {f : Addr} {fd : FuncData} (F : At K (dDead a) f fd) (T : Bt mg) (A : LA P w K mg base C) : FnOk P w K mg base CX0 6 f fd ["loans", "far", "handing"] spDead := by
  refine fok F scDead (fun i B vs h => h.len) fun cdv A' outer s H E hr => ?_
  refine ⟨_, (pss_cons ((ps_asg (C8.pe_mk A.new hr (by omega) (by rfl) (pa_cons ((pv 0)) (pa_cons (pe_non) (pa_cons ((pv 1)) pa_nil)))) (pg_name (i := 3) scDead.nd rfl (by first | exact Or.inl rfl | exact Or.inr rfl)))) (pss_one (ps_ret (pe_lc (own := [("taker", 4)]) (g := gName 4) rfl scDead.nd (pi_L A.I hr (by omega) (pv 3)) (blkOk_by (N := ["loans", "far", "handing", "links", "taker"]) (sc := defScope sDead) (by decide +kernel)) (fun _ _ _ _ _ => pg_name (i := 4) scDead.nd rfl (by first | exact Or.inl rfl | exact Or.inr rfl)) (fun _ _ _ _ _ => pts_one (PW.pt (pw_and (pt_cmp (pc_notN (kIxT K (pv 2) (pv 4)))) (pw_and1 (pt_val (pe_m A.dead hr (by omega) (pv 3) (pa_cons (kIxT K (pv 2) (pv 4)) (pa_cons ((pv 4)) pa_nil)))))))) (fun _ _ _ _ _ => (pv 4)))))), fun i B vs h => ?_⟩
  obtain ⟨⟨hz, hl, hg⟩, hd⟩ := h
  obtain ⟨vl, vf, vh, rfl, h1, h2, h3⟩ := hd.three
  refine sq_asg (ep_newL (i := (i.1, none, i.2.1)) (ep_d rfl h1) ep_non (ep_d rfl h2) hz) fun v G e hv => st_ret ?_
  refine ep_lc (l := List.range i.1.length) (ι := nt) (deadP i.1 i.2.1 i.2.2) nt (wi_L (i := (i.1, none, i.2.1)) (ep_var rfl hv mo_L)) (by simp; omega) fun t G2 ht e2 => tg_name fun y hy => ?_
  rw [De.int' hy]
  rw [List.mem_range] at ht
  refine ⟨rfl, ?_, fun _ => ep_d rfl (.int _)⟩
  have hat : i.2.2[t]? = some (i.2.2.getD t none) := by
    rw [List.getD_eq_getElem?_getD, List.getElem?_eq_getElem (by omega)]
    rfl
  have hix : EvP (tOp (rIxT K) (tVar 2) (tVar 4)) [some vl, some vf, some vh, some v, some (.int (t : Nat))] G2 (is (dn (i.2.2.getD t none))) := ep_ixT (j := t) (ep_d rfl (h3.mono (e.trans e2))) (ep_d rfl (.int (t : Nat))) rfl (by rw [List.getElem?_map, hat]; rfl)
  unfold deadP
  cases hq : i.2.2.getD t none with
  | none =>
    rw [hq] at hix
    exact et_and (a := false) (b := false) (et_B' (ep_notN hix)) fun z => by cases z
  | some g =>
    rw [hq] at hix hat
    exact et_and (a := true) (et_B' (ep_notN hix)) fun z => et_B' (ep_l2 (v := v) (R := fun i => is (.bool (M.dd i.1.1 i.1.2.2 i.2.1 i.2.2))) (i := ((i.1, none, i.2.1), g, t)) ⟨hg t g hat, ht⟩ (ep_var rfl (mo_L _ _ _ e2 hv) mo_L) hix (ep_d rfl (.int (t : Nat))))
def spLifeless : Sp := spF AH fun i => is (dN (M.lifl i.1 i.2.1 i.2.2))
abbrev dLifeless (a : Fg → Addr) : Df := ⟨a, "lifeless", "lifeless", sLifeless, []⟩
theorem zip_range {α : Type} (d : α) (l : List α) : l.zipIdx = (List.range l.length).map fun t => (l.getD t d, t) := by
  apply List.ext_getElem
  · simp
  · intro i h1 h2
    simp at h1
    simp [List.getD, h1]
theorem scLifeless : FnScope ["loans", "far", "handing", "some", "taker", "giver"] ["loans", "far", "handing"] (defScope sLifeless) := ⟨rfl, rfl, rfl, by decide +kernel, rfl, by decide +kernel, by decide +kernel⟩
theorem ok_lifeless {a : Fg → Addr} {f : Addr} {fd : FuncData} (F : At K (dLifeless a) f fd) (T : Bt mg) (D : C8.Cal P w K mg base 6 "dead" spDead []) : FnOk P w K mg base CX0 7 f fd ["loans", "far", "handing"] spLifeless := by
  refine fok F scLifeless (fun i B vs h => h.len) fun cdv A' outer s H E hr => ?_
  refine ⟨_, (pss_cons ((ps_asg ((C8.pe_c D hr (Nat.le_refl _) (by rfl) (pa_cons ((pv 0)) (pa_cons ((pv 1)) (pa_cons ((pv 2)) pa_nil))))) (pg_name (i := 3) scLifeless.nd rfl (by first | exact Or.inl rfl | exact Or.inr rfl)))) (pss_one (ps_ret (pe_lc (own := [("taker", 4), ("giver", 5)]) (g := (gTup K 2 (gCons (gName 4) (gCons (gName 5) gNil)))) rfl scLifeless.nd (pi_enumT (by rfl) T.enumerate (pa_cons ((pv 2)) pa_nil)) (blkOk_by (N := ["loans", "far", "handing", "some", "taker", "giver"]) (sc := defScope sLifeless) (by decide +kernel)) (fun _ _ _ _ _ => pg_tup (n := 2) rfl (pgs_cons (pg_name (i := 4) scLifeless.nd rfl (by first | exact Or.inl rfl | exact Or.inr rfl)) (pgs_cons (pg_name (i := 5) scLifeless.nd rfl (by first | exact Or.inl rfl | exact Or.inr rfl)) pgs_nil))) (fun _ _ _ _ _ => pts_one (PW.pt (pw_or (pt_cmp (pc_isN (pv 5))) (pw_or1 (pt_cmpR (kIn K) (pv 4) (pv 3) rfl))))) (fun _ _ _ _ _ => (pv 4)))))), fun i B vs h => ?_⟩
  have hA := h
  obtain ⟨⟨hz, hl, hg⟩, hd⟩ := h
  obtain ⟨vl, vf, vh, rfl, h1, h2, h3⟩ := hd.three
  refine sq_asg (ep_call (A := AH) (R := fun i => is (dN ((List.range i.1.length).filter (deadP i.1 i.2.1 i.2.2)))) i (da_cons (ep_d rfl h1) (da_cons (ep_d rfl h2) (da_cons (ep_d rfl h3) da_nil))) fun G vs e p => ⟨⟨hz, hl, hg⟩, by rw [List.append_nil]; exact p⟩) fun v G e hv => st_ret ?_
  have eq : dN (M.lifl i.1 i.2.1 i.2.2) = .list ((i.2.2.zipIdx.filter fun p => p.1.isNone || decide ((p.2 : Int) ∈ cI ((List.range i.1.length).filter (deadP i.1 i.2.1 i.2.2)))).map fun p => nt p.2) := by
    unfold dN M.lifl
    rw [zip_range none, List.filter_map, List.map_map]
    congr 2
    apply List.filter_congr
    intro t ht
    rw [List.mem_range] at ht
    show _ = ((i.2.2.getD t none).isNone || decide ((t : Int) ∈ cI ((List.range i.1.length).filter (deadP i.1 i.2.1 i.2.2))))
    have e2 : decide ((t : Int) ∈ cI ((List.range i.1.length).filter (deadP i.1 i.2.1 i.2.2))) = deadP i.1 i.2.1 i.2.2 t := by
      rw [Bool.eq_iff_iff, decide_eq_true_eq, mem_cI, List.mem_filter, List.mem_range]
      exact ⟨fun h => h.2, fun h => ⟨by omega, h⟩⟩
    rw [e2]
    unfold deadP
    cases i.2.2.getD t none <;> rfl
  rw [eq]
  refine ep_lc (l := i.2.2.zipIdx) (ι := enI dn) _ (fun p => nt p.2) (wi_enumT (ep_d rfl (h3.mono e))) (by simp; omega) fun p G2 hp e2 => tg_pair fun x y dx dy => ?_
  rw [De.int' dx]
  refine ⟨rfl, ?_, fun _ => ep_d rfl (.int _)⟩
  have hv2 : De G2 v (dI (cI ((List.range i.1.length).filter (deadP i.1 i.2.1 i.2.2)))) := by
    rw [dI_cI]
    exact De.mono e2 hv
  have e3 : p.1.isNone = noneB (dn p.1) := by cases p.1 <;> rfl
  rw [e3]
  exact et_or (et_B' (ep_isN (ep_d rfl dy))) fun _ => et_test' (ep_in (neg := false) (ep_d rfl (.int (p.2 : Nat))) (ep_d rfl hv2))
end
end Q
/-! K75D9 -/
set_option Elab.async false
set_option linter.all false
set_option maxRecDepth 100000
set_option maxHeartbeats 4000000
/-! steps. -/
namespace Q
open PySem PySem.Spec PyProof.Rows L2 Evl SlX StX
open M (Ln Fr)
section
variable {B H1 H G : Hp} {σ : L2.St} {te ta tb : TE} {P : PV} {nx : L2.St → Hp → Prop} {rt : VK} {bk ct : L2.St → Hp → Prop} {K : PySem.W.Frag}
theorem q_parN {i j : Nat} {o : HO} (m : MkE tb o) (mo : Mo P) (kn : Kn B H1 H G) (h : EvP ta σ G P) (k : ∀ v D H' G', Kn B H1 H' G' → Ex G G' → P G' v → G' D = none → B D = none → Kn B H1 (upd H' D o) (upd G' D o) → nx ((σ.set i (some v)).set j (some (.ref D))) (upd H' D o)) :
    tPar i j (tCons ta (tCons tb tNil)) ⟨nx, rt, bk, ct⟩ σ H := h H kn.le _ fun v H2 e2 p => m σ H2 _ fun D hD => by
  obtain ⟨k2, e3⟩ := kn.pure e2
  exact ⟨v, .ref D, rfl, k v D H2 _ k2 e3 p (k2.non hD) (k2.bnon hD) (k2.new hD)⟩
theorem da_star {ds : List PyData} (h : EvP tb σ G (is (.list ds))) : EvA' (tStar K tb tNil) σ G (fun G vs => DeA G vs ds) := fun H1 e Q q => h H1 e _ fun x H2 e2 p => by
  obtain ⟨a, xs, rfl, h1, h2⟩ := De.lst' p
  exact ⟨a, xs, rfl, .inr (sq_of (cut_le _ _ h1)), q _ H2 e2 (by rw [List.append_nil]; exact h2)⟩
theorem ep_ixLast {ds : List PyData} {d : PyData} (ha : EvP ta σ G (is (.list (ds ++ [d])))) : EvP (tOp (rIxL K) ta (tUn (rU fun i => .int (-i)) (tC (.int 1)))) σ G (is d) :=
  ep_op (P' := is (.int (-1))) ha mo_is (ep_un ep_int fun G x e p => fun H1 e1 Q q => ⟨1, De.int' p, q _ H1 (Ex.refl _) (.int _)⟩) mo_is fun G x y e p1 p2 => fun H1 e1 Q q => by
    obtain ⟨a, xs, rfl, h1, h2⟩ := De.lst' p1
    have hl := h2.len
    rw [List.length_append, List.length_singleton] at hl
    have hlt : ds.length < xs.length := by omega
    obtain ⟨e', he', hd⟩ := h2.of (List.getElem?_eq_getElem hlt)
    rw [List.getElem?_append_right (Nat.le_refl _), Nat.sub_self] at he'
    cases he'
    have ex : xs = xs.take ds.length ++ [xs[ds.length]] := by
      rw [List.take_append_getElem, List.take_of_length_le (by omega)]
    refine ⟨a, xs, -1, xs[ds.length], rfl, De.int' p2, sq_of (e1 _ _ h1), ?_, q _ H1 (Ex.refl _) (hd.mono (cut_base e1))⟩
    have h3 := atI_last (xs.take ds.length) xs[ds.length]
    rw [← ex] at h3
    exact h3
end
/-- ascending lists with the same members -/
theorem asc_uniq : ∀ {l m : List Int}, l.Pairwise (· < ·) → m.Pairwise (· < ·) → (∀ k, k ∈ l ↔ k ∈ m) → l = m
  | [], [], _, _, _ => rfl
  | [], b :: m, _, _, h => absurd ((h b).mpr List.mem_cons_self) (by simp)
  | a :: l, [], _, _, h => absurd ((h a).mp List.mem_cons_self) (by simp)
  | a :: l, b :: m, hl, hm, h => by
    obtain ⟨l1, l2⟩ := List.pairwise_cons.mp hl
    obtain ⟨m1, m2⟩ := List.pairwise_cons.mp hm
    have e : a = b := by
      rcases List.mem_cons.mp ((h a).mp List.mem_cons_self) with q | q
      · exact q
      · rcases List.mem_cons.mp ((h b).mpr List.mem_cons_self) with r | r
        · exact r.symm
        · have := m1 a q
          have := l1 b r
          omega
    subst e
    rw [asc_uniq l2 m2 fun k => ?_]
    constructor
    · intro hk
      rcases List.mem_cons.mp ((h k).mp (List.mem_cons_of_mem _ hk)) with q | q
      · have := l1 k hk
        omega
      · exact q
    · intro hk
      rcases List.mem_cons.mp ((h k).mpr (List.mem_cons_of_mem _ hk)) with q | q
      · have := m1 k hk
        omega
      · exact q
section
variable {P : Program} {w : World} {K : PySem.W.Frag} {mg : Str → Option Value} {base : Heap} {C : Addr}
theorem kL (K : PySem.W.Frag) {X : Cx} {tg e : Expr} {te : TE} {j : Nat} (I : LI X.prog X.w X.K X.mg X.base C) (hr : Room j X.A) (hk : 1 ≤ j) (he : PE X e te) (h : X.K = K := by rfl) : PI X tg e (iOwn K C 1 te) := by subst h; exact pi_L I hr hk he
abbrev SK := List Ln × Fr
def AS (i : SK) : PVs := fun B vs => (i.1.length ≤ 10 ∧ i.2.2.length ≤ 1000 ∧ M.Valid i.1 ∧ ∀ l ∈ i.1, l.1 ≤ 16) ∧ DeA B vs [dl i.1, dfar i.2]
theorem AS.len {i : SK} {B : Hp} {vs : List V} (h : AS i B vs) : vs.length = 2 := h.2.len
/-- the last of steps -/
def stepsR (i : SK) (ps : List (Int × Int)) : Prop := ∃ front last k, ps = front ++ [last] ∧ last.2 = ((M.U i.1 (some k) i.2 : Nat) : Int) ∧ ∀ g t, g < i.1.length → t < i.1.length → M.bg i.1 t - M.ed i.1 g ≤ k
def spSteps : Sp := spF AS fun i => fun G v => ∃ ps, De G v (.list (ps.map pr)) ∧ stepsR i ps
abbrev dSteps (a : Fg → Addr) : Df := ⟨a, "steps", "steps", sSteps, []⟩
theorem scSteps : FnScope ["loans", "far", "links", "gaps", "found", "keep", "many", "giver", "taker", "gap"] ["loans", "far"] (defScope sSteps) := ⟨rfl, rfl, rfl, by decide +kernel, rfl, by decide +kernel, by decide +kernel⟩
def gapsOf (ls : List Ln) : List Int := (List.range ls.length).flatMap fun g => (List.range ls.length).map fun t => M.bg ls t - M.ed ls g
def keepsOf (ls : List Ln) : List Nat := (List.range 17).filter fun k => decide ((k : Int) ∈ 0 :: gapsOf ls)
def stI (i : SK) (vl vf v vg : V) (D : Addr) (j : Nat) (σ : L2.St) (G : Hp) : Prop := ∃ x5 x6 x7 x8 x9, σ = [some vl, some vf, some v, some vg, some (.ref D), x5, x6, x7, x8, x9] ∧ De (wo [D] G) vl (dl i.1) ∧ De (wo [D] G) vf (dfar i.2) ∧
    ∃ ps vs, G D = some (.lst vs) ∧ DeA (wo [D] G) vs (ps.map pr) ∧ ps.length ≤ j ∧ (j = 0 → ps = []) ∧ ∀ k, 0 < j → (keepsOf i.1)[j - 1]? = some k → ∃ front last, ps = front ++ [last] ∧ last.2 = ((M.U i.1 (some (k : Nat)) i.2 : Nat) : Int)
theorem keeps_asc (ls : List Ln) : (keepsOf ls).Pairwise (· < ·) := List.pairwise_lt_range.sublist List.filter_sublist
theorem ok_steps {a : Fg → Addr} {f : Addr} {fd : FuncData} (F : At K (dSteps a) f fd) (T : Bt mg) (A : LA P w K mg base C) (FW : C8.Cal P w K mg base 6 "fewest_lifeless" spFew []) : FnOk P w K mg base CX0 7 f fd ["loans", "far"] spSteps := by
  refine fok F scSteps (fun i B vs h => h.len) fun cdv A' outer s H E hr => ?_
  refine ⟨_, (pss_cons ((ps_asg (C8.pe_mk A.new hr (by omega) (by rfl) (pa_cons ((pv 0)) (pa_cons (pe_non) (pa_cons ((pv 1)) pa_nil)))) (pg_name (i := 2) scSteps.nd rfl (by first | exact Or.inl rfl | exact Or.inr rfl)))) (pss_cons (ps_par (i := 3) (j := 4) rfl scSteps.nd rfl rfl (by decide) rfl rfl (pa_cons ((pe_lc2 (own := [("giver", 7), ("taker", 8)]) (vs1 := [8]) (g := gName 7) (g1 := gName 8) (tt := tYes) rfl scSteps.nd (pi_L A.I hr (by omega) (pv 2)) (blkOk_by (N := ["loans", "far", "links", "gaps", "found", "keep", "many", "giver", "taker", "gap"]) (sc := defScope sSteps) (by decide +kernel)) (by decide) (fun _ _ _ _ _ => pg_name (i := 7) scSteps.nd rfl (by first | exact Or.inl rfl | exact Or.inr rfl)) (fun _ _ _ _ _ => pts_nil) (fun _ _ _ _ _ => (kL K A.I hr (by omega) (pv 2))) (fun _ _ _ _ _ => pg_name (i := 8) scSteps.nd rfl (by first | exact Or.inl rfl | exact Or.inr rfl)) (fun _ _ _ _ _ => pts_nil) (fun _ _ _ _ _ => pe_m A.gap hr (by omega) (pv 2) (pa_cons ((pv 7)) (pa_cons ((pv 8)) pa_nil))))) (pa_cons (pe_lst pa_nil) pa_nil)) rfl) (pss_cons ((ps_for PassesOwn.never rfl (pi_list (pe_callB (cr_sortedSet rfl) (by rfl) T.sorted (by decide +kernel) (pa_cons ((pe_scI (own := [("gap", 9)]) (g := gName 9) rfl scSteps.nd (pi_list (pe_lst (pa_cons pe_int (pa_star (pv 3) pa_nil)))) (blkOk_by (N := ["loans", "far", "links", "gaps", "found", "keep", "many", "giver", "taker", "gap"]) (sc := defScope sSteps) (by decide +kernel)) (fun _ _ _ _ _ => pg_name (i := 9) scSteps.nd rfl (by first | exact Or.inl rfl | exact Or.inr rfl)) (fun _ _ _ _ _ => pts_one (pt_cmpR op_ge (pv 9) pe_int rfl)) (fun _ _ _ _ _ => (pv 9)))) pa_nil))) (pg_name (i := 5) scSteps.nd rfl (by first | exact Or.inl rfl | exact Or.inr rfl)) ((pss_cons ((ps_asg ((C8.pe_c FW hr (by omega) (by rfl) (pa_cons ((pv 0)) (pa_cons ((pv 5)) (pa_cons ((pv 1)) pa_nil))))) (pg_name (i := 6) scSteps.nd rfl (by first | exact Or.inl rfl | exact Or.inr rfl)))) (pss_one (ps_if (PW.pt (pw_or (pt_cmpR op_eq (pe_callB call_len_seq (by rfl) T.len (by decide +kernel) (pa_cons ((pv 4)) pa_nil)) pe_int rfl) (pw_or1 (pt_cmpR op_lt (pv 6) (kIxT K (kIxL K (pv 4) (pe_un un_neg pe_int)) pe_int) rfl)))) (pss_one ((ps_expr (pe_bm PySem.F.plainAttrs_list PySem.F.slot_list_append PySem.F.type_list_append mt_append ((pv 4)) (pa_cons (pe_tup (pa_cons ((pv 5)) (pa_cons ((pv 6)) pa_nil))) pa_nil))))) pss_nil)))))) (pss_one (ps_ret (pv 4)))))), fun i B vs h => ?_⟩
  obtain ⟨⟨hn, hz, V, h16⟩, hd⟩ := h
  obtain ⟨vl, vf, rfl, h1, h2⟩ := hd.two
  refine ret_of fun H1 nx rt bk ct kn hret => ?_
  refine q_seq (q_asg kn (ep_newL (i := (i.1, none, i.2)) (ep_d rfl h1) ep_non (ep_d rfl h2) ⟨by show i.1.length ≤ 1000; omega, hz⟩) fun v Ha Ga kna ea hv => ?_)
  have hgr : ∀ {G}, Ex Ga G → isL C (i.1, none, i.2) G v := fun e => mo_L _ _ _ e hv
  -- gaps
  refine q_seq (q_parN mk_lst mo_is kna (ep_lc2 (l := List.range i.1.length) (ι := nt) (fun _ => List.range i.1.length) (κ := nt) (fun _ _ => true) (fun g t => .int (M.bg i.1 t - M.ed i.1 g)) 10
    (wi_L (i := (i.1, none, i.2)) (ep_var rfl hv mo_L)) (fun _ _ => by simpa using hn) (by rw [List.length_range]; omega) fun g G hg e => tg_name fun y hy => ?_) fun vg D Hb Gb knb eb dvg hD hBD knb2 => ?_)
  · rw [De.int' hy]
    rw [List.mem_range] at hg
    refine ⟨rfl, wi_L (i := (i.1, none, i.2)) (ep_var rfl (hgr e) mo_L), fun t G5 ht e5 => tg_name fun z hz => ?_⟩
    rw [De.int' hz]
    rw [List.mem_range] at ht
    exact ⟨rfl, ep_yes rfl, fun _ => ep_l2 (v := v) (R := fun i => is (.int (M.bg i.1.1 i.2.2 - M.ed i.1.1 i.2.1))) (i := ((i.1, none, i.2), g, t)) ⟨hg, ht⟩ (ep_var rfl (hgr (e.trans e5)) mo_L) (ep_d rfl (.int (g : Nat))) (ep_d rfl (.int (t : Nat)))⟩
  have dvg2 : De Gb vg (dI (gapsOf i.1)) := by
    have e : ((List.range i.1.length).flatMap fun g => ((List.range i.1.length).filter fun _ => true).map fun t => PyData.int (M.bg i.1 t - M.ed i.1 g)) = (gapsOf i.1).map .int := by
      unfold gapsOf
      rw [List.map_flatMap]
      congr 1
      funext g
      rw [List.filter_eq_self.mpr (by intro _ _; rfl), List.map_map]
      rfl
    unfold dI
    rw [← e]
    exact dvg
  have eGb : ∀ {o : HO}, Ex Gb (wo [D] (L2.upd Gb D o)) := fun b u h => by
    have n := ne_of_none h hD
    rw [wo_out (by simpa using n), upd_ne n]
    exact h
  have gle : ∀ x ∈ (0 : Int) :: gapsOf i.1, x ≤ 16 := fun x hx => by
    rcases List.mem_cons.mp hx with rfl | hx
    · omega
    · obtain ⟨g, hg, hx⟩ := List.mem_flatMap.mp hx
      obtain ⟨t, ht, rfl⟩ := List.mem_map.mp hx
      rw [List.mem_range] at hg ht
      have b1 := (M.bg_ed V hg)
      have b2 : M.bg i.1 t ≤ 16 := by
        unfold M.bg
        rw [M.getD_lt ht]
        exact h16 _ (List.getElem_mem ht)
      omega
  have gnn : ∀ x ∈ (0 : Int) :: gapsOf i.1, (decide ((0 : Int) ≤ x)) = true → ∃ u : Nat, x = u := fun x _ h => ⟨x.toNat, by
    rw [decide_eq_true_eq] at h
    omega⟩
  have ksort : EvP (tCB (rSortedSet w) (tCons (tScI w (iList K (tLst (tCons (tC (.int 0)) (tStar K (tVar 3) tNil)))) (gName 9) (tTest (tOp (rI0 fun i j => .bl (decide (j ≤ i))) (tVar 9) (tC (.int 0)))) (tVar 9) [9]) tNil)) [some vl, some vf, some v, some vg, some (.ref D), none, none, none, none, none] (wo [D] (L2.upd Gb D (.lst []))) (is (dN (keepsOf i.1))) := by
    refine (ep_sortedS (A := fun k => ∃ x ∈ (0 : Int) :: gapsOf i.1, decide ((0 : Int) ≤ x) = true ∧ x = k) (fun ds nd hA => ?_) (ep_scI (l := (0 : Int) :: gapsOf i.1) (ι := .int) (fun x => decide ((0 : Int) ≤ x)) (fun x => x)
      (wi_list (ep_lst (da_cons ep_int (da_star (ep_d rfl (dvg2.mono eGb)))) ?_)) ?_ fun x G hx e => tg_name fun y hy => ?_)).imp fun G u _ ⟨_, ns, d1, d2, d3⟩ => ?_
    · have sub : ∀ k ∈ ds, k ∈ cI (List.range 17) := fun k hk => by
        obtain ⟨x, hx, h0, rfl⟩ := hA k hk
        obtain ⟨u, rfl⟩ := gnn x hx h0
        have := gle _ hx
        exact mem_cI.mpr (List.mem_range.mpr (by omega))
      have := M.len_le nd sub
      simp at this
      omega
    · have := flat_len (h := fun g => (List.range i.1.length).map fun t => M.bg i.1 t - M.ed i.1 g) (M := 10) (l := List.range i.1.length) fun _ _ => by simpa using hn
      rw [List.length_range] at this
      show (PyData.int 0 :: (gapsOf i.1).map .int).length ≤ 100000
      rw [List.length_cons, List.length_map]
      have h2 : (gapsOf i.1).length ≤ i.1.length * 10 := this
      omega
    · have := flat_len (h := fun g => (List.range i.1.length).map fun t => M.bg i.1 t - M.ed i.1 g) (M := 10) (l := List.range i.1.length) fun _ _ => by simpa using hn
      rw [List.length_range] at this
      have h2 : (gapsOf i.1).length ≤ i.1.length * 10 := this
      rw [List.length_cons]
      omega
    · rw [De.int' hy]
      exact ⟨rfl, et_test' (ep_ge (ep_d rfl (.int _)) ep_int), fun _ => ep_d rfl (.int _)⟩
    · have e : ns = cI (keepsOf i.1) := asc_uniq d2 (by
        have : (List.range 17).Pairwise (· < ·) := List.pairwise_lt_range
        exact List.pairwise_map.mpr ((this.sublist List.filter_sublist).imp fun h => by omega)) fun k => by
        rw [d3]
        constructor
        · rintro ⟨x, hx, h0, rfl⟩
          obtain ⟨u, rfl⟩ := gnn x hx h0
          have := gle _ hx
          exact mem_cI.mpr (List.mem_filter.mpr ⟨List.mem_range.mpr (by omega), by simpa using hx⟩)
        · intro hk
          obtain ⟨u, hu, rfl⟩ := List.mem_map.mp hk
          have := (List.mem_filter.mp hu).2
          exact ⟨_, by simpa using this, by simp, rfl⟩
      rw [e, dI_cI] at d1
      exact d1
  refine q_seq (q_for (α := Nat) (l := keepsOf i.1) (ι := nt) (wo [D] (L2.upd Gb D (.lst []))) knb2 wo_le (wi_list ksort) (stI i vl vf v vg D) ⟨_, _, _, _, _, rfl, h1.mono (ea.trans (eb.trans eGb)), h2.mono (ea.trans (eb.trans eGb)), [], [], upd_same, .nil, Nat.le_refl _, fun _ => rfl, fun k h => absurd h (by omega)⟩ ?_ ?_ ?_)
  · rintro j σ G G' ⟨x5, x6, x7, x8, x9, e, d1, d2, ps, vs, k1, k2, k3⟩ e'
    exact ⟨x5, x6, x7, x8, x9, e, d1.mono (wo_mono e'), d2.mono (wo_mono e'), ps, vs, e' _ _ k1, k2.mono (wo_mono e'), k3⟩
  · rintro j a Gw σ H' G' hja eGw frs eG kn' ⟨x5, x6, x7, x8, x9, rfl, d1, d2, ps, vs, k1, k2, k3, k4, k5⟩
    have hGw : Gw D = none := frs D _ upd_same (wo_in (by simp))
    refine ⟨fun σ2 => σ2 = [some vl, some vf, some v, some vg, some (.ref D), some (.int (a : Nat)), x6, x7, x8, x9], tg_name fun x hx => by rw [De.int' hx]; rfl, ?_⟩
    rintro σ2 rfl
    have hfew : EvP (tCall spFew [] E0 (tCons (tVar 0) (tCons (tVar 5) (tCons (tVar 1) tNil)))) [some vl, some vf, some v, some vg, some (.ref D), some (.int (a : Nat)), x6, x7, x8, x9] G' (is (nt (M.U i.1 (some (a : Nat)) i.2))) :=
      ep_call (A := AF 1000) (R := fun i => is (nt (M.U i.1 i.2.1 i.2.2))) (i.1, some (a : Nat), i.2) (da_cons (ep_d rfl (d1.mono wo_le)) (da_cons (ep_d rfl (.int (a : Nat))) (da_cons (ep_d rfl (d2.mono wo_le)) da_nil))) fun G vs e p => ⟨⟨by show i.1.length ≤ 1000; omega, hz⟩, by rw [List.append_nil]; exact p⟩
    refine q_seq (q_asg kn' hfew fun vm H2 G2 kn2 e2 dvm => ?_)
    have hvm := De.int' dvm
    subst hvm
    have k1' : G2 D = some (.lst vs) := e2 _ _ k1
    have dD : De G2 (.ref D) (.list (ps.map pr)) := .lst k1' (k2.mono (wo_le.trans e2))
    have lps : ps.length ≤ 17 := by
      have h17 : (keepsOf i.1).length ≤ 17 := by
        have := List.length_filter_le (fun k : Nat => decide ((k : Int) ∈ 0 :: gapsOf i.1)) (List.range 17)
        rw [List.length_range] at this
        exact this
      have := (List.getElem?_eq_some_iff.mp hja).1
      omega
    -- what is added
    have add : ∀ {H3 G3} {nx' bk' ct' : L2.St → Hp → Prop} {rt' : VK}, Kn B H1 H3 G3 → Ex G2 G3 → (∀ σ3 H4 G4, Kn B H1 H4 G4 → Ex Gw G4 → stI i vl vf v vg D (j + 1) σ3 G4 → nx' σ3 H4) →
        tDrop (tBM K "list" rAppend (tVar 4) (tCons (tTup (tCons (tVar 5) (tCons (tVar 6) tNil))) tNil)) ⟨nx', rt', bk', ct'⟩ [some vl, some vf, some v, some vg, some (.ref D), some (.int (a : Nat)), some (.int ((M.U i.1 (some (a : Nat)) i.2 : Nat))), x7, x8, x9] H3 := fun {H3 G3 nx' bk' ct' rt'} kn3 e3 hk => by
      have hvs := k2.len
      rw [List.length_map] at hvs
      refine q_append (P := fun G y => De (wo [D] G) y (pr ((a : Int), ((M.U i.1 (some (a : Nat)) i.2 : Nat) : Int)))) (fun _ _ _ e h => De.mono (wo_mono e) h) kn3 hBD (e3 _ _ k1') (by omega) (ev_var rfl) (fun H4 e4 Q q => ⟨_, rfl, _, rfl, sz_of (by show 2 ≤ 100000; decide), fun p hp => q _ _ (Ex.new hp) ?_⟩) fun y H4 G4 kn4 e4 dy kn5 => ?_
      · have n : p ≠ D := fun z => by
          rw [z] at hp
          have := e4 _ _ (e3 _ _ k1')
          rw [hp] at this
          cases this
        exact .tup (by rw [wo_out (by simpa using n), cut_new hp, upd_same]) (.cons (.int _) (.cons (.int _) .nil))
      · refine hk _ _ _ kn5 (((eG.trans e2).trans (e3.trans e4)).mut hGw) ⟨_, _, _, _, _, rfl, ?_, ?_, ps ++ [((a : Int), ((M.U i.1 (some (a : Nat)) i.2 : Nat) : Int))], _, upd_same, ?_, ?_, ?_, ?_⟩
        · exact d1.mono ((wo_mono ((e2.trans e3).trans e4)).trans wo_upd1)
        · exact d2.mono ((wo_mono ((e2.trans e3).trans e4)).trans wo_upd1)
        · rw [List.map_append]
          exact (k2.mono ((wo_mono ((e2.trans e3).trans e4)).trans wo_upd1)).snoc (De.mono wo_upd1 dy)
        · rw [List.length_append, List.length_singleton]; omega
        · intro q; omega
        · intro k _ hk'
          rw [Nat.add_sub_cancel, hja] at hk'
          cases hk'
          exact ⟨ps, _, rfl, rfl⟩
    rcases List.eq_nil_or_concat ps with rfl | ⟨front, last, rfl⟩
    · refine q_if kn2 (b := true) (et_or (a := true) (b := true) (et_test' ?_) fun z => by cases z) (fun _ H3 G3 kn3 e3 => add kn3 e3 fun σ3 H4 G4 kn4 e4 iv => ⟨G4, kn4, e4, iv⟩) fun z => by cases z
      exact ep_eqI (i := 0) (j := 0) (ep_lenL (ep_d rfl dD)) ep_int
    · have hj : 0 < j := by
        rcases Nat.eq_zero_or_pos j with q | q
        · have := k4 q
          simp at this
        · exact q
      have hj1 : j - 1 < (keepsOf i.1).length := by
        have := (List.getElem?_eq_some_iff.mp hja).1
        omega
      obtain ⟨front', last', e1, e2'⟩ := k5 _ hj (List.getElem?_eq_getElem hj1)
      obtain ⟨rfl, el⟩ : front = front' ∧ [last] = [last'] := List.append_inj' (by simpa using e1) rfl
      cases el
      have hka : (keepsOf i.1)[j - 1] < a := by
        have hjl := (List.getElem?_eq_some_iff.mp hja).1
        have := List.pairwise_iff_getElem.mp (keeps_asc i.1) (j - 1) j hj1 hjl (by omega)
        rw [(List.getElem?_eq_some_iff.mp hja).2] at this
        exact this
      have hU : M.U i.1 (some (a : Nat)) i.2 ≤ M.U i.1 (some (((keepsOf i.1)[j - 1] : Nat))) i.2 := M.U_keep V (by omega)
      have dD2 : De G2 (.ref D) (.list (front.map pr ++ [pr last])) := by
        have e : (front.concat last).map pr = front.map pr ++ [pr last] := by simp
        rw [← e]
        exact dD
      refine q_if kn2 (b := decide ((((M.U i.1 (some (a : Nat)) i.2 : Nat) : Int)) < last.2)) (et_or (a := false) (et_test' ?_) fun _ => et_test' (ep_lt (ep_d rfl (.int _)) (ep_ixT (j := 1) (ep_ixLast (ep_d rfl dD2)) ep_int rfl rfl))) (fun _ H3 G3 kn3 e3 => add kn3 e3 fun σ3 H4 G4 kn4 e4 iv => ⟨G4, kn4, e4, iv⟩) fun hb H3 G3 kn3 e3 => ?_
      · have h := ep_eqI (i := (((front.map pr ++ [pr last]).length : Nat) : Int)) (j := 0) (ep_lenL (K := K) (ep_d (σ := [some vl, some vf, some v, some vg, some (.ref D), some (.int (a : Nat)), some (.int ((M.U i.1 (some (a : Nat)) i.2 : Nat))), x7, x8, x9]) (i := 4) rfl dD2)) (ep_int (B := G2))
        have e : decide ((((front.map pr ++ [pr last]).length : Nat) : Int) = 0) = false := by
          rw [decide_eq_false_iff_not, List.length_append, List.length_singleton]
          omega
        rw [e] at h
        exact h
      · refine ⟨G3, kn3, eG.trans (e2.trans e3), _, _, _, _, _, rfl, d1.mono (wo_mono (e2.trans e3)), d2.mono (wo_mono (e2.trans e3)), _, vs, e3 _ _ k1', k2.mono (wo_mono (e2.trans e3)), by omega, by intro q; omega, fun k _ hk' => ?_⟩
        rw [Nat.add_sub_cancel, hja] at hk'
        cases hk'
        refine ⟨front, last, by simp, ?_⟩
        rw [decide_eq_false_iff_not] at hb
        rw [e2'] at hb ⊢
        have hb' : ¬ ((M.U i.1 (some (a : Nat)) i.2 : Nat) : Int) < ((M.U i.1 (some (((keepsOf i.1)[j - 1] : Nat))) i.2 : Nat) : Int) := hb
        omega
  · rintro σ H' G' Gw _ _ eG kn' ⟨x5, x6, x7, x8, x9, rfl, d1, d2, ps, vs, k1, k2, k3, k4, k5⟩
    refine q_ret kn' (P := is (.list (ps.map pr))) (ep_d rfl (.lst k1 (k2.mono wo_le))) fun u H2 G2 kn2 e2 du => hret u H2 G2 kn2 ⟨ps, du, ?_⟩
    have hpos : 0 < (keepsOf i.1).length := List.length_pos_of_mem (a := 0) (List.mem_filter.mpr ⟨by simp, by simp⟩)
    obtain ⟨front, last, e1, e2'⟩ := k5 _ hpos (List.getElem?_eq_getElem (by omega))
    refine ⟨front, last, _, e1, e2', fun g t hg ht => ?_⟩
    by_cases h0 : M.bg i.1 t - M.ed i.1 g < 0
    · omega
    · have hm : M.bg i.1 t - M.ed i.1 g ∈ gapsOf i.1 := List.mem_flatMap.mpr ⟨g, List.mem_range.mpr hg, List.mem_map.mpr ⟨t, List.mem_range.mpr ht, rfl⟩⟩
      have hle := gle _ (List.mem_cons_of_mem _ hm)
      obtain ⟨z, hz'⟩ : ∃ z : Nat, M.bg i.1 t - M.ed i.1 g = z := ⟨(M.bg i.1 t - M.ed i.1 g).toNat, by omega⟩
      have hk : z ∈ keepsOf i.1 := List.mem_filter.mpr ⟨List.mem_range.mpr (by omega), by rw [← hz']; simpa using .inr hm⟩
      obtain ⟨q, hq, rfl⟩ := List.mem_iff_getElem.mp hk
      have hle2 : (keepsOf i.1)[q] ≤ (keepsOf i.1)[(keepsOf i.1).length - 1] := by
        rcases Nat.lt_or_ge q ((keepsOf i.1).length - 1) with r | r
        · exact Nat.le_of_lt (List.pairwise_iff_getElem.mp (keeps_asc i.1) q _ hq (by omega) r)
        · have : q = (keepsOf i.1).length - 1 := by omega
          simp [this]
      rw [hz']
      omega
end
end Q
/-! K75R7 -/
set_option Elab.async false
set_option linter.all false
set_option maxRecDepth 100000
set_option maxHeartbeats 4000000
/-! Rules of our own: list(enumerate(t)), t a tuple. -/
namespace Q
open PySem PySem.Spec PyProof.Rows L2 Evl
section
variable {prog : Program} {w : World} {A : Around} {E : Value → Shared → Prop} {s : Shared}
theorem enum_next_heldT {e it l T : Addr} {i : Nat} {items : Array Value} {x old : Value} {f : Bool} {oT : Obj} {Q : Value → Shared → Prop}
    (he : IsEnumHeld s.heap e it i old T f) (hT : s.heap.get? T = some oT) (hTe : T ≠ e) (hTi : T ≠ it) (hit : s.heap.IsTupleIter it l i) (hl : s.heap.IsTuple l items) (hx : items[i]? = some x) (hne : e ≠ it)
    (hQ : ∀ h', IsEnumHeld h' e it ((i : Int) + 1) old T true → h'.IsTupleIter it l (i + 1) →
      h'.get? s.heap.objs.size = some { cls := .type "tuple", data := .seq #[.int i s.toks, x] } → h'.objs.size = s.heap.objs.size + 1 →
      (∀ b o, b ≠ e → b ≠ it → s.heap.get? b = some o → h'.get? b = some o) → Q (.ref s.heap.objs.size) { s with heap := h', toks := s.toks + 1 }) :
    wpAny (model prog w) A (Builtin.«enumerate.__next__» ⟨[.ref e], []⟩) (fun fin s' => ∃ v, fin = .done (.ret v) ∧ Q v s') E s := by
  obtain ⟨hp, g, d, tk, os⟩ := s
  show wpAny _ _ (field (.ref e) 2 >>= _) _ _ _
  refine wpAny_bind (wpAny_field he rfl (x := .ref it) rfl ?_)
  refine wpAny_bind (wpAny_nextOf_tuple_item hit hl hx fun h₁ hit₁ hs₁ => ?_)
  replace hs₁ : Heap.SameBut it hp h₁ := hs₁
  have he₁ : IsEnumHeld h₁ e it i old T f := (hs₁.2 e hne).trans he
  show wpAny _ _ (field (.ref e) 3 >>= _) _ _ ⟨h₁, g, d, tk, os⟩
  refine wpAny_bind (wpAny_field he₁ rfl (x := rawInt i) rfl ?_)
  show wpAny _ _ (field (.ref e) 4 >>= _) _ _ ⟨h₁, g, d, tk, os⟩
  refine wpAny_bind (wpAny_field he₁ rfl (x := .none) rfl ?_)
  show wpAny _ _ (mkInt i >>= _) _ _ ⟨h₁, g, d, tk, os⟩
  refine wpAny_bind (wpAny_mkInt ?_)
  show wpAny _ _ (setField (.ref e) 3 (rawInt ((i : Int) + 1)) >>= _) _ _ ⟨h₁, g, d, tk + 1, os⟩
  refine wpAny_bind (wpAny_setField_rec he₁ (by simp) fun h₂ he₂ hs₂ => ?_)
  replace hs₂ : Heap.SameBut e h₁ h₂ := hs₂
  replace he₂ : IsEnumHeld h₂ e it ((i : Int) + 1) old T f := he₂
  show wpAny _ _ (setField (.ref e) 4 .none >>= _) _ _ ⟨h₂, g, d, tk + 1, os⟩
  refine wpAny_bind (wpAny_setField_rec he₂ (by simp) fun h₃ he₃ hs₃ => ?_)
  replace hs₃ : Heap.SameBut e h₂ h₃ := hs₃
  replace he₃ : IsEnumHeld h₃ e it ((i : Int) + 1) old T f := he₃
  show wpAny _ _ (newTuple [.int i tk, x] >>= _) _ _ ⟨h₃, g, d, tk + 1, os⟩
  refine wpAny_bind (wpAny_newTuple ?_)
  have he₄ : IsEnumHeld (h₃.push { cls := .type "tuple", data := .seq #[.int i tk, x] }) e it ((i : Int) + 1) old T f := Heap.get?_push_of_some _ he₃
  generalize hh₄ : h₃.push { cls := .type "tuple", data := .seq #[.int i tk, x] } = h₄ at he₄
  have hsz : h₃.objs.size = hp.objs.size := by rw [hs₃.1, hs₂.1, hs₁.1]
  have hel : e < hp.objs.size := Heap.lt_size he
  have ht₄ : h₄.get? hp.objs.size = some { cls := .type "tuple", data := .seq #[.int i tk, x] } := by rw [← hh₄, ← hsz]; exact Heap.get?_push_size _ rfl
  have hz₄ : h₄.objs.size = hp.objs.size + 1 := by rw [← hh₄, Heap.size_push, hsz]
  have hk₄ : ∀ b o, b ≠ e → b ≠ it → hp.get? b = some o → h₄.get? b = some o := fun b o hbe hbi hb => by
    rw [← hh₄]; exact Heap.get?_push_of_some _ (hs₃.extBut b o hbe (hs₂.extBut b o hbe (hs₁.extBut b o hbi hb)))
  have hit₄ : h₄.IsTupleIter it l (i + 1) := by
    rw [← hh₄]; obtain ⟨o, ho, r⟩ := (hit₁.extBut hs₂.extBut (Ne.symm hne)).extBut hs₃.extBut (Ne.symm hne); exact ⟨o, Heap.get?_push_of_some _ ho, r⟩
  show wpAny _ _ (Builtin.SmallTypes.ownedTupleIsFree (.ref e) >>= _) _ _ ⟨h₄, g, d, tk + 1, os⟩
  rw [hsz]
  clear hh₄ he₃ hs₃ he₂ hs₂ he₁ hs₁ hit₁ hsz h₃ h₂ h₁
  refine wpAny_bind (wpAny_tupleHeld_enum (s := ⟨h₄, g, d, tk + 1, os⟩) he₄ (hk₄ T oT hTe hTi hT) fun h₅ he₅ hs₅ => ?_)
  replace hs₅ : Heap.SameBut e h₄ h₅ := hs₅
  simp only [Bool.false_eq_true, if_false]
  refine wpAny_pure ⟨_, rfl, hQ h₅ he₅ (hit₄.extBut hs₅.extBut (Ne.symm hne)) (hs₅.extBut _ _ (Nat.ne_of_gt hel) ht₄) ?_ fun b o hbe hbi hb => hs₅.extBut b o hbe (hk₄ b o hbe hbi hb)⟩
  show h₅.objs.size = hp.objs.size + 1
  rw [hs₅.1, hz₄]
theorem next_heldT {e it l T : Addr} {i : Nat} {items : Array Value} {x old : Value} {f : Bool} {oT : Obj} {Q : Option Value → Shared → Prop}
    (he : IsEnumHeld s.heap e it i old T f) (hT : s.heap.get? T = some oT) (hTe : T ≠ e) (hTi : T ≠ it) (hit : s.heap.IsTupleIter it l i) (hl : s.heap.IsTuple l items) (hx : items[i]? = some x) (hne : e ≠ it)
    (hQ : ∀ h', IsEnumHeld h' e it ((i : Int) + 1) old T true → h'.IsTupleIter it l (i + 1) →
      h'.get? s.heap.objs.size = some { cls := .type "tuple", data := .seq #[.int i s.toks, x] } → h'.objs.size = s.heap.objs.size + 1 →
      (∀ b o, b ≠ e → b ≠ it → s.heap.get? b = some o → h'.get? b = some o) → Q (some (.ref s.heap.objs.size)) { s with heap := h', toks := s.toks + 1 }) :
    wpAny (model prog w) A (pyNext (.ref e)) Q E s := by
  have hTy : s.TypeIs (.ref e) "enumerate" := ⟨_, he, rfl⟩
  unfold pyNext
  exact wpAny_bind (wpAny_attempt (wpAny_callSpecial?_slot (name := Str.ofString "__next__") hTy F.slot_enumerate_next
    (wpAny_call_entry F.slot_enumerate_next hTy F.entry_enumerate_next
      (enum_next_heldT he hT hTe hTi hit hl hx hne fun h' a1 a2 a3 a4 a5 => wpAny_pure (hQ h' a1 a2 a3 a4 a5)) (F.args_enumerate_next_1 _))))
theorem next_endT {e it l T : Addr} {i : Nat} {items : Array Value} {old : Value} {f : Bool} {Q : Option Value → Shared → Prop} (hh : A.handled = none)
    (he : IsEnumHeld s.heap e it i old T f) (hit : s.heap.IsTupleIter it l i) (hl : s.heap.IsTuple l items) (hx : items[i]? = none)
    (hQ : ∀ h', Heap.ExtBut it s.heap h' → Q none { s with heap := h' }) : wpAny (model prog w) A (pyNext (.ref e)) Q E s := by
  have hTy : s.TypeIs (.ref e) "enumerate" := ⟨_, he, rfl⟩
  unfold pyNext
  refine wpAny_bind (wpAny_attempt (wpAny_callSpecial?_slot (name := Str.ofString "__next__") hTy F.slot_enumerate_next
    (wpAny_call_entry F.slot_enumerate_next hTy F.entry_enumerate_next ?_ (F.args_enumerate_next_1 _))))
  show wpAny _ _ (field (.ref e) 2 >>= _) _ _ _
  refine wpAny_bind (wpAny_field he rfl (x := .ref it) rfl ?_)
  refine wpAny_bind (wpAny_nextOf_tuple_end hh hit hl hx fun h' x he' hx' => ?_)
  obtain ⟨o, ho, hc⟩ := hx'
  refine wpAny_bind (wpAny_isInstance (T := "StopIteration") (b := true) ⟨o, ho, hc⟩ isSubtype_stop ?_)
  exact wpAny_pure (hQ _ he')
end
theorem enum_no_len : typeLookup (.type "enumerate") "__len__" = pure none := by rw [typeLookup_type, builtinLookup_eq_fast]; kernel_rfl
theorem enum_no_hint : typeLookup (.type "enumerate") "__length_hint__" = pure none := by rw [typeLookup_type, builtinLookup_eq_fast]; kernel_rfl
/-- the enumerate at e, i items handed out -/
def EnS (h : Heap) (e it a i : Nat) : Prop := h.IsTupleIter it a i ∧ ((IsEnum h e it ((i : Nat) : Int) .none) ∨ ∃ (T : Addr) (f : Bool) (old : Value) (oT : Obj), IsEnumHeld h e it ((i : Nat) : Int) old T f ∧ h.get? T = some oT ∧ T ≠ e ∧ T ≠ it)
section
variable {X : Cx} {pins : List (Addr × Obj)} {σ : L2.St} {e it a S : Addr} {xs : List V}
/-- what the list holds -/
def EnL (xs : List V) (H : Hp) (Ts : List Addr) : Prop := ∀ (j : Nat) (T : Addr), Ts[j]? = some T → ∃ x, xs[j]? = some x ∧ H T = some (.tup [.int (j : Nat), x])
theorem en_loop {R : Result → Shared → Prop} {res : Value} {H0 : Hp} (hei : e ≠ it) (hea : e ≠ a) (hai : a ≠ it) : ∀ (k i : Nat) (A : Around) (s : Shared) (H : Hp) (Ts : List Addr), i + k = xs.length → A.handled = none → Inv X pins σ H s → SqT X.K H a xs → FpOk X pins H e → FpOk X pins H it → xs.length ≤ 1000 → EnS s.heap e it a i →
    H S = some (.lst (Ts.map V.ref)) → Ts.length = i → EnL xs H Ts → (∀ b, H b = none → H0 b = none) → (∀ T ∈ Ts, H0 T = none) →
    (∀ s' H' Ts', Inv X pins σ H' s' → (∀ b o, b ≠ S → H b = some o → H' b = some o) → H' S = some (.lst (Ts'.map V.ref)) → Ts'.length = xs.length → EnL xs H' Ts' → (∀ T ∈ Ts', H0 T = none) → R (.ok (.ret res)) s') →
    codeAny (model X.prog X.w) A (.builtin "list.extend.loop" ⟨[.ref S, .ref e, res], []⟩) R s
  | 0, i, A, s, H, Ts, hi, hh, I, hq, fe, fi, hz, ⟨hit, st⟩, hS, hT, hE, hdm, hT0, hR => by
    obtain ⟨its, rv, p, _⟩ := I.tuple hq
    have hl := rv.length
    have hxn : its.toArray[i]? = none := by simp; omega
    refine codeAny_builtin F.entry_extend_loop ?_
    rw [Around.under_plainId F.plain_extend_loop _]
    show wpAny _ A.in1 (pyNext (.ref e) >>= _) _ _ s
    have fin : ∀ h', Heap.ExtBut it s.heap h' → R (.ok (.ret res)) { s with heap := h' } := fun h' eb => by
      obtain ⟨f0, f1, f2, f3, f4, f5⟩ := fi
      exact hR _ H Ts (I.turned (t' := s.toks) (fun b o hb q => eb b o hb q) f0 f1 f3 f4 f5) (fun _ _ _ h => h) hS (by omega) hE hT0
    rcases st with st | ⟨T, f, old, oT, st, _⟩
    · have D := Draws.tuple (prog := X.prog) (w := X.w) (A := A.in1.in1) (show A.in1.in1.handled = none from hh) it a hai its.toArray
      have hi2 : i = its.toArray.size := by simp; omega
      rw [hi2] at hit
      exact wpAny_bind (wpAny_pyNext_enum_endD D st ⟨hit, p⟩ fun h' eb => wpAny_pure (fin h' eb))
    · exact wpAny_bind (next_endT (A := A.in1) (show A.in1.handled = none from hh) st hit p hxn fun h' eb => wpAny_pure (fin h' eb))
  | k + 1, i, A, s, H, Ts, hi, hh, I, hq, fe, fi, hz, ⟨hit, st⟩, hS, hT, hE, hdm, hT0, hR => by
    obtain ⟨its, rv, p, _⟩ := I.tuple hq
    have hl := rv.length
    have hlt : i < its.length := by omega
    obtain ⟨u, hu⟩ : ∃ u, its[i]? = some u := ⟨_, List.getElem?_eq_getElem hlt⟩
    have hxi : i < xs.length := by omega
    obtain ⟨u', hu', ru⟩ := rv.get (List.getElem?_eq_getElem hxi)
    rw [hu] at hu'
    cases hu'
    have hel : ∃ o, s.heap.get? e = some o := by
      rcases st with st | ⟨T, f, old, oT, st, _⟩
      · exact ⟨_, st⟩
      · exact ⟨_, st⟩
    have hels : e < s.heap.objs.size := by obtain ⟨o, h⟩ := hel; exact Heap.lt_size h
    have hils : it < s.heap.objs.size := by obtain ⟨_, q, _⟩ := hit; exact Heap.lt_size q
    refine codeAny_builtin F.entry_extend_loop ?_
    rw [Around.under_plainId F.plain_extend_loop _]
    show wpAny _ A.in1 (pyNext (.ref e) >>= _) _ _ s
    -- what the next one does
    have next : ∀ h' tk f old, IsEnumHeld h' e it (((i + 1 : Nat)) : Int) old s.heap.objs.size f ∨ (∃ T oT, IsEnumHeld h' e it (((i + 1 : Nat)) : Int) old T f ∧ h'.get? T = some oT ∧ T ≠ e ∧ T ≠ it) → h'.IsTupleIter it a (i + 1) →
        h'.get? s.heap.objs.size = some { cls := .type "tuple", data := .seq #[.int i tk, u] } → (∀ b o, b ≠ e → b ≠ it → s.heap.get? b = some o → h'.get? b = some o) →
        wpAny (model X.prog X.w) A.in1 (do Builtin.List.listUpdate (.ref S) (·.push (.ref s.heap.objs.size)); again (.builtin "list.extend.loop" ⟨[.ref S, .ref e, res], []⟩)) (fun fin s' => match fin with | .done f => R (.ok f) s' | .again c' => c'.quiet = true ∧ codeAny (model X.prog X.w) A c' R s') (fun e s' => R (.error e) s') { s with heap := h', toks := tk + 1 } := fun h' tk f old hst hit' hT2 hk => by
      have new : ObjOk X.prog X.w (upd H s.heap.objs.size (.tup [.int (i : Nat), xs[i]])) h' s.heap.objs.size (.tup [.int (i : Nat), xs[i]]) :=
        ⟨by show 2 ≤ sizeLine; decide, [.int i tk, u], .cons ⟨_, rfl⟩ (.cons ru .nil), ⟨_, hT2, rfl, _, rfl⟩⟩
      have hTn : H s.heap.objs.size = none := I.hok.fresh (Nat.le_refl _)
      have I1 : Inv X pins σ (upd H s.heap.objs.size (.tup [.int (i : Nat), xs[i]])) { s with heap := h', toks := tk + 1 } :=
        I.turnedNew (ch := [e, it]) (fun b ob hb q => hk b ob (fun z => hb (by simp [z])) (fun z => hb (by simp [z])) q) (fun b hb => by
          rcases List.mem_cons.mp hb with rfl | hb
          · exact fe
          · rw [List.mem_singleton.mp hb]; exact fi) (Nat.le_refl _) new
      have hST : S ≠ s.heap.objs.size := fun z => by rw [z, hTn] at hS; cases hS
      have hS1 : (upd H s.heap.objs.size (.tup [.int (i : Nat), xs[i]])) S = some (.lst (Ts.map V.ref)) := by rw [upd_ne hST]; exact hS
      obtain ⟨z, its2, n2, r2, hl2, e2⟩ := I1.lstM hS1
      show wpAny _ A.in1 (updateSeq S (·.push (.ref s.heap.objs.size)) >>= _) _ _ _
      have hr2 := r2.length
      rw [List.length_map, hT] at hr2
      refine wpAny_bind (wpAny_updateSeq e2 rfl ?_ (by rw [List.size_toArray, ← hr2]; exact Nat.le_trans (show i ≤ 1000 by omega) (by decide)) (by show (its2.toArray.push _).size ≤ _; rw [Array.size_push, List.size_toArray, ← hr2]; exact Nat.le_trans (show i + 1 ≤ 1001 by omega) (by decide)))
      refine wpAny_pure ⟨plainId_quiet F.plain_extend_loop _, ?_⟩
      have I2 : Inv X pins σ (upd (upd H s.heap.objs.size (.tup [.int (i : Nat), xs[i]])) S (.lst ((Ts ++ [s.heap.objs.size]).map V.ref))) { s with heap := h'.update S (Obj.mapSeq (·.push (.ref s.heap.objs.size))), toks := tk + 1 } :=
        I1.lset (t' := tk + 1) (f := (·.push (.ref s.heap.objs.size))) (its' := its2 ++ [Value.ref s.heap.objs.size]) hS1 e2 (by simp) (by
          rw [List.map_append]
          exact r2.append (.cons (show RelV (V.ref s.heap.objs.size) (Value.ref s.heap.objs.size) from rfl) .nil)) (by
          rw [List.length_map, List.length_append, hT]
          exact Nat.le_trans (show i + 1 ≤ 1001 by omega) (by decide))
      have neS : ∀ b, s.heap.get? b ≠ none → b ≠ S → (h'.update S (Obj.mapSeq (·.push (.ref s.heap.objs.size)))).get? b = h'.get? b := fun b _ hb => Heap.get?_update_other _ _ (Ne.symm hb)
      have eS : e ≠ S := fun z => by rw [← z, fe.1] at hS; cases hS
      have iS : it ≠ S := fun z => by rw [← z, fi.1] at hS; cases hS
      have keepS : ∀ b o, b ≠ S → h'.get? b = some o → (h'.update S (Obj.mapSeq (·.push (.ref s.heap.objs.size)))).get? b = some o := fun b o hb q => (Heap.get?_update_other _ _ (Ne.symm hb)).trans q
      have neT : ∀ b, b < s.heap.objs.size → b ≠ s.heap.objs.size := fun b h => Nat.ne_of_lt h
      have tr : ∀ b o, b ≠ S → H b = some o → (upd (upd H s.heap.objs.size (.tup [.int (i : Nat), xs[i]])) S (.lst ((Ts ++ [s.heap.objs.size]).map V.ref))) b = some o := fun b o hb q => by
        rw [upd_ne hb, upd_ne (ne_of_none q hTn)]
        exact q
      have aS : a ≠ S := fun z => by
        obtain ⟨o1, h1, c1, _⟩ := p
        have h2 := (I.lstM hS)
        obtain ⟨_, its3, n3, _, _, e3⟩ := h2
        rw [z, e3] at h1
        cases h1
        simp at c1
      refine en_loop hei hea hai k (i + 1) A _ _ (Ts ++ [s.heap.objs.size]) (by omega) hh I2 ?_ ?_ ?_ hz ⟨hit'.at fun o q => keepS _ _ iS q, ?_⟩ upd_same (by rw [List.length_append, hT, List.length_singleton]) ?_ (fun b hb => hdm b (by
        by_cases z : b = S
        · rw [z, upd_same] at hb; cases hb
        · rw [upd_ne z] at hb
          by_cases z2 : b = s.heap.objs.size
          · rw [z2]; exact hTn
          · rw [upd_ne z2] at hb; exact hb)) (fun T hT' => by
        rcases List.mem_append.mp hT' with z | z
        · exact hT0 T z
        · rw [List.mem_singleton.mp z]; exact hdm _ hTn) fun s' H' Ts' I' k1 k2 k3 k4 k5 => hR s' H' Ts' I' (fun b o hb q => k1 b o hb (tr b o hb q)) k2 k3 k4 k5
      · rcases hq with hq | hq
        · rcases hq with hq | ⟨o, hq⟩
          · exact .inl (.inl (tr _ _ aS hq))
          · exact .inl (.inr ⟨o, tr _ _ aS hq⟩)
        · exact .inr hq
      · exact ⟨by rw [upd_ne eS, upd_ne (neT _ hels)]; exact fe.1, fe.2⟩
      · exact ⟨by rw [upd_ne iS, upd_ne (neT _ hils)]; exact fi.1, fi.2⟩
      · rcases hst with hst | ⟨T, oT, hst, h1, h2, h3⟩
        · refine .inr ⟨_, f, old, _, keepS _ _ eS hst, keepS _ _ hST.symm hT2, (neT _ hels).symm, (neT _ hils).symm⟩
        · by_cases hTS : T = S
          · obtain ⟨o2, ho2⟩ : ∃ o, (h'.update S (Obj.mapSeq (·.push (.ref s.heap.objs.size)))).get? S = some o := ⟨_, Heap.get?_update_self _ (by rw [← hTS]; exact h1) (by
              have := e2
              rw [← hTS] at this
              have h1' : h'.get? T = some oT := h1
              have this' : h'.get? T = some { cls := Value.type "list", data := Data.seq its2.toArray n2 } := this
              rw [h1'] at this'
              cases this'
              rfl)⟩
            exact .inr ⟨T, f, old, o2, keepS _ _ eS hst, by rw [hTS]; exact ho2, h2, h3⟩
          · exact .inr ⟨T, f, old, oT, keepS _ _ eS hst, keepS _ _ hTS h1, h2, h3⟩
      · intro j T hj
        rcases Nat.lt_or_ge j i with hji | hji
        · rw [List.getElem?_append_left (by omega)] at hj
          obtain ⟨x, h1, h2⟩ := hE j T hj
          exact ⟨x, h1, tr _ _ (fun z => by rw [z, hS] at h2; cases h2) h2⟩
        · have hj2 : j = i := by
            have := (List.getElem?_eq_some_iff.mp hj).1
            rw [List.length_append, List.length_singleton] at this
            omega
          subst hj2
          rw [List.getElem?_append_right (by omega), hT, Nat.sub_self] at hj
          cases hj
          exact ⟨xs[j], List.getElem?_eq_getElem hxi, by rw [upd_ne hST.symm, upd_same]⟩
    rcases st with st | ⟨T, f, old, oT, st, h1, h2, h3⟩
    · have D := Draws.tuple (prog := X.prog) (w := X.w) (A := A.in1.in1) (show A.in1.in1.handled = none from hh) it a hai its.toArray
      refine wpAny_bind (wpAny_pyNext_enum_itemD D st ⟨hit, p⟩ (by simpa using hlt) hei (by simp [hei, hea]) fun x' h' tk hx' ho hst hT2 hsz hk => ?_)
      have hxu : x' = u := by
        have : its[i]? = some x' := by simpa using hx'
        rw [hu] at this
        exact (Option.some.inj this).symm
      subst hxu
      exact next h' tk false x' (.inl ho) hst.1 hT2 hk
    · refine wpAny_bind (next_heldT st h1 h2 h3 hit p (x := u) (by simpa using hu) hei fun h' q1 q2 q3 q4 q5 => ?_)
      exact next h' s.toks true old (.inr ⟨T, oT, q1, q5 T oT h2 h3 h1, h2, h3⟩) q2 q3 q5
theorem en_list {A : Around} {Q : Value → Shared → Prop} {E : Value → Shared → Prop} {s : Shared} {H : Hp} (hei : e ≠ it) (hea : e ≠ a) (hai : a ≠ it) (hh : A.handled = none) (I : Inv X pins σ H s) (hq : SqT X.K H a xs) (fe : FpOk X pins H e) (fi : FpOk X pins H it) (hz : xs.length ≤ 1000)
    (hen : IsEnum s.heap e it 0 .none) (hit : s.heap.IsTupleIter it a 0)
    (hQ : ∀ S s' H' Ts, Inv X pins σ H' s' → Ex H H' → H S = none → H' S = some (.lst (Ts.map V.ref)) → Ts.length = xs.length → EnL xs H' Ts → (∀ T ∈ Ts, H T = none) → Q (.ref S) s') : wpAny (model X.prog X.w) A (call (.type "list") [.ref e]) Q E s := by
  have hels : e < s.heap.objs.size := Heap.lt_size hen
  have hils : it < s.heap.objs.size := by obtain ⟨_, q, _⟩ := hit; exact Heap.lt_size q
  refine callType_codes (Q₁ := fun obj s₁ => obj = .ref s.heap.objs.size ∧ s₁ = { s with heap := s.heap.push { cls := .type "list", data := .seq #[] } }) F.called_list (F.typeCall_list_1 _) F.entry_list_init
    (code_list_new _ ⟨rfl, rfl⟩) fun obj s₁ h₁ => ?_
  obtain ⟨rfl, rfl⟩ := h₁
  have hSn : H s.heap.objs.size = none := I.hok.fresh (Nat.le_refl _)
  generalize hSg : s.heap.objs.size = S at hSn hels hils
  have hS : (s.heap.push { cls := .type "list", data := .seq #[] }).get? S = some { cls := .type "list", data := .seq #[] } := by rw [← hSg]; exact Heap.get?_push_size _ rfl
  have I1 : Inv X pins σ (upd H S (.lst [])) { s with heap := s.heap.push { cls := .type "list", data := .seq #[] } } :=
    I.laid (t' := s.toks) (fun b o q => Heap.get?_push_of_some _ q) (Nat.le_of_eq hSg) ⟨by show 0 ≤ sizeLine; decide, [], 0, .nil, hS⟩
  have eS : e ≠ S := Nat.ne_of_lt hels
  have iS : it ≠ S := Nat.ne_of_lt hils
  have aS : a ≠ S := fun z => by
    obtain ⟨its, _, ⟨o, h1, _⟩, _⟩ := I.tuple hq
    have := Heap.lt_size h1
    rw [z, hSg] at this
    exact Nat.lt_irrefl _ this
  refine ⟨⟨_, hS, rfl⟩, F.args_list_init_2 _ _, ?_⟩
  show wpAny _ A.in1.in1 (do let old ← Builtin.List.listItems (.ref S); Builtin.List.listUpdate (.ref S) (fun _ => #[]); letGo old.toList.reverse; Builtin.List.listExtendWith (.ref S) (.ref e) .none) _ _ _
  refine wpAny_bind ?_
  unfold Builtin.List.listItems
  refine wpAny_bind (wpAny_seqItems hS rfl (wpAny_pure ?_))
  show wpAny _ A.in1.in1 (updateSeq S (fun _ => #[]) >>= fun _ => letGo (#[] : Array Value).toList.reverse >>= fun _ => Builtin.List.listExtendWith (.ref S) (.ref e) .none) _ _ _
  refine wpAny_bind (wpAny_updateSeq hS rfl ?_)
  have I2 := I1.lset (t' := s.toks) (f := fun _ => #[]) (its' := []) (ys := []) upd_same hS rfl .nil (by show 0 ≤ sizeLine; decide)
  have hS2 := Heap.get?_update_self (Obj.mapSeq (fun _ => (#[] : Array Value))) hS rfl
  refine wpAny_bind (wpAny_letGo ?_)
  have up : ∀ {h : Heap} {f : Array Value → Array Value} {b : Addr} {o : Obj}, b ≠ S → h.get? b = some o → (h.update S (Obj.mapSeq f)).get? b = some o := fun hb q => (Heap.get?_update_other _ _ (Ne.symm hb)).trans q
  have en2 : IsEnum ((s.heap.push { cls := .type "list", data := .seq #[] }).update S (Obj.mapSeq (fun _ => (#[] : Array Value)))) e it 0 .none := up eS (Heap.get?_push_of_some _ hen)
  have hT : Shared.TypeIs { s with heap := (s.heap.push { cls := .type "list", data := .seq #[] }).update S (Obj.mapSeq (fun _ => (#[] : Array Value))) } (.ref e) "enumerate" := ⟨_, en2, rfl⟩
  unfold Builtin.List.listExtendWith
  refine wpAny_bind (wpAny_typeOf hT ?_)
  have h1 : Builtin.List.listSameRef (.ref S) (.ref e) = false := by simp [Builtin.List.listSameRef, eS.symm]
  have h2 : (Value.type "enumerate" == Value.type "list") = false := by decide
  have h3 : (Value.type "enumerate" == Value.type "tuple") = false := by decide
  simp only [h1, h2, h3, Bool.or_false, Bool.false_eq_true, if_false]
  refine wpAny_bind (wpAny_pyIter_enum en2 ?_)
  refine wpAny_bind (wpAny_holding ?_)
  unfold Builtin.List.listLengthHint
  refine wpAny_bind (wpAny_specialOf hT enum_no_len ?_)
  show wpAny _ _ (specialOf (Value.ref e) (Str.ofString "__length_hint__") >>= _) _ _ _
  refine wpAny_bind (wpAny_specialOf hT enum_no_hint ?_)
  refine wpAny_pure ?_
  show wpAny _ _ (rule "list.extend.makes-room" >>= fun _ => Builtin.List.listTouch (.ref S) >>= fun _ => again (.builtin "list.extend.loop" ⟨[.ref S, .ref e, .none], []⟩)) _ _ _
  refine wpAny_bind (wpAny_rule ?_)
  refine wpAny_bind ?_
  show wpAny _ _ (updateSeq S (·.push .none) >>= fun _ => updateSeq S (·.pop)) _ _ _
  refine wpAny_bind (wpAny_updateSeq hS2 rfl ?_)
  have I3 := I2.lset (t' := s.toks) (f := (·.push .none)) (its' := [Value.none]) (ys := [.non]) upd_same hS2 rfl (.cons rfl .nil) (by show 1 ≤ sizeLine; decide)
  have hS3 := Heap.get?_update_self (Obj.mapSeq (·.push Value.none)) hS2 rfl
  refine wpAny_updateSeq (hz := by seq_fits) hS3 rfl ?_
  have I4 := I3.lset (t' := s.toks) (f := (·.pop)) (its' := []) (ys := []) upd_same hS3 rfl .nil (by show 0 ≤ sizeLine; decide)
  have tr : ∀ b o, b ≠ S → H b = some o → (upd (upd (upd (upd H S (.lst [])) S (.lst [])) S (.lst [.non])) S (.lst [])) b = some o := fun b o hb q => by
    rw [upd_ne hb, upd_ne hb, upd_ne hb, upd_ne hb]
    exact q
  refine wpAny_pure ⟨plainId_quiet F.plain_extend_loop _, ?_⟩
  refine en_loop (S := S) (H0 := H) hei hea hai xs.length 0 _ _ _ [] (by omega) hh I4 ?_ ?_ ?_ hz ⟨?_, .inl ?_⟩ upd_same rfl (fun j T h => by simp at h) (fun b hb => by
      by_cases z : b = S
      · rw [z]; exact hSn
      · rw [upd_ne z, upd_ne z, upd_ne z, upd_ne z] at hb; exact hb) (fun T h => by cases h) fun s' H' Ts' I' k1 k2 k3 k4 k5 => ?_
  · rcases hq with hq | hq
    · rcases hq with hq | ⟨o, hq⟩
      · exact .inl (.inl (tr _ _ aS hq))
      · exact .inl (.inr ⟨o, tr _ _ aS hq⟩)
    · exact .inr hq
  · exact ⟨by rw [upd_ne eS, upd_ne eS, upd_ne eS, upd_ne eS]; exact fe.1, fe.2⟩
  · exact ⟨by rw [upd_ne iS, upd_ne iS, upd_ne iS, upd_ne iS]; exact fi.1, fi.2⟩
  · exact hit.at fun o q => up iS (up iS (up iS (Heap.get?_push_of_some _ q)))
  · exact up eS (up eS en2)
  · exact ⟨rfl, hQ S s' H' Ts' I' (fun b o q => k1 b o (ne_of_none q hSn) (tr b o (ne_of_none q hSn) q)) hSn k2 k3 k4 k5⟩
/-- list(enumerate(e)), e a tuple -/
def tListEn (K : PySem.W.Frag) (te : TE) : TE := fun σ H Q => te σ H fun x H1 => ∃ (a : Addr) (xs : List V), x = .ref a ∧ SqT K H1 a xs ∧ xs.length ≤ 1000 ∧ ∀ (S : Addr) (H' : Hp) (Ts : List Addr), Ex H1 H' → H1 S = none → H' S = some (.lst (Ts.map V.ref)) → Ts.length = xs.length → EnL xs H' Ts → (∀ T ∈ Ts, H1 T = none) → Q (.ref S) H'
theorem pe_listEn {ex : Expr} {te : TE} {p p2 pos pos2 : Pos} (hg : Gl X "list") (hm : X.mg "list" = none) (hg2 : Gl X "enumerate") (hm2 : X.mg "enumerate" = none) (hc : X.calm = true) (he : PE X ex te)
    (na : starEach [Expr.Call (.Name "enumerate" p2) [ex] [] pos2] X.env = (false, eval (.Call (.Name "enumerate" p2) [ex] [] pos2) X.env) :: starEach [] X.env := by rfl) (nb : starEach [ex] X.env = (false, eval ex X.env) :: starEach [] X.env := by rfl) :
    PE X (.Call (.Name "list" p) [.Call (.Name "enumerate" p2) [ex] [] pos2] [] pos) (tListEn X.K te) := by
  refine ⟨fun pins s σ H Q I h => ?_⟩
  refine Call_ (ld_blt I hg hm boot_list (PyProof.Rows.callWith_type1 (PyProof.Rows.args_cons ?_ na) na))
  refine Call_ (ld_blt I hg2 hm2 boot_enumerate (PyProof.Rows.callWith_type1 (PyProof.Rows.args_cons (thn (he.run pins s σ H _ I h) fun v s1 ⟨x, H1, I1, rx, q⟩ => PyProof.Rows.args_nil ?_) nb) nb))
  obtain ⟨a, xs, rfl, hq, hz, q⟩ := q
  obtain rfl : v = Value.ref a := rx
  obtain ⟨its, rv, p', _⟩ := I1.tuple hq
  have hal : a < s1.heap.objs.size := by
    obtain ⟨o, ho, _⟩ := p'
    exact Heap.lt_size ho
  refine enum1_begins (begins_tuple a its.toArray) p' fun h' hen hit hsz hk => PyProof.Rows.args_nil ?_
  have I2 : Inv X pins σ H1 { s1 with heap := h' } := I1.kept (t' := s1.toks) hk
  have fp : ∀ b, s1.heap.objs.size ≤ b → FpOk X pins H1 b := fun b hb => I1.fpOk hb (I1.hok.fresh hb)
  exact en_list (Nat.succ_ne_self _) (Nat.ne_of_gt (Nat.lt_succ_of_lt hal)) (Nat.ne_of_lt hal) (I.ok.hd hc) I2 hq (fp _ (Nat.le_succ _)) (fp _ (Nat.le_refl _)) hz hen ⟨_, hit, rfl, rfl⟩ fun S s' H' Ts I' k1 k2 k3 k4 k5 k6 => ⟨.ref S, H', I', rfl, q S H' Ts k1 k2 k3 k4 k5 k6⟩
end
end Q
/-! K75P1 -/
set_option Elab.async false
set_option linter.all false
set_option maxRecDepth 100000
set_option maxHeartbeats 4000000
/-! The pool: what stands; what a method does to it. -/
namespace Q
open PySem PySem.Spec PyProof.Rows L2 Evl SlX
open M (Ln Fr)
/-! ### promises about what is new -/
def spR {ι : Type} (A : ι → Hp → Hp → List V → Prop) (R : ι → Hp → Hp → Hp → V → Prop) : Sp := fun vs H Q _ => ∃ (i : ι) (B H1 G : Hp), Kn B H1 H G ∧ A i B G vs ∧ ∀ v H' G', Kn B H1 H' G' → R i B G G' v → Q v H'
theorem fokR {P : Program} {w : World} {K : PySem.W.Frag} {mg : Str → Option Value} {base : Heap} {ι : Type} {A : ι → Hp → Hp → List V → Prop} {R : ι → Hp → Hp → Hp → V → Prop} {d : Df} {f : Addr} {fd : FuncData} {N ps : List Str} {k : Nat} (F : At K d f fd) (S : FnScope N ps (defScope d.st)) (hl : ∀ i B G vs, A i B G vs → vs.length = ps.length)
    (hb : ∀ (cdv : Value) (A' : Around) (outer : List Env) (s : Shared) (H : Hp) (E : XK), Room k (A'.deeper (envOfC d.ql (defScope d.st) s.heap.objs.size f cdv)) →
      ∃ t, PSs (cxOf CX0 P w K mg base N d.ql (defScope d.st) f cdv A' outer s H E).nox (defBody d.st) t ∧ ∀ i B H1 H G vs (rt : VK), A i B G vs → Kn B H1 H G → (∀ v H' G', Kn B H1 H' G' → R i B G G' v → rt v H') → t ⟨fun _ H' => rt .non H', rt, fun _ _ => False, fun _ _ => False⟩ (start N vs) H) :
    FnOk P w K mg base CX0 (k + 1) f fd ps (spR A R) :=
  F.ok S (fun vs H Q E h => by obtain ⟨i, B, H1, G, _, hA, _⟩ := h; exact hl i B G vs hA) fun cdv A' outer s H vs Q E hr h => by
    obtain ⟨i, B, H1, G, kn, hA, k⟩ := h
    obtain ⟨t, ht, hq⟩ := hb cdv A' outer s H E hr
    exact ⟨t, ht.nox, hq i B H1 H G vs Q hA kn k⟩
/-- an expression that may change what is new -/
def Em (te : TE) (σ : L2.St) (B G : Hp) (P : PV) : Prop := ∀ H1 H, Kn B H1 H G → ∀ Q : VK, (∀ v H' G', Kn B H1 H' G' → P G' v → Q v H') → te σ H Q
section
variable {B H1 H G : Hp} {σ : L2.St} {te ta tb : TE} {P : PV} {nx : L2.St → Hp → Prop} {rt : VK} {bk ct : L2.St → Hp → Prop} {K : PySem.W.Frag} {C a dx p : Addr} {f : Str} {i : Nat} {ws : List (Option V)}
theorem em_of (h : EvP te σ G P) : Em te σ B G (fun G' v => Ex G G' ∧ P G' v) := fun H1 H kn Q q => h H kn.le _ fun v H2 e2 p => q v H2 _ (kn.pure e2).1 ⟨(kn.pure e2).2, p⟩
theorem Em.imp {P' : PV} (h : Em te σ B G P) (i : ∀ G' v, P G' v → P' G' v) : Em te σ B G P' := fun H1 H kn Q q => h H1 H kn Q fun v H' G' k p => q v H' G' k (i _ _ p)
theorem q_asgM (kn : Kn B H1 H G) (h : Em te σ B G P) (k : ∀ v H' G', Kn B H1 H' G' → P G' v → nx (σ.set i (some v)) H') : tAsg te (gName i) ⟨nx, rt, bk, ct⟩ σ H := h H1 H kn _ fun v H' G' k' p => k v H' G' k' p
theorem q_dropM (kn : Kn B H1 H G) (h : Em te σ B G P) (k : ∀ v H' G', Kn B H1 H' G' → P G' v → nx σ H') : tDrop te ⟨nx, rt, bk, ct⟩ σ H := h H1 H kn _ fun v H' G' k' p => k v H' G' k' p
theorem q_retM (kn : Kn B H1 H G) (h : Em te σ B G P) (k : ∀ v H' G', Kn B H1 H' G' → P G' v → rt v H') : tRet te ⟨nx, rt, bk, ct⟩ σ H := h H1 H kn _ fun v H' G' k' p => k v H' G' k' p
/-- an instance with slots that stands -/
structure Ins (C : Addr) (G : Hp) (a dx : Addr) (ws : List (Option V)) : Prop where
  ne : dx ≠ a
  o : G a = some (SlO a C dx ws)
  d : G dx = some (.xd [])
theorem Ins.slt (h : Ins C G a dx ws) : Slt G a C dx ws := .inr ⟨h.o, h.d⟩
theorem Ins.mono {G' : Hp} (e : Ex G G') (h : Ins C G a dx ws) : Ins C G' a dx ws := ⟨h.ne, e _ _ h.o, e _ _ h.d⟩
theorem ev_sl {v : V} (c : SCls K C) (t : Slot1 K C f p i) (h : Ins C G a dx ws) (ha : Ev ta σ G (.ref a)) (hw : ws[i]? = some (some v)) : Ev (tSl K ta f) σ G v := fun H1 e Q q => ha H1 e _ fun H2 e2 => ⟨a, C, dx, p, ws, i, v, rfl, (h.mono (e.trans e2)).slt, c, t, hw, q H2 e2⟩
/-- self.f = e -/
theorem q_set (mo : Mo P) (c : SCls K C) (t : Slot1 K C f p i) (kn : Kn B H1 H G) (h : Ins C G a dx ws) (hBa : B a = none) (hBd : B dx = none) (ha : Ev ta σ G (.ref a)) (hv : EvP te σ G P)
    (k : ∀ y H' G', Kn B H1 H' G' → Ex G G' → P G' y → Kn B H1 (slH H' a C dx (putS i y ws)) (slH G' a C dx (putS i y ws)) → nx σ (slH H' a C dx (putS i y ws))) : sSl K ta te f ⟨nx, rt, bk, ct⟩ σ H :=
  hv H kn.le _ fun y H2 e2 q => ha H2 (kn.le.trans e2) _ fun H3 e3 => by
    have e := e2.trans e3
    obtain ⟨k2, e4⟩ := kn.pure e
    have hi := h.mono e4
    exact ⟨a, C, dx, p, ws, i, rfl, (h.mono (kn.le.trans e)).slt, c, t, k y H3 _ k2 e4 (mo _ _ _ (cut_mono e3) q) ((k2.upd hBd hi.d).upd hBa (by rw [upd_ne h.ne.symm]; exact hi.o))⟩
theorem Ins.put {G' : Hp} {ws' : List (Option V)} (h : Ins C G a dx ws) : Ins C (slH G' a C dx ws') a dx ws' := ⟨h.ne, upd_same, by unfold slH; rw [upd_ne h.ne, upd_same]⟩
/-- self.f += n -/
theorem q_augI {g : Int → Int → Int} {m n : Int} (c : SCls K C) (t : Slot1 K C f p i) (kn : Kn B H1 H G) (h : Ins C G a dx ws) (hBa : B a = none) (hBd : B dx = none) (ha : Ev ta σ G (.ref a)) (hw : ws[i]? = some (some (.int m))) (hv : Ev te σ G (.int n)) {rd : V → V → Hp → VK → Prop} (hr : ∀ H Q, Q (.int (g m n)) H → rd (.int m) (.int n) H Q)
    (k : ∀ H' G', Kn B H1 H' G' → Ex G G' → Kn B H1 (slH H' a C dx (putS i (.int (g m n)) ws)) (slH G' a C dx (putS i (.int (g m n)) ws)) → nx σ (slH H' a C dx (putS i (.int (g m n)) ws))) : sSlAug K ta te rd f ⟨nx, rt, bk, ct⟩ σ H :=
  ha H kn.le _ fun H2 e2 => ⟨a, C, dx, p, ws, i, .int m, rfl, (h.mono (kn.le.trans e2)).slt, c, t, hw, hv H2 (kn.le.trans e2) _ fun H3 e3 => hr H3 _ (by
    have e := e2.trans e3
    obtain ⟨k2, e4⟩ := kn.pure e
    have hi := h.mono e4
    exact ⟨(h.mono (kn.le.trans e)).slt, k H3 _ k2 e4 ((k2.upd hBd hi.d).upd hBa (by rw [upd_ne h.ne.symm]; exact hi.o))⟩)⟩
end
/-! ### the pool -/
structure PSt where
  keep : Int
  depth : Option Int
  now : Int
  idle : List (Int × Int)
  lent : List Int
  made : Int
  there : List Int
structure PF (K : PySem.W.Frag) (C : Addr) : Prop where
  c : SCls K C
  depth : ∃ p, Slot1 K C "own_depth" p 0
  idle : ∃ p, Slot1 K C "own_idle" p 1
  keep : ∃ p, Slot1 K C "own_keep" p 2
  lent : ∃ p, Slot1 K C "own_lent" p 3
  made : ∃ p, Slot1 K C "own_made" p 4
  now : ∃ p, Slot1 K C "own_now" p 5
  there : ∃ p, Slot1 K C "own_there" p 6
def dkv : Option Int → V
  | none => .non
  | some i => .int i
abbrev pws (s : PSt) (li ll lt : Addr) : List (Option V) := [some (dkv s.depth), some (.ref li), some (.int s.keep), some (.ref ll), some (.int s.made), some (.int s.now), some (.ref lt)]
/-- the feet, by name -/
structure PA5 (C : Addr) (G : Hp) (s : PSt) (a dx li ll lt : Addr) (rs : List V) : Prop where
  ins : Ins C G a dx (pws s li ll lt)
  n1 : li ≠ ll
  n2 : li ≠ lt
  n3 : ll ≠ lt
  hi : G li = some (.lst rs)
  hr : DeA G rs (s.idle.map pr)
  hl : G ll = some (.lst (s.lent.map V.int))
  ht : G lt = some (.lst (s.there.map V.int))
def PAt (C : Addr) (G : Hp) (a : Addr) (Ft : List Addr) (s : PSt) : Prop := ∃ dx li ll lt rs, Ft = [a, dx, li, ll, lt] ∧ PA5 C G s a dx li ll lt rs
def Own (B : Hp) (Ft : List Addr) : Prop := ∀ b ∈ Ft, B b = none
def Tp (G G' : Hp) : Prop := ∀ b xs, G b = some (.tup xs) → G' b = some (.tup xs)
def Fr (Ft : List Addr) (G G' : Hp) : Prop := ∀ b o, b ∉ Ft → G b = some o → G' b = some o
/-- the feet behind: the old ones, or new ones -/
def Ftn (B G : Hp) (Ft Ft' : List Addr) : Prop := ∀ b ∈ Ft', b ∈ Ft ∨ (G b = none ∧ B b = none)
theorem prs_chg {G G' : Hp} (t : Tp G G') : ∀ {rs : List V} {l : List (Int × Int)}, DeA G rs (l.map pr) → DeA G' rs (l.map pr)
  | _, [], .nil => .nil
  | _, p :: l, .cons a b => by
    refine .cons ?_ (prs_chg t b)
    have a' : De G _ (.tuple [.int p.1, .int p.2]) := a
    obtain ⟨c, xs, rfl, h1, h2⟩ := De.tup' a'
    have e : xs = [V.int p.1, V.int p.2] := (show DeA G xs ([p.1, p.2].map PyData.int) from h2).ints'
    rw [e] at h1
    exact .tup (t _ _ h1) (.cons (.int _) (.cons (.int _) .nil))
section
variable {C : Addr} {B G G' G2 : Hp} {s : PSt} {a dx li ll lt : Addr} {rs : List V} {Ft Ft' Ft2 : List Addr}
theorem PA5.mono (e : Ex G G') (h : PA5 C G s a dx li ll lt rs) : PA5 C G' s a dx li ll lt rs := ⟨h.ins.mono e, h.n1, h.n2, h.n3, e _ _ h.hi, h.hr.mono e, e _ _ h.hl, e _ _ h.ht⟩
theorem PAt.mono (e : Ex G G') (h : PAt C G a Ft s) : PAt C G' a Ft s := by
  obtain ⟨dx, li, ll, lt, rs, e1, h⟩ := h
  exact ⟨dx, li, ll, lt, rs, e1, h.mono e⟩
theorem Fr.refl : Fr Ft G G := fun _ _ _ h => h
theorem Fr.of (e : Ex G G') : Fr Ft G G' := fun b o _ h => e b o h
theorem Fr.trans (h1 : Fr Ft G G') (h2 : Fr Ft' G' G2) (h : Ftn B G Ft Ft') : Fr Ft G G2 := fun b o n q => h2 b o (fun z => (h b z).elim n fun z => by rw [z.1] at q; cases q) (h1 b o n q)
theorem Ftn.refl : Ftn B G Ft Ft := fun b h => .inl h
theorem Ftn.trans (h1 : Ftn B G Ft Ft') (h2 : Ftn B G' Ft' Ft2) (f : Fr Ft G G') : Ftn B G Ft Ft2 := fun b hb => by
  rcases h2 b hb with h | ⟨h3, h4⟩
  · exact h1 b h
  · by_cases q : b ∈ Ft
    · exact .inl q
    · refine .inr ⟨?_, h4⟩
      cases hg : G b with
      | none => rfl
      | some o => rw [f b o q hg] at h3; cases h3
theorem Own.next (o : Own B Ft) (h : Ftn B G Ft Ft') : Own B Ft' := fun b hb => (h b hb).elim (o b) fun z => z.2
/-- the feet of a pool are no tuples -/
theorem PA5.no_tup (h : PA5 C G s a dx li ll lt rs) {b : Addr} (hb : b ∈ [a, dx, li, ll, lt]) : ∀ xs, G b ≠ some (.tup xs) := fun xs q => by
  simp only [List.mem_cons, List.mem_nil_iff, or_false] at hb
  rcases hb with rfl | rfl | rfl | rfl | rfl
  · rw [h.ins.o] at q; cases q
  · rw [h.ins.d] at q; cases q
  · rw [h.hi] at q; cases q
  · rw [h.hl] at q; cases q
  · rw [h.ht] at q; cases q
theorem PA5.tp (h : PA5 C G s a dx li ll lt rs) (f : Fr [a, dx, li, ll, lt] G G') : Tp G G' := fun b xs q => f b _ (fun hb => h.no_tup hb xs q) q
end
end Q
/-! K75P2 -/
set_option Elab.async false
set_option linter.all false
set_option maxRecDepth 100000
set_option maxHeartbeats 4000000
/-! The pool: now, made, len, place, take. -/
namespace Q
open PySem PySem.Spec PyProof.Rows L2 Evl SlX
open M (Ln Fr)
section
variable {P : Program} {w : World} {K : PySem.W.Frag} {mg : Str → Option Value} {base : Heap} {C : Addr}
def APr (C : Addr) (s : PSt) : PVs := fun B vs => ∃ a Ft, vs = [.ref a] ∧ PAt C B a Ft s
theorem APr.len {s : PSt} {B : Hp} {vs : List V} (h : APr C s B vs) : vs.length = 1 := by obtain ⟨a, Ft, rfl, _⟩ := h; rfl
section
variable {σ : L2.St} {G : Hp} {ta : TE} {s : PSt} {a dx li ll lt : Addr} {rs : List V}
theorem pv_now (L : PF K C) (h : PA5 C G s a dx li ll lt rs) (ha : Ev ta σ G (.ref a)) : Ev (tSl K ta "own_now") σ G (.int s.now) := by
  obtain ⟨p, t⟩ := L.now
  exact ev_sl L.c t h.ins ha rfl
theorem pv_made (L : PF K C) (h : PA5 C G s a dx li ll lt rs) (ha : Ev ta σ G (.ref a)) : Ev (tSl K ta "own_made") σ G (.int s.made) := by
  obtain ⟨p, t⟩ := L.made
  exact ev_sl L.c t h.ins ha rfl
theorem pv_keep (L : PF K C) (h : PA5 C G s a dx li ll lt rs) (ha : Ev ta σ G (.ref a)) : Ev (tSl K ta "own_keep") σ G (.int s.keep) := by
  obtain ⟨p, t⟩ := L.keep
  exact ev_sl L.c t h.ins ha rfl
theorem pv_idle (L : PF K C) (h : PA5 C G s a dx li ll lt rs) (ha : Ev ta σ G (.ref a)) : Ev (tSl K ta "own_idle") σ G (.ref li) := by
  obtain ⟨p, t⟩ := L.idle
  exact ev_sl L.c t h.ins ha rfl
theorem pv_lent (L : PF K C) (h : PA5 C G s a dx li ll lt rs) (ha : Ev ta σ G (.ref a)) : Ev (tSl K ta "own_lent") σ G (.ref ll) := by
  obtain ⟨p, t⟩ := L.lent
  exact ev_sl L.c t h.ins ha rfl
theorem pv_there (L : PF K C) (h : PA5 C G s a dx li ll lt rs) (ha : Ev ta σ G (.ref a)) : Ev (tSl K ta "own_there") σ G (.ref lt) := by
  obtain ⟨p, t⟩ := L.there
  exact ev_sl L.c t h.ins ha rfl
theorem pv_depth (L : PF K C) (h : PA5 C G s a dx li ll lt rs) (ha : Ev ta σ G (.ref a)) : EvP (tSl K ta "own_depth") σ G (is (dk s.depth)) := by
  obtain ⟨p, t⟩ := L.depth
  refine (Ev.p (ev_sl L.c t h.ins ha (v := dkv s.depth) rfl)).imp fun G' v _ q => ?_
  have q : v = dkv s.depth := q
  rw [q]
  cases s.depth with
  | none => exact .non
  | some i => exact .int i
theorem Ev.lst {D : Addr} {xs : List V} {ds : List PyData} (h : Ev ta σ G (.ref D)) (h1 : G D = some (.lst xs)) (h2 : DeA G xs ds) : EvP ta σ G (is (.list ds)) := fun H1 e Q q => h H1 e Q fun H2 e2 => q _ H2 e2 (.lst (cut_base (e.trans e2) _ _ h1) (h2.mono (cut_base (e.trans e2))))
end
def spPNow (C : Addr) : Sp := spF (APr C) fun s => is (.int s.now)
abbrev dPNow (a : Fg → Addr) : Df := ⟨a, "now", "Pool.now", sPNow, []⟩
theorem scPNow : FnScope ["self"] ["self"] (defScope sPNow) := ⟨rfl, rfl, rfl, by decide +kernel, rfl, by decide +kernel, by decide +kernel⟩
theorem ok_PNow {a : Fg → Addr} {f : Addr} {fd : FuncData} (F : At K (dPNow a) f fd) (L : PF K C) : FR P w K mg base 1 f (spPNow C) := by
  refine raw0 (d := dPNow a) (fok F scPNow (fun i B vs h => h.len) fun cdv A' outer s H E hr => ?_) (F.bindsN fun _ _ _ _ _ _ us hl => match us, hl with | [_], _ => rfl)
  refine ⟨_, (pss_one (ps_ret (pe_sl (pv 0)))), fun i B vs h => ?_⟩
  obtain ⟨x, Ft, rfl, dx, li, ll, lt, rs, rfl, h⟩ := h
  exact st_ret (Ev.int (pv_now L h (ev_var rfl)))
def spPMade (C : Addr) : Sp := spF (APr C) fun s => is (.int s.made)
abbrev dPMade (a : Fg → Addr) : Df := ⟨a, "made", "Pool.made", sPMade, []⟩
theorem scPMade : FnScope ["self"] ["self"] (defScope sPMade) := ⟨rfl, rfl, rfl, by decide +kernel, rfl, by decide +kernel, by decide +kernel⟩
theorem ok_PMade {a : Fg → Addr} {f : Addr} {fd : FuncData} (F : At K (dPMade a) f fd) (L : PF K C) : FR P w K mg base 1 f (spPMade C) := by
  refine raw0 (d := dPMade a) (fok F scPMade (fun i B vs h => h.len) fun cdv A' outer s H E hr => ?_) (F.bindsN fun _ _ _ _ _ _ us hl => match us, hl with | [_], _ => rfl)
  refine ⟨_, (pss_one (ps_ret (pe_sl (pv 0)))), fun i B vs h => ?_⟩
  obtain ⟨x, Ft, rfl, dx, li, ll, lt, rs, rfl, h⟩ := h
  exact st_ret (Ev.int (pv_made L h (ev_var rfl)))
def spPLen (C : Addr) : Sp := spF (APr C) fun s => is (.int (s.there.length : Nat))
abbrev dPLen (a : Fg → Addr) : Df := ⟨a, "__len__", "Pool.__len__", sPLen, []⟩
theorem scPLen : FnScope ["self"] ["self"] (defScope sPLen) := ⟨rfl, rfl, rfl, by decide +kernel, rfl, by decide +kernel, by decide +kernel⟩
theorem ok_PLen {a : Fg → Addr} {f : Addr} {fd : FuncData} (F : At K (dPLen a) f fd) (T : Bt mg) (L : PF K C) : FR P w K mg base 1 f (spPLen C) := by
  refine raw0 (d := dPLen a) (fok F scPLen (fun i B vs h => h.len) fun cdv A' outer s H E hr => ?_) (F.bindsN fun _ _ _ _ _ _ us hl => match us, hl with | [_], _ => rfl)
  refine ⟨_, (pss_one (ps_ret (pe_callB call_len_seq (by rfl) T.len (by decide +kernel) (pa_cons (pe_sl (pv 0)) pa_nil)))), fun i B vs h => ?_⟩
  obtain ⟨x, Ft, rfl, dx, li, ll, lt, rs, rfl, h⟩ := h
  have e := ep_lenL (K := K) (Ev.lst (pv_there L h (ev_var (σ := [some (.ref x)]) (i := 0) rfl)) h.ht (DeA.ints i.there))
  rw [List.length_map] at e
  exact st_ret e
/-- which row -/
def plc (s : PSt) : Int := match s.depth with
  | none => (s.idle.length : Int) - 1
  | some d => min d ((s.idle.length : Int) - 1)
def spPPlace (C : Addr) : Sp := spF (APr C) fun s => is (.int (plc s))
abbrev dPPlace (a : Fg → Addr) : Df := ⟨a, "place", "Pool.place", sPPlace, []⟩
theorem scPPlace : FnScope ["self", "last"] ["self"] (defScope sPPlace) := ⟨rfl, rfl, rfl, by decide +kernel, rfl, by decide +kernel, by decide +kernel⟩
theorem ok_PPlace {a : Fg → Addr} {f : Addr} {fd : FuncData} (F : At K (dPPlace a) f fd) (T : Bt mg) (L : PF K C) : FR P w K mg base 1 f (spPPlace C) := by
  refine raw0 (d := dPPlace a) (fok F scPPlace (fun i B vs h => h.len) fun cdv A' outer s H E hr => ?_) (F.bindsN fun _ _ _ _ _ _ us hl => match us, hl with | [_], _ => rfl)
  refine ⟨_, (pss_cons ((ps_asg ((pe_op op_sub ((pe_callB call_len_seq (by rfl) T.len (by decide +kernel) (pa_cons (pe_sl (pv 0)) pa_nil))) (pe_int))) (pg_name (i := 1) scPPlace.nd rfl (by first | exact Or.inl rfl | exact Or.inr rfl)))) (pss_one (ps_ret (pe_ifExp (pt_cmp (pc_isN (pe_sl (pv 0)))) (pv 1) (pe_callB (call_min2 rfl) (by rfl) T.min (by decide +kernel) (pa_cons (pe_sl (pv 0)) (pa_cons ((pv 1)) pa_nil))))))), fun i B vs h => ?_⟩
  obtain ⟨x, Ft, rfl, dx, li, ll, lt, rs, rfl, h⟩ := h
  have e := ep_lenL (K := K) (Ev.lst (pv_idle L h (ev_var (σ := [some (.ref x), none]) (i := 0) rfl)) h.hi h.hr)
  rw [List.length_map] at e
  refine sq_asg (ep_sub e ep_int) fun v G eG dv => st_ret ?_
  have hG := h.mono eG
  unfold plc
  have hd := pv_depth L hG (ev_var (σ := [some (.ref x), some v]) (i := 0) rfl)
  cases hq : i.depth with
  | none =>
    rw [hq] at hd
    exact ep_if (b := true) mo_is (et_B' (ep_isN hd)) (fun _ => ep_d rfl dv) fun z => by cases z
  | some d =>
    rw [hq] at hd
    exact ep_if (b := false) mo_is (et_B' (ep_isN hd)) (fun z => by cases z) fun _ => ep_min2 hd (ep_d rfl dv)
/-- the pool, as a value -/
def isP (C : Addr) (s : PSt) : PV := fun G v => ∃ a Ft, v = .ref a ∧ PAt C G a Ft s
theorem mo_P {s : PSt} : Mo (isP C s) := fun _ _ _ e ⟨a, Ft, h1, h2⟩ => ⟨a, Ft, h1, h2.mono e⟩
theorem PA5.at {G : Hp} {s : PSt} {a dx li ll lt : Addr} {rs : List V} (h : PA5 C G s a dx li ll lt rs) : PAt C G a [a, dx, li, ll, lt] s := ⟨dx, li, ll, lt, rs, rfl, h⟩
theorem isP_slt {s : PSt} {G : Hp} {x : V} (h : isP C s G x) : ∃ a dx vs, x = .ref a ∧ ∀ G', Ex G G' → Slt G' a C dx vs := by
  obtain ⟨a, Ft, rfl, dx, li, ll, lt, rs, _, h⟩ := h
  exact ⟨a, dx, _, rfl, fun G' e => (h.ins.mono e).slt⟩
/-- a method that only looks -/
theorem ep_pm {σ : L2.St} {G : Hp} {ta : TE} {s : PSt} {R : PSt → PV} {E : XK} (ho : EvP ta σ G (isP C s)) : EvP (tMethSl C (spF (APr C) R) E ta tNil) σ G (R s) :=
  ep_meth s ho mo_P (fun G x h => isP_slt h) (as_nil (P := fun _ vs => vs = []) fun _ _ => rfl) (fun _ _ _ _ h => h) fun G x vs e hv hvs => by
    have hvs : vs = [] := hvs
    obtain ⟨a, Ft, rfl, h⟩ := hv
    rw [hvs]
    exact ⟨a, Ft, rfl, h⟩
/-! ### take -/
def takeR (s : PSt) : Int × PSt :=
  if s.idle = [] then (s.made, { s with made := s.made + 1, lent := s.lent ++ [s.made], there := s.there ++ [s.made] })
  else ((s.idle.getD (plc s).toNat (0, 0)).1, { s with idle := s.idle.eraseIdx (plc s).toNat, lent := s.lent ++ [(s.idle.getD (plc s).toNat (0, 0)).1] })
structure PI where
  s : PSt
  a : Addr
  Ft : List Addr
/-- from s to s', the result v -/
def Goes' (C : Addr) (i : PI) (s' : PSt) (B G G' : Hp) : Prop := ∃ Ft', PAt C G' i.a Ft' s' ∧ Ftn B G i.Ft Ft' ∧ Fr i.Ft G G'
def Goes0 (C : Addr) (i : PI) (s' : PSt) (G G' : Hp) : Prop := PAt C G' i.a i.Ft s' ∧ Fr i.Ft G G'
def SmP (s : PSt) : Prop := s.idle.length ≤ 1000 ∧ s.lent.length ≤ 1000 ∧ s.there.length ≤ 1000 ∧ ∀ d, s.depth = some d → 0 ≤ d
def ATake (C : Addr) (i : PI) : Hp → Hp → List V → Prop := fun B G vs => vs = [.ref i.a] ∧ PAt C G i.a i.Ft i.s ∧ Own B i.Ft ∧ SmP i.s
def spPTake (C : Addr) : Sp := spR (ATake C) fun i B G G' v => v = .int (takeR i.s).1 ∧ Goes0 C i (takeR i.s).2 G G'
abbrev dPTake (a : Fg → Addr) : Df := ⟨a, "take", "Pool.take", sPTake, []⟩
theorem scPTake : FnScope ["self", "number", "beat"] ["self"] (defScope sPTake) := ⟨rfl, rfl, rfl, by decide +kernel, rfl, by decide +kernel, by decide +kernel⟩
theorem plc_lt {s : PSt} (h : s.idle ≠ []) (hd : ∀ d, s.depth = some d → 0 ≤ d) : 0 ≤ plc s ∧ (plc s).toNat < s.idle.length := by
  have := List.length_pos_iff.mpr h
  unfold plc
  cases hq : s.depth with
  | none => simp only; omega
  | some d =>
    have := hd d hq
    simp only
    omega
section
variable {B G G' : Hp} {s : PSt} {a dx li ll lt : Addr} {rs : List V}
theorem PA5.ne (h : PA5 C G s a dx li ll lt rs) : (a ≠ li ∧ a ≠ ll ∧ a ≠ lt) ∧ dx ≠ li ∧ dx ≠ ll ∧ dx ≠ lt := by
  have h1 := h.ins.o
  have h2 := h.ins.d
  refine ⟨⟨fun q => ?_, fun q => ?_, fun q => ?_⟩, fun q => ?_, fun q => ?_, fun q => ?_⟩
  · rw [q, h.hi] at h1; cases h1
  · rw [q, h.hl] at h1; cases h1
  · rw [q, h.ht] at h1; cases h1
  · rw [q, h.hi] at h2; cases h2
  · rw [q, h.hl] at h2; cases h2
  · rw [q, h.ht] at h2; cases h2
theorem Ins.keep {D : Addr} {o : HO} {ws : List (Option V)} (h : Ins C G a dx ws) (h1 : a ≠ D) (h2 : dx ≠ D) : Ins C (upd G D o) a dx ws := ⟨h.ne, by rw [upd_ne h1]; exact h.o, by rw [upd_ne h2]; exact h.d⟩
theorem tp_upd {D : Addr} {o : HO} (h : ∀ xs, G D ≠ some (.tup xs)) : Tp G (upd G D o) := fun b xs q => by
  by_cases z : b = D
  · rw [z] at q; exact absurd q (h xs)
  · rw [upd_ne z]; exact q
theorem PA5.setIdle {rs' : List V} {idle' : List (Int × Int)} (h : PA5 C G s a dx li ll lt rs) (hr : DeA G rs' (idle'.map pr)) : PA5 C (upd G li (.lst rs')) { s with idle := idle' } a dx li ll lt rs' :=
  ⟨h.ins.keep h.ne.1.1 h.ne.2.1, h.n1, h.n2, h.n3, upd_same, prs_chg (tp_upd fun xs q => by rw [h.hi] at q; cases q) hr, by rw [upd_ne h.n1.symm]; exact h.hl, by rw [upd_ne h.n2.symm]; exact h.ht⟩
theorem PA5.setLent {l' : List Int} (h : PA5 C G s a dx li ll lt rs) : PA5 C (upd G ll (.lst (l'.map V.int))) { s with lent := l' } a dx li ll lt rs :=
  ⟨h.ins.keep h.ne.1.2.1 h.ne.2.2.1, h.n1, h.n2, h.n3, by rw [upd_ne h.n1]; exact h.hi, prs_chg (tp_upd fun xs q => by rw [h.hl] at q; cases q) h.hr, upd_same, by rw [upd_ne h.n3.symm]; exact h.ht⟩
theorem PA5.setThere {l' : List Int} (h : PA5 C G s a dx li ll lt rs) : PA5 C (upd G lt (.lst (l'.map V.int))) { s with there := l' } a dx li ll lt rs :=
  ⟨h.ins.keep h.ne.1.2.2 h.ne.2.2.2, h.n1, h.n2, h.n3, by rw [upd_ne h.n2]; exact h.hi, prs_chg (tp_upd fun xs q => by rw [h.ht] at q; cases q) h.hr, by rw [upd_ne h.n3]; exact h.hl, upd_same⟩
/-- the slots written -/
theorem PA5.setSl {s' : PSt} (h : PA5 C G s a dx li ll lt rs) (e1 : s'.idle = s.idle) (e2 : s'.lent = s.lent) (e3 : s'.there = s.there) : PA5 C (slH G a C dx (pws s' li ll lt)) s' a dx li ll lt rs := by
  have n := h.ne
  refine ⟨h.ins.put, h.n1, h.n2, h.n3, by rw [slH_ne n.1.1.symm n.2.1.symm]; exact h.hi, ?_, by rw [slH_ne n.1.2.1.symm n.2.2.1.symm, e2]; exact h.hl, by rw [slH_ne n.1.2.2.symm n.2.2.2.symm, e3]; exact h.ht⟩
  rw [e1]
  refine prs_chg (fun b xs q => ?_) h.hr
  rw [slH_ne (fun z => by rw [z, h.ins.o] at q; cases q) (fun z => by rw [z, h.ins.d] at q; cases q)]
  exact q
theorem fr_upd {Ft : List Addr} {D : Addr} {o : HO} (h : D ∈ Ft) : Fr Ft G (upd G D o) := fun b u n q => by
  rw [upd_ne fun z => n (by rw [z]; exact h)]
  exact q
theorem fr_slH {Ft : List Addr} {ws : List (Option V)} (h1 : a ∈ Ft) (h2 : dx ∈ Ft) : Fr Ft G (slH G a C dx ws) := fun b u n q => by
  rw [slH_ne (fun z => n (by rw [z]; exact h1)) fun z => n (by rw [z]; exact h2)]
  exact q
theorem DeA.erase {G : Hp} : ∀ {rs : List V} {ds : List PyData} (j : Nat), DeA G rs ds → DeA G (rs.eraseIdx j) (ds.eraseIdx j)
  | _, _, _, .nil => .nil
  | _, _, 0, .cons _ b => b
  | _, _, j + 1, .cons a b => .cons a (DeA.erase j b)
theorem map_erase {α β : Type} (f : α → β) : ∀ (l : List α) (j : Nat), (l.eraseIdx j).map f = (l.map f).eraseIdx j
  | [], _ => rfl
  | _ :: _, 0 => rfl
  | a :: l, j + 1 => by simp [map_erase f l j]
theorem q_next {nx : L2.St → Hp → Prop} {rt : VK} {bk ct : L2.St → Hp → Prop} {σ : L2.St} {H : Hp} (h : nx σ H) : tNext ⟨nx, rt, bk, ct⟩ σ H := h
theorem q_popRow {B H1 H G : Hp} {σ : L2.St} {ta tp : TE} {nx : L2.St → Hp → Prop} {rt : VK} {bk ct : L2.St → Hp → Prop} {K : PySem.W.Frag} {l : List (Int × Int)} {p : Int} {x y j : Nat} {li : Addr} {rs : List V} (kn : Kn B H1 H G) (hB : B li = none) (hG : G li = some (.lst rs)) (hr : DeA G rs (l.map pr)) (ho : Ev ta σ G (.ref li)) (hp : EvP tp σ G (is (.int p))) (e : p = (j : Int)) (hj : j < l.length) (hz : l.length ≤ 1000)
    (k : ∀ H' G', Kn B H1 H' G' → Ex G G' → Kn B H1 (upd H' li (.lst (rs.eraseIdx j))) (upd G' li (.lst (rs.eraseIdx j))) → nx ((σ.set x (some (.int (l.getD j (0, 0)).1))).set y (some (.int (l.getD j (0, 0)).2))) (upd H' li (.lst (rs.eraseIdx j)))) :
    tAsg (tBM K "list" rPopAt ta (tCons tp tNil)) (gTup K 2 (gCons (gName x) (gCons (gName y) gNil))) ⟨nx, rt, bk, ct⟩ σ H :=
  ho H kn.le _ fun H2 e2 => ⟨Or.inl ⟨rfl, rs, sq_of (e2 _ _ (kn.le _ _ hG))⟩, hp H2 (kn.le.trans e2) _ fun v H3 e3 pv => by
    have e' := e2.trans e3
    obtain ⟨k2, e4⟩ := kn.pure e'
    have hl := hr.len
    rw [List.length_map] at hl
    have hjr : j < rs.length := by omega
    obtain ⟨d, hd, dr⟩ := hr.of (List.getElem?_eq_getElem hjr)
    rw [List.getElem?_map, List.getElem?_eq_getElem hj] at hd
    cases hd
    have dr' : De G rs[j] (.tuple [.int l[j].1, .int l[j].2]) := dr
    obtain ⟨T, xs, hT, h1, h2⟩ := De.tup' dr'
    have hx : xs = [V.int l[j].1, V.int l[j].2] := (show DeA G xs ([l[j].1, l[j].2].map PyData.int) from h2).ints'
    have gd : l.getD j (0, 0) = l[j] := by simp [List.getD, hj]
    have nT : T ≠ li := fun z => by rw [z, hG] at h1; cases h1
    rw [gd] at k
    refine ⟨li, rs, (j : Int), j, rs[j], rfl, by rw [De.int' pv, e], e' _ _ (kn.le _ _ hG), by omega, by omega, ?_, List.getElem?_eq_getElem hjr, ?_⟩
    · rw [seqIndex_of (by omega) (by omega)]
      simp
    · exact ⟨T, xs, hT, st_of (by rw [upd_ne nT]; exact e' _ _ (kn.le _ _ h1)), by rw [hx]; rfl, _, _, hx, _, _, rfl, rfl, k H3 _ k2 e4 (k2.upd hB (e4 _ _ hG))⟩⟩
theorem Fr.tr {Ft : List Addr} {G2 : Hp} (h1 : Fr Ft G G') (h2 : Fr Ft G' G2) : Fr Ft G G2 := fun b o n q => h2 b o n (h1 b o n q)
end
theorem ok_PTake {a : Fg → Addr} {f : Addr} {fd : FuncData} (F : At K (dPTake a) f fd) (T : Bt mg) (L : PF K C) (PL : MR P w K mg base 1 C "place" (spPPlace C)) : FR P w K mg base 2 f (spPTake C) := by
  refine raw0 (d := dPTake a) (fokR F scPTake (fun i B G vs h => by rw [h.1]; rfl) fun cdv A' outer s H E hr => ?_) (F.bindsN fun _ _ _ _ _ _ us hl => match us, hl with | [_], _ => rfl)
  refine ⟨_, (pss_cons (ps_if (pt_cmpR op_eq (pe_callB call_len_seq (by rfl) T.len (by decide +kernel) (pa_cons (pe_sl (pv 0)) pa_nil)) pe_int rfl) (pss_cons (ps_slAug (pv 0) pe_int in_add) (pss_cons ((ps_expr (pe_bm PySem.F.plainAttrs_list PySem.F.slot_list_append PySem.F.type_list_append mt_append (pe_sl (pv 0)) (pa_cons ((pe_op op_sub (pe_sl (pv 0)) (pe_int))) pa_nil)))) (pss_cons ((ps_expr (pe_bm PySem.F.plainAttrs_list PySem.F.slot_list_append PySem.F.type_list_append mt_append (pe_sl (pv 0)) (pa_cons ((pe_op op_sub (pe_sl (pv 0)) (pe_int))) pa_nil)))) (pss_one (ps_ret (pe_op op_sub (pe_sl (pv 0)) (pe_int))))))) pss_nil) (pss_cons (ps_asg (pe_bm PySem.F.plainAttrs_list PySem.F.slot_list_pop PySem.F.type_list_pop mt_popAt (pe_sl (pv 0)) (pa_cons (pe_m0 PL hr (Nat.le_refl _) (pv 0)) pa_nil)) (pg_tup (n := 2) rfl (pgs_cons (pg_name (i := 1) scPTake.nd rfl (by first | exact Or.inl rfl | exact Or.inr rfl)) (pgs_cons (pg_name (i := 2) scPTake.nd rfl (by first | exact Or.inl rfl | exact Or.inr rfl)) pgs_nil)))) (pss_cons ((ps_expr (pe_bm PySem.F.plainAttrs_list PySem.F.slot_list_append PySem.F.type_list_append mt_append (pe_sl (pv 0)) (pa_cons ((pv 1)) pa_nil)))) (pss_one (ps_ret (pv 1)))))), fun i B H1 H G vs rt h kn hret => ?_⟩
  obtain ⟨rfl, ⟨dx, li, ll, lt, rs, hFt, h⟩, own, hz1, hz2, hz3, hd⟩ := h
  have oa : B i.a = none := own _ (by rw [hFt]; simp)
  have od : B dx = none := own _ (by rw [hFt]; simp)
  have oi : B li = none := own _ (by rw [hFt]; simp)
  have ol : B ll = none := own _ (by rw [hFt]; simp)
  have ot : B lt = none := own _ (by rw [hFt]; simp)
  obtain ⟨pm, tm⟩ := L.made
  have e0 := ep_lenL (K := K) (Ev.lst (pv_idle L h (ev_var (σ := start ["self", "number", "beat"] [.ref i.a]) (i := 0) rfl)) h.hi h.hr)
  rw [List.length_map] at e0
  have fin : ∀ {v H' G'} {s' : PSt} {rs'}, Kn B H1 H' G' → PA5 C G' s' i.a dx li ll lt rs' → Fr i.Ft G G' → v = .int (takeR i.s).1 → s' = (takeR i.s).2 → rt v H' := fun kn' h' f hv hs => hret _ _ _ kn' ⟨hv, by rw [← hs]; exact ⟨dx, li, ll, lt, _, hFt, h'⟩, f⟩
  refine q_seq (q_if (b := decide ((i.s.idle.length : Int) = 0)) kn (et_test' (ep_eqI e0 ep_int)) (fun hb H2 G2 kn2 e2 => ?_) fun hb H2 G2 kn2 e2 => ?_)
  · have hemp : i.s.idle = [] := by simpa using hb
    have h2 := h.mono e2
    refine q_seq (q_augI (g := fun i j => i + j) (n := 1) L.c tm kn2 h2.ins oa od (ev_var rfl) rfl ev_c (fun H Q q => ⟨_, _, rfl, rfl, q⟩) fun H3 G3 kn3 e3 kn4 => ?_)
    have h4 := (h2.mono e3).setSl (s' := { i.s with made := i.s.made + 1 }) rfl rfl rfl
    have f4 : Fr i.Ft G (slH G3 i.a C dx (pws { i.s with made := i.s.made + 1 } li ll lt)) := (Fr.of (e2.trans e3)).tr (fr_slH (by rw [hFt]; simp) (by rw [hFt]; simp))
    have kn4 : Kn B H1 (slH H3 i.a C dx (pws { i.s with made := i.s.made + 1 } li ll lt)) (slH G3 i.a C dx (pws { i.s with made := i.s.made + 1 } li ll lt)) := kn4
    have mm : ∀ {G} {s' : PSt} {rs}, PA5 C G s' i.a dx li ll lt rs → s'.made = i.s.made + 1 → EvP (tOp (rI0 fun i j => .int (i - j)) (tSl K (tVar 0) "own_made") (tC (.int 1))) (start ["self", "number", "beat"] [.ref i.a]) G (is (.int i.s.made)) := fun h' e => by
      have := ep_sub (j := 1) (Ev.int (pv_made (K := K) L h' (ev_var (σ := start ["self", "number", "beat"] [.ref i.a]) (i := 0) rfl))) ep_int
      rw [e, Int.add_sub_cancel] at this
      exact this
    refine q_seq (q_append (P := is (.int i.s.made)) mo_is kn4 ol h4.hl ?_ (pv_lent L h4 (ev_var rfl)) (mm h4 rfl) fun v5 H5 G5 kn5 e5 p5 kn6 => ?_)
    · rw [List.length_map]; show i.s.lent.length < 100000; omega
    rw [De.int' p5] at kn6 ⊢
    have e6 : (i.s.lent.map V.int ++ [V.int i.s.made]) = (i.s.lent ++ [i.s.made]).map V.int := by simp
    have kn6 : Kn B H1 (upd H5 ll (.lst (i.s.lent.map V.int ++ [V.int i.s.made]))) (upd G5 ll (.lst (i.s.lent.map V.int ++ [V.int i.s.made]))) := kn6
    have h6 := (h4.mono e5).setLent (l' := i.s.lent ++ [i.s.made])
    rw [← e6] at h6
    have f6 := (f4.tr (Fr.of e5)).tr (fr_upd (G := G5) (D := ll) (o := .lst (i.s.lent.map V.int ++ [V.int i.s.made])) (by rw [hFt]; simp))
    refine q_seq (q_append (P := is (.int i.s.made)) mo_is kn6 ot h6.ht ?_ (pv_there L h6 (ev_var rfl)) (mm h6 rfl) fun v7 H7 G7 kn7 e7 p7 kn8 => ?_)
    · rw [List.length_map]; show i.s.there.length < 100000; omega
    rw [De.int' p7] at kn8 ⊢
    have e8 : (i.s.there.map V.int ++ [V.int i.s.made]) = (i.s.there ++ [i.s.made]).map V.int := by simp
    have kn8 : Kn B H1 (upd H7 lt (.lst (i.s.there.map V.int ++ [V.int i.s.made]))) (upd G7 lt (.lst (i.s.there.map V.int ++ [V.int i.s.made]))) := kn8
    have h8 := (h6.mono e7).setThere (l' := i.s.there ++ [i.s.made])
    rw [← e8] at h8
    have f8 := (f6.tr (Fr.of e7)).tr (fr_upd (G := G7) (D := lt) (o := .lst (i.s.there.map V.int ++ [V.int i.s.made])) (by rw [hFt]; simp))
    refine q_ret kn8 (mm h8 rfl) fun v9 H9 G9 kn9 e9 p9 => fin kn9 (h8.mono e9) (f8.tr (Fr.of e9)) ?_ ?_
    · rw [De.int' p9]; unfold takeR; rw [if_pos hemp]
    · unfold takeR; rw [if_pos hemp]
  · have hne : i.s.idle ≠ [] := by
      intro q
      rw [q] at hb
      simp at hb
    obtain ⟨hp0, hpl⟩ := plc_lt hne hd
    have h2 := h.mono e2
    have pp : EvP (tMethSl C (spPPlace C) E0 (tVar 0) tNil) (start ["self", "number", "beat"] [.ref i.a]) G2 (is (.int (plc i.s))) :=
      ep_pm (R := fun s => is (.int (plc s))) (ep_var (v := .ref i.a) rfl ⟨i.a, _, rfl, h2.at⟩ mo_P)
    refine q_next (q_seq (q_popRow (j := (plc i.s).toNat) kn2 oi h2.hi h2.hr (pv_idle L h2 (ev_var rfl)) pp (by omega) hpl (by omega) fun H3 G3 kn3 e3 kn4 => ?_))
    have h4 := (h2.mono e3).setIdle (rs' := rs.eraseIdx (plc i.s).toNat) (idle' := i.s.idle.eraseIdx (plc i.s).toNat) (by rw [map_erase]; exact (h2.mono e3).hr.erase _)
    have f4 := (Fr.of (Ft := i.Ft) (e2.trans e3)).tr (fr_upd (G := G3) (D := li) (o := .lst (rs.eraseIdx (plc i.s).toNat)) (by rw [hFt]; simp))
    refine q_seq (q_append (P := is (.int (i.s.idle.getD (plc i.s).toNat (0, 0)).1)) mo_is kn4 ol h4.hl ?_ (pv_lent L h4 (ev_var rfl)) (ep_d rfl (.int _)) fun v5 H5 G5 kn5 e5 p5 kn6 => ?_)
    · rw [List.length_map]; show i.s.lent.length < 100000; omega
    rw [De.int' p5] at kn6 ⊢
    have e6 : (i.s.lent.map V.int ++ [V.int (i.s.idle.getD (plc i.s).toNat (0, 0)).1]) = (i.s.lent ++ [(i.s.idle.getD (plc i.s).toNat (0, 0)).1]).map V.int := by simp
    have kn6 : Kn B H1 (upd H5 ll (.lst (i.s.lent.map V.int ++ [V.int (i.s.idle.getD (plc i.s).toNat (0, 0)).1]))) (upd G5 ll (.lst (i.s.lent.map V.int ++ [V.int (i.s.idle.getD (plc i.s).toNat (0, 0)).1]))) := kn6
    have h6 := (h4.mono e5).setLent (l' := i.s.lent ++ [(i.s.idle.getD (plc i.s).toNat (0, 0)).1])
    rw [← e6] at h6
    have f6 := (f4.tr (Fr.of e5)).tr (fr_upd (G := G5) (D := ll) (o := .lst (i.s.lent.map V.int ++ [V.int (i.s.idle.getD (plc i.s).toNat (0, 0)).1])) (by rw [hFt]; simp))
    refine q_ret kn6 (P := is (.int (i.s.idle.getD (plc i.s).toNat (0, 0)).1)) (ep_d rfl (.int _)) fun v9 H9 G9 kn9 e9 p9 => fin kn9 (h6.mono e9) (f6.tr (Fr.of e9)) ?_ ?_
    · rw [De.int' p9]; unfold takeR; rw [if_neg hne]
    · unfold takeR; rw [if_neg hne]
end
end Q
/-! K75P3 -/
set_option Elab.async false
set_option linter.all false
set_option maxRecDepth 100000
set_option maxHeartbeats 4000000
/-! The pool: give, pass_on. -/
namespace Q
open PySem PySem.Spec PyProof.Rows L2 Evl SlX
open M (Ln Fr)
theorem kNinD (K : PySem.W.Frag) {X : Cx} (hu : X.A.units + 65 < cLine) (h : X.K = K := by rfl) : OpR X (compareOp .NotIn) (rNotInD K) := by subst h; exact op_notInD hu
theorem pr_eqv (p q : Int × Int) : PyData.eqv (pr p) (pr q) = decide (p = q) := by
  unfold pr
  simp only [PyData.eqv, PyData.eqvAll, Bool.and_true]
  rw [Bool.eq_iff_iff]
  simp only [Bool.and_eq_true, beq_iff_eq, decide_eq_true_eq, Prod.ext_iff]
theorem pr_shaped (p : Int × Int) : SeqAt.shaped (pr p) = true := by
  unfold SeqAt.shaped pr
  simp [PyData.canLay0, PyData.canLayAll0, PyData.depth, PyData.depthAll]
theorem prs_shaped (l : List (Int × Int)) : SeqAt.shaped (.list (l.map pr)) = true := by
  unfold SeqAt.shaped
  rw [Bool.and_eq_true, decide_eq_true_eq]
  refine ⟨by simp [PyData.canLay0, prs_lay], ?_⟩
  have := prs_depth l
  simp only [PyData.depth]
  omega
section
variable {σ : L2.St} {B : Hp} {ta tb : TE} {K : PySem.W.Frag}
theorem ep_notInPr {p : Int × Int} {l : List (Int × Int)} (ha : EvP ta σ B (is (pr p))) (hb : EvP tb σ B (is (.list (l.map pr)))) : EvP (tOp (rNotInD K) ta tb) σ B (is (.bool (!decide (p ∈ l)))) :=
  ep_op ha mo_is hb mo_is fun G x y e p1 p2 => fun H1 e1 Q q => by
    refine ⟨_, _, (p1.mono e1).dp, (p2.mono e1).dp, pr_shaped p, prs_shaped l, ?_⟩
    have h : ((l.map pr).any fun z => PyData.eqv z (pr p)) = decide (p ∈ l) := by
      rw [List.any_map, Bool.eq_iff_iff, List.any_eq_true, decide_eq_true_eq]
      constructor
      · rintro ⟨z, hz, e⟩
        have e : PyData.eqv (pr z) (pr p) = true := e
        rw [pr_eqv, decide_eq_true_eq] at e
        exact e ▸ hz
      · intro h
        refine ⟨p, h, ?_⟩
        show PyData.eqv (pr p) (pr p) = true
        rw [pr_eqv]
        simp
    rw [h]
    exact q _ H1 (Ex.refl _) (.bl _)
end
theorem q_bm {B H1 H G : Hp} {σ : L2.St} {ta : TE} {t : TA} {nx : L2.St → Hp → Prop} {rt : VK} {bk ct : L2.St → Hp → Prop} {K : PySem.W.Frag} {D : Addr} {xs : List V} {r : V → List V → Hp → VK → Prop} (kn : Kn B H1 H G) (hG : G D = some (.lst xs)) (ho : Ev ta σ G (.ref D))
    (k : ∀ H2, Ex H H2 → t σ H2 fun vs H3 => r (.ref D) vs H3 fun _ H4 => nx σ H4) : tDrop (tBM K "list" r ta t) ⟨nx, rt, bk, ct⟩ σ H :=
  ho H kn.le _ fun H2 e2 => ⟨Or.inl ⟨rfl, xs, sq_of (e2 _ _ (kn.le _ _ hG))⟩, k H2 e2⟩
section
variable {P : Program} {w : World} {K : PySem.W.Frag} {mg : Str → Option Value} {base : Heap} {C : Addr}
/-! ### give -/
def giveR (s : PSt) (n : Int) : PSt := { s with lent := s.lent.eraseIdx (s.lent.idxOf n), idle := (n, s.now) :: s.idle }
def AGive (C : Addr) (i : PI × Int) : Hp → Hp → List V → Prop := fun B G vs => vs = [.ref i.1.a, .int i.2] ∧ PAt C G i.1.a i.1.Ft i.1.s ∧ Own B i.1.Ft ∧ SmP i.1.s ∧ i.2 ∈ i.1.s.lent
def spPGive (C : Addr) : Sp := spR (AGive C) fun i B G G' v => v = .non ∧ Goes0 C i.1 (giveR i.1.s i.2) G G'
abbrev dPGive (a : Fg → Addr) : Df := ⟨a, "give", "Pool.give", sPGive, []⟩
theorem scPGive : FnScope ["self", "number"] ["self", "number"] (defScope sPGive) := ⟨rfl, rfl, rfl, by decide +kernel, rfl, by decide +kernel, by decide +kernel⟩
theorem idxOf_at {ns : List Int} {k : Int} (h : k ∈ ns) : ns[ns.idxOf k]? = some k ∧ ∀ m, m < ns.idxOf k → ns[m]? ≠ some k := by
  refine ⟨?_, fun m hm q => ?_⟩
  · have hl := List.idxOf_lt_length_of_mem h
    rw [List.getElem?_eq_getElem hl, List.getElem_idxOf]
  · have := List.not_of_lt_findIdx hm
    have hml : m < ns.length := (List.getElem?_eq_some_iff.mp q).1
    rw [List.getElem?_eq_getElem hml] at q
    have q := Option.some.inj q
    rw [q] at this
    simp at this
theorem ok_PGive {a : Fg → Addr} {f : Addr} {fd : FuncData} (F : At K (dPGive a) f fd) (T : Bt mg) (L : PF K C) : FR P w K mg base 1 f (spPGive C) := by
  refine raw0 (d := dPGive a) (fokR F scPGive (fun i B G vs h => by rw [h.1]; rfl) fun cdv A' outer s H E hr => ?_) (F.bindsN fun _ _ _ _ _ _ us hl => match us, hl with | [_, _], _ => rfl)
  refine ⟨_, (pss_cons (ps_if (pt_cmpR op_notIn_seq (pv 1) (pe_sl (pv 0)) rfl) pss_never pss_nil) (pss_cons (ps_expr (pe_bm PySem.F.plainAttrs_list PySem.F.slot_list_remove PySem.F.type_list_remove mt_remove (pe_sl (pv 0)) (pa_cons ((pv 1)) pa_nil))) (pss_one (ps_expr (pe_bm PySem.F.plainAttrs_list PySem.F.slot_list_insert PySem.F.type_list_insert mt_insert (pe_sl (pv 0)) (pa_cons (pe_int) (pa_cons (pe_tup (pa_cons ((pv 1)) (pa_cons (pe_sl (pv 0)) pa_nil))) pa_nil))))))), fun i B H1 H G vs rt h kn hret => ?_⟩
  obtain ⟨rfl, ⟨dx, li, ll, lt, rs, hFt, h⟩, own, ⟨hz1, hz2, hz3, hd⟩, hmem⟩ := h
  have oi : B li = none := own _ (by rw [hFt]; simp)
  have ol : B ll = none := own _ (by rw [hFt]; simp)
  have sv : ∀ {G2}, Ex G G2 → Ev (tVar 0) (start ["self", "number"] [.ref i.1.a, .int i.2]) G2 (.ref i.1.a) := fun _ => ev_var rfl
  have e0 := ep_in (K := K) (neg := true) (ep_d (B := G) (σ := start ["self", "number"] [.ref i.1.a, .int i.2]) (i := 1) rfl (.int i.2)) (Ev.lst (pv_lent L h (ev_var (σ := start ["self", "number"] [.ref i.1.a, .int i.2]) (i := 0) rfl)) h.hl (DeA.ints i.1.s.lent))
  refine q_seq (q_if (b := false) kn (et_test' ?_) (fun z => by cases z) fun _ H2 G2 kn2 e2 => q_next ?_)
  · rw [decide_eq_true hmem] at e0
    exact e0
  have h2 := h.mono e2
  -- remove
  obtain ⟨hj, hno⟩ := idxOf_at hmem
  have rem : ∀ {nx rt bk ct}, (∀ H3 G3, Kn B H1 H3 G3 → Ex G2 G3 → Kn B H1 (upd H3 ll (.lst ((i.1.s.lent.eraseIdx (i.1.s.lent.idxOf i.2)).map V.int))) (upd G3 ll (.lst ((i.1.s.lent.eraseIdx (i.1.s.lent.idxOf i.2)).map V.int))) → nx (start ["self", "number"] [.ref i.1.a, .int i.2]) (upd H3 ll (.lst ((i.1.s.lent.eraseIdx (i.1.s.lent.idxOf i.2)).map V.int)))) →
      tDrop (tBM K "list" rRemI (tSl K (tVar 0) "own_lent") (tCons (tVar 1) tNil)) ⟨nx, rt, bk, ct⟩ (start ["self", "number"] [.ref i.1.a, .int i.2]) H2 := fun {nx rt bk ct} k => q_bm kn2 h2.hl (pv_lent L h2 (ev_var (σ := start ["self", "number"] [.ref i.1.a, .int i.2]) (i := 0) rfl)) fun H3 e3 => by
    obtain ⟨k3, e4⟩ := kn2.pure e3
    exact ⟨.int i.2, rfl, ll, i.1.s.lent, i.2, _, rfl, rfl, e3 _ _ (kn2.le _ _ h2.hl), hj, hno, k H3 _ k3 e4 (k3.upd ol (e4 _ _ h2.hl))⟩
  refine q_seq (rem fun H3 G3 kn3 e3 kn4 => ?_)
  have h4 := (h2.mono e3).setLent (l' := i.1.s.lent.eraseIdx (i.1.s.lent.idxOf i.2))
  have f4 := (Fr.of (Ft := i.1.Ft) (e2.trans e3)).tr (fr_upd (G := G3) (D := ll) (o := .lst ((i.1.s.lent.eraseIdx (i.1.s.lent.idxOf i.2)).map V.int)) (by rw [hFt]; simp))
  -- insert
  refine q_bm kn4 h4.hi (pv_idle L h4 (ev_var (σ := start ["self", "number"] [.ref i.1.a, .int i.2]) (i := 0) rfl)) fun H5 e5 => ?_
  have en := pv_now (K := K) L h4 (ev_var (σ := start ["self", "number"] [.ref i.1.a, .int i.2]) (i := 0) rfl)
  have ea : EvA' (tCons (tC (.int 0)) (tCons (tTup (tCons (tVar 1) (tCons (tSl K (tVar 0) "own_now") tNil))) tNil)) (start ["self", "number"] [.ref i.1.a, .int i.2]) (upd G3 ll (.lst ((i.1.s.lent.eraseIdx (i.1.s.lent.idxOf i.2)).map V.int))) (fun G vs => DeA G vs [.int 0, pr (i.2, i.1.s.now)]) :=
    da_cons ep_int (da_cons (ep_tup (da_cons (ep_d rfl (.int i.2)) (da_cons (Ev.int (show Ev _ _ _ (.int i.1.s.now) from en)) da_nil)) (by show 2 ≤ 100000; decide)) da_nil)
  refine ea H5 (kn4.le.trans e5) _ fun vs H6 e6 dvs => ?_
  obtain ⟨v0, v1, rfl, d0, d1⟩ := dvs.two
  have e56 := e5.trans e6
  obtain ⟨k6, e7⟩ := kn4.pure e56
  have hli := e56 _ _ (kn4.le _ _ h4.hi)
  have hrl := h4.hr.len
  rw [List.length_map] at hrl
  have hrl : rs.length = i.1.s.idle.length := hrl
  refine ⟨li, rs, 0, v1, rfl, by rw [De.int' d0], hli, sz_lt (by omega), by omega, by omega, ?_⟩
  show rt .non (upd H6 li (.lst (v1 :: rs)))
  have d1' : De (cut (upd G3 ll (.lst ((i.1.s.lent.eraseIdx (i.1.s.lent.idxOf i.2)).map V.int))) (upd H3 ll (.lst ((i.1.s.lent.eraseIdx (i.1.s.lent.idxOf i.2)).map V.int))) H6) v1 (pr (i.2, i.1.s.now)) := De.mono (cut_later e5) d1
  have h7 := (h4.mono e7).setIdle (rs' := v1 :: rs) (idle' := (i.2, i.1.s.now) :: i.1.s.idle) (.cons d1' (h4.mono e7).hr)
  refine hret .non _ _ (k6.upd oi (e7 _ _ h4.hi)) ⟨rfl, ⟨dx, li, ll, lt, _, hFt, h7⟩, (f4.tr (Fr.of e7)).tr (fr_upd (by rw [hFt]; simp))⟩
end
end Q
/-! K75P4 -/
set_option Elab.async false
set_option linter.all false
set_option maxRecDepth 100000
set_option maxHeartbeats 4000000
/-! The pool: pass_on, wait. -/
namespace Q
open PySem PySem.Spec PyProof.Rows L2 Evl SlX
open M (Ln Fr)
section
variable {P : Program} {w : World} {K : PySem.W.Frag} {mg : Str → Option Value} {base : Heap} {C : Addr}
def goneR (s : PSt) : List (Int × Int) := s.idle.filter fun r => decide (r.2 + s.keep ≤ s.now)
def passR (s : PSt) : PSt := { s with idle := s.idle.filter (fun r => !decide (r.2 + s.keep ≤ s.now)), now := s.now + 1, there := s.there.filter fun n => !decide (n ∈ (goneR s).map (·.1)) }
def APass (C : Addr) (i : PI) : Hp → Hp → List V → Prop := fun B G vs => vs = [.ref i.a] ∧ PAt C G i.a i.Ft i.s ∧ Own B i.Ft ∧ SmP i.s
def spPPass (C : Addr) : Sp := spR (APass C) fun i B G G' v => De G' v (dI ((goneR i.s).map (·.1)).reverse) ∧ Goes' C i (passR i.s) B G G'
abbrev dPPass (a : Fg → Addr) : Df := ⟨a, "pass_on", "Pool.pass_on", sPPass, []⟩
theorem scPPass : FnScope ["self", "gone", "numbers_gone", "row", "number", "beat"] ["self"] (defScope sPPass) := ⟨rfl, rfl, rfl, by decide +kernel, rfl, by decide +kernel, by decide +kernel⟩
/-- a row's part -/
theorem ep_r1 {σ : L2.St} {B : Hp} {ta : TE} {p : Int × Int} (h : EvP ta σ B (is (pr p))) : EvP (tOp (rIxT K) ta (tC (.int 1))) σ B (is (.int p.2)) := ep_ixT (j := 1) h ep_int rfl rfl
theorem PA5.newIdle {G : Hp} {s s' : PSt} {a dx li ll lt li' : Addr} {rs rs' : List V} (h : PA5 C G s a dx li ll lt rs) (h1 : G li' = some (.lst rs')) (hr : DeA G rs' (s'.idle.map pr)) (n1 : li' ≠ ll) (n2 : li' ≠ lt) (e2 : s'.lent = s.lent) (e3 : s'.there = s.there) : PA5 C (slH G a C dx (pws s' li' ll lt)) s' a dx li' ll lt rs' := by
  have n := h.ne
  have a1 : a ≠ li' := fun q => by have := h.ins.o; rw [q, h1] at this; cases this
  have d1 : dx ≠ li' := fun q => by have := h.ins.d; rw [q, h1] at this; cases this
  refine ⟨h.ins.put, n1, n2, h.n3, by rw [slH_ne a1.symm d1.symm]; exact h1, prs_chg (fun b xs q => ?_) hr, by rw [slH_ne n.1.2.1.symm n.2.2.1.symm, e2]; exact h.hl, by rw [slH_ne n.1.2.2.symm n.2.2.2.symm, e3]; exact h.ht⟩
  rw [slH_ne (fun z => by rw [z, h.ins.o] at q; cases q) (fun z => by rw [z, h.ins.d] at q; cases q)]
  exact q
theorem PA5.newThere {G : Hp} {s s' : PSt} {a dx li ll lt lt' : Addr} {rs : List V} (h : PA5 C G s a dx li ll lt rs) (h1 : G lt' = some (.lst (s'.there.map V.int))) (n1 : li ≠ lt') (n2 : ll ≠ lt') (e1 : s'.idle = s.idle) (e2 : s'.lent = s.lent) : PA5 C (slH G a C dx (pws s' li ll lt')) s' a dx li ll lt' rs := by
  have n := h.ne
  have a1 : a ≠ lt' := fun q => by have := h.ins.o; rw [q, h1] at this; cases this
  have d1 : dx ≠ lt' := fun q => by have := h.ins.d; rw [q, h1] at this; cases this
  refine ⟨h.ins.put, h.n1, n1, n2, by rw [slH_ne n.1.1.symm n.2.1.symm]; exact h.hi, ?_, by rw [slH_ne n.1.2.1.symm n.2.2.1.symm, e2]; exact h.hl, by rw [slH_ne a1.symm d1.symm]; exact h1⟩
  rw [e1]
  refine prs_chg (fun b xs q => ?_) h.hr
  rw [slH_ne (fun z => by rw [z, h.ins.o] at q; cases q) (fun z => by rw [z, h.ins.d] at q; cases q)]
  exact q
theorem de_slH {G : Hp} {a dx : Addr} {ws ws' : List (Option V)} (h : Ins C G a dx ws) {v : V} {d : PyData} (hd : De G v d) : De (slH G a C dx ws') v d := hd.chg fun b o q s => by
  rw [slH_ne (fun z => by rw [z, h.o] at q; cases q; exact sq_slO s) (fun z => by rw [z, h.d] at q; cases q; exact sq_xd s)]
  exact q
theorem dm_slH {G : Hp} {a dx : Addr} {ws : List (Option V)} : Dm G (slH G a C dx ws) := fun b h => by
  unfold slH at h
  by_cases q : b = a
  · rw [q, upd_same] at h; cases h
  · rw [upd_ne q] at h
    by_cases r : b = dx
    · rw [r, upd_same] at h; cases h
    · rw [upd_ne r] at h; exact h
theorem mo_F {B : Hp} {d : PyData} : Mo (isF B d) := fun _ _ _ e h => ⟨h.1, h.2.mono e⟩
theorem ok_PPass {a : Fg → Addr} {f : Addr} {fd : FuncData} (F : At K (dPPass a) f fd) (T : Bt mg) (L : PF K C) : FR P w K mg base 1 f (spPPass C) := by
  refine raw0 (d := dPPass a) (fokR F scPPass (fun i B G vs h => by rw [h.1]; rfl) fun cdv A' outer s H E hr => ?_) (F.bindsN fun _ _ _ _ _ _ us hl => match us, hl with | [_], _ => rfl)
  refine ⟨_, (pss_cons ((ps_asg ((pe_lc (own := [("row", 3)]) (g := gName 3) rfl scPPass.nd (kLst K (kSl K (pv 0))) (blkOk_by (N := ["self", "gone", "numbers_gone", "row", "number", "beat"]) (sc := defScope sPPass) (by decide +kernel)) (fun _ _ _ _ _ => pg_name (i := 3) scPPass.nd rfl (by first | exact Or.inl rfl | exact Or.inr rfl)) (fun _ _ _ _ _ => pts_one (pt_cmpR op_le (pe_op op_add (kIxT K (pv 3) pe_int) (kSl K (pv 0))) (kSl K (pv 0)) rfl)) (fun _ _ _ _ _ => (pv 3)))) (pg_name (i := 1) scPPass.nd rfl (by first | exact Or.inl rfl | exact Or.inr rfl)))) (pss_cons (ps_sl (pv 0) (pe_lc (own := [("row", 3)]) (g := gName 3) rfl scPPass.nd (kLst K (kSl K (pv 0))) (blkOk_by (N := ["self", "gone", "numbers_gone", "row", "number", "beat"]) (sc := defScope sPPass) (by decide +kernel)) (fun _ _ _ _ _ => pg_name (i := 3) scPPass.nd rfl (by first | exact Or.inl rfl | exact Or.inr rfl)) (fun _ _ _ _ _ => pts_one (pt_cmpR (kNinD K (by have := hr.un; show (A'.deeper _).units + 65 < _; omega)) (pv 3) (pv 1) rfl)) (fun _ _ _ _ _ => (pv 3)))) (pss_cons (ps_slAug (pv 0) pe_int in_add) (pss_cons ((ps_asg ((pe_lc (own := [("number", 4), ("beat", 5)]) (g := (gTup K 2 (gCons (gName 4) (gCons (gName 5) gNil)))) (tt := tYes) rfl scPPass.nd (kLst K (pv 1)) (blkOk_by (N := ["self", "gone", "numbers_gone", "row", "number", "beat"]) (sc := defScope sPPass) (by decide +kernel)) (fun _ _ _ _ _ => pg_tup (n := 2) rfl (pgs_cons (pg_name (i := 4) scPPass.nd rfl (by first | exact Or.inl rfl | exact Or.inr rfl)) (pgs_cons (pg_name (i := 5) scPPass.nd rfl (by first | exact Or.inl rfl | exact Or.inr rfl)) pgs_nil))) (fun _ _ _ _ _ => pts_nil) (fun _ _ _ _ _ => (pv 4)))) (pg_name (i := 2) scPPass.nd rfl (by first | exact Or.inl rfl | exact Or.inr rfl)))) (pss_cons (ps_sl (pv 0) (pe_lc (own := [("number", 4)]) (g := gName 4) rfl scPPass.nd (kLst K (kSl K (pv 0))) (blkOk_by (N := ["self", "gone", "numbers_gone", "row", "number", "beat"]) (sc := defScope sPPass) (by decide +kernel)) (fun _ _ _ _ _ => pg_name (i := 4) scPPass.nd rfl (by first | exact Or.inl rfl | exact Or.inr rfl)) (fun _ _ _ _ _ => pts_one (pt_cmpR (kNin K) (pv 4) (pv 2) rfl)) (fun _ _ _ _ _ => (pv 4)))) (pss_one (ps_ret (pe_revL (pv 2))))))))), fun i B H1 H G vs rt h kn hret => ?_⟩
  obtain ⟨rfl, ⟨dx, li, ll, lt, rs, hFt, h⟩, own, hz1, hz2, hz3, hd⟩ := h
  have oa : B i.a = none := own _ (by rw [hFt]; simp)
  have od : B dx = none := own _ (by rw [hFt]; simp)
  obtain ⟨pi, ti⟩ := L.idle
  obtain ⟨pn, tn⟩ := L.now
  obtain ⟨pt, tt⟩ := L.there
  have ma : i.a ∈ i.Ft := by rw [hFt]; simp
  have md : dx ∈ i.Ft := by rw [hFt]; simp
  -- gone
  refine q_seq (q_asg kn (ep_lcF (l := i.s.idle) (ι := pr) (fun r => decide (r.2 + i.s.keep ≤ i.s.now)) pr (wi_list (Ev.lst (pv_idle L h (ev_var rfl)) h.hi h.hr)) (by omega) fun r G2 hr2 e2 => tg_name fun y hy => ⟨rfl, et_test' (ep_le (ep_add (ep_r1 (ep_d rfl hy)) (Ev.int (pv_keep L (h.mono e2) (ev_var rfl)))) (Ev.int (pv_now L (h.mono e2) (ev_var rfl)))), fun _ => ep_d rfl hy⟩) fun vg H2 G2 kn2 e2 pg => ?_)
  obtain ⟨⟨ag, rfl, hag⟩, dg⟩ := pg
  have h2 := h.mono e2
  -- own_idle
  refine q_seq (q_set (P := isF G2 (.list ((i.s.idle.filter fun r => !decide (r ∈ goneR i.s)).map pr))) ?_ L.c ti kn2 h2.ins oa od (ev_var rfl) (ep_lcF (l := i.s.idle) (ι := pr) (fun r => !decide (r ∈ goneR i.s)) pr (wi_list (Ev.lst (pv_idle L h2 (ev_var rfl)) h2.hi h2.hr)) (by omega) fun r G3 hr2 e3 => tg_name fun y hy => ⟨rfl, et_test' (ep_notInPr (ep_d rfl hy) (ep_d rfl (dg.mono e3))), fun _ => ep_d rfl hy⟩) fun vi H3 G3 kn3 e3 pi' kn4 => ?_)
  · exact mo_F
  obtain ⟨⟨li', rfl, hli'⟩, di⟩ := pi'
  obtain ⟨rs', hi', hr'⟩ : ∃ rs', G3 li' = some (.lst rs') ∧ DeA G3 rs' ((i.s.idle.filter fun r => !decide (r ∈ goneR i.s)).map pr) := by
    cases di with
    | lst k1 k2 => exact ⟨_, k1, k2⟩
  have efil : i.s.idle.filter (fun r => !decide (r ∈ goneR i.s)) = (passR i.s).idle := by
    apply List.filter_congr
    intro r hr
    congr 1
    apply decide_eq_decide.mpr
    unfold goneR
    rw [List.mem_filter, decide_eq_true_eq]
    exact ⟨fun h => h.2, fun h => ⟨hr, h⟩⟩
  rw [efil] at hr'
  have nl : li' ≠ ll := fun q => by rw [q, h2.hl] at hli'; cases hli'
  have nt : li' ≠ lt := fun q => by rw [q, h2.ht] at hli'; cases hli'
  have h4 := (h2.mono e3).newIdle (s' := { i.s with idle := (passR i.s).idle }) hi' hr' nl nt rfl rfl
  rw [show putS 1 (V.ref li') (pws i.s li ll lt) = pws { i.s with idle := (passR i.s).idle } li' ll lt from rfl] at kn4 ⊢
  have dg4 : De (slH G3 i.a C dx (pws { i.s with idle := (passR i.s).idle } li' ll lt)) (.ref ag) (.list ((goneR i.s).map pr)) := de_slH (h2.mono e3).ins (dg.mono e3)
  have f4 : Fr i.Ft G (slH G3 i.a C dx (pws { i.s with idle := (passR i.s).idle } li' ll lt)) := (Fr.of (e2.trans e3)).tr (fr_slH ma md)
  have m4 : Dm G (slH G3 i.a C dx (pws { i.s with idle := (passR i.s).idle } li' ll lt)) := fun b hb => fresh_back (e2.trans e3) (dm_slH b hb)
  generalize slH G3 i.a C dx (pws { i.s with idle := (passR i.s).idle } li' ll lt) = G4 at kn4 h4 dg4 f4 m4
  generalize slH H3 i.a C dx (pws { i.s with idle := (passR i.s).idle } li' ll lt) = H4 at kn4 ⊢
  -- own_now
  refine q_seq (q_augI (g := fun i j => i + j) (n := 1) L.c tn kn4 h4.ins oa od (ev_var rfl) rfl ev_c (fun H Q q => ⟨_, _, rfl, rfl, q⟩) fun H5 G5 kn5 e5 kn6 => ?_)
  have h6 := (h4.mono e5).setSl (s' := { i.s with idle := (passR i.s).idle, now := i.s.now + 1 }) rfl rfl rfl
  rw [show putS 5 (V.int (i.s.now + 1)) (pws { i.s with idle := (passR i.s).idle } li' ll lt) = pws { i.s with idle := (passR i.s).idle, now := i.s.now + 1 } li' ll lt from rfl] at kn6 ⊢
  have dg6 := de_slH (ws' := pws { i.s with idle := (passR i.s).idle, now := i.s.now + 1 } li' ll lt) (h4.mono e5).ins (dg4.mono e5)
  have f6 : Fr i.Ft G (slH G5 i.a C dx (pws { i.s with idle := (passR i.s).idle, now := i.s.now + 1 } li' ll lt)) := (f4.tr (Fr.of e5)).tr (fr_slH ma md)
  have m6 : Dm G (slH G5 i.a C dx (pws { i.s with idle := (passR i.s).idle, now := i.s.now + 1 } li' ll lt)) := fun b hb => m4 b (fresh_back e5 (dm_slH b hb))
  generalize slH G5 i.a C dx (pws { i.s with idle := (passR i.s).idle, now := i.s.now + 1 } li' ll lt) = G6 at kn6 h6 dg6 f6 m6
  generalize slH H5 i.a C dx (pws { i.s with idle := (passR i.s).idle, now := i.s.now + 1 } li' ll lt) = H6 at kn6 ⊢
  -- numbers_gone
  have lg : (goneR i.s).length ≤ 1000 := Nat.le_trans (List.length_filter_le _ _) hz1
  refine q_seq (q_asg kn6 (ep_lcm (l := goneR i.s) (ι := pr) (fun r => .int r.1) (wi_list (ep_d rfl dg6)) (by omega) fun r G7 _ e7 => tg_pr ⟨rfl, ep_d rfl (.int _)⟩) fun vn H7 G7 kn7 e7 dn' => ?_)
  have dn7 : De G7 vn (dI ((goneR i.s).map (·.1))) := by
    have e : ((goneR i.s).map (·.1)).map PyData.int = (goneR i.s).map fun r => .int r.1 := by rw [List.map_map]; rfl
    unfold dI
    rw [e]
    exact dn'
  have h7 := h6.mono e7
  -- own_there
  refine q_seq (q_set (P := isF G7 (.list ((i.s.there.filter fun n => !decide (n ∈ (goneR i.s).map (·.1))).map .int))) mo_F L.c tt kn7 h7.ins oa od (ev_var rfl) (ep_lcF (l := i.s.there) (ι := .int) (fun n => !decide (n ∈ (goneR i.s).map (·.1))) .int (wi_list (Ev.lst (pv_there L h7 (ev_var rfl)) h7.ht (DeA.ints i.s.there))) (by omega) fun n G8 hn e8 => tg_name fun y hy => ⟨rfl, et_test' (ep_in (neg := true) (ep_d rfl hy) (ep_d rfl (dn7.mono e8))), fun _ => ep_d rfl hy⟩) fun vt H8 G8 kn8 e8 pt' kn9 => ?_)
  obtain ⟨⟨lt', rfl, hlt'⟩, dt⟩ := pt'
  have ht' : G8 lt' = some (.lst ((passR i.s).there.map V.int)) := by
    cases dt with
    | lst k1 k2 =>
      rw [k2.ints'] at k1
      exact k1
  have nl' : li' ≠ lt' := fun q => by rw [← q, h7.hi] at hlt'; cases hlt'
  have nl2 : ll ≠ lt' := fun q => by rw [← q, h7.hl] at hlt'; cases hlt'
  have h9 := (h7.mono e8).newThere (s' := passR i.s) ht' nl' nl2 rfl rfl
  rw [show putS 6 (V.ref lt') (pws { i.s with idle := (passR i.s).idle, now := i.s.now + 1 } li' ll lt) = pws (passR i.s) li' ll lt' from rfl] at kn9 ⊢
  have dn9 := de_slH (ws' := pws (passR i.s) li' ll lt') (h7.mono e8).ins (dn7.mono e8)
  have f9 : Fr i.Ft G (slH G8 i.a C dx (pws (passR i.s) li' ll lt')) := (f6.tr (Fr.of (e7.trans e8))).tr (fr_slH ma md)
  refine q_ret kn9 (P := is (dI ((goneR i.s).map (·.1)).reverse)) ?_ fun v10 H10 G10 kn10 e10 d10 => hret v10 H10 G10 kn10 ⟨d10, [i.a, dx, li', ll, lt'], ⟨dx, li', ll, lt', _, rfl, h9.mono e10⟩, fun b hb => ?_, f9.tr (Fr.of e10)⟩
  · have e : dI ((goneR i.s).map (·.1)).reverse = .list (((goneR i.s).map (·.1)).map PyData.int).reverse := by unfold dI; rw [List.map_reverse]
    rw [e]
    exact ep_rev (ep_d rfl dn9)
  · simp only [List.mem_cons, List.mem_nil_iff, or_false] at hb
    have gB : ∀ {b}, G b = none → B b = none := fun h => fresh_back kn.base h
    rcases hb with rfl | rfl | rfl | rfl | rfl
    · exact .inl ma
    · exact .inl md
    · exact .inr ⟨fresh_back e2 hli', gB (fresh_back e2 hli')⟩
    · exact .inl (by rw [hFt]; simp)
    · have : G b = none := m6 _ (fresh_back e7 hlt')
      exact .inr ⟨this, gB this⟩
end
end Q
/-! K75P5 -/
set_option Elab.async false
set_option linter.all false
set_option maxRecDepth 100000
set_option maxHeartbeats 4000000
/-! The pool: wait, made. -/
namespace Q
open PySem PySem.Spec PyProof.Rows L2 Evl SlX
open M (Ln Fr)
section
variable {P : Program} {w : World} {K : PySem.W.Frag} {mg : Str → Option Value} {base : Heap} {C : Addr}
def AWait (C : Addr) (i : PI) : Hp → Hp → List V → Prop := fun B G vs => vs = [.ref i.a, .int 1] ∧ PAt C G i.a i.Ft i.s ∧ Own B i.Ft ∧ SmP i.s
def spPWait (C : Addr) : Sp := spR (AWait C) fun i B G G' v => De G' v (dI ((goneR i.s).map (·.1)).reverse) ∧ Goes' C i (passR i.s) B G G'
abbrev dPWait (a : Fg → Addr) : Df := ⟨a, "wait", "Pool.wait", sPWait, [.int 1]⟩
theorem scPWait : FnScope ["self", "beats", "found", "turn"] ["self", "beats"] (defScope sPWait) := ⟨rfl, rfl, rfl, by decide +kernel, rfl, by decide +kernel, by decide +kernel⟩
theorem mem_ft {C : Addr} {G : Hp} {s : PSt} {a : Addr} {Ft : List Addr} (h : PAt C G a Ft s) {b : Addr} (hb : b ∈ Ft) : ∃ o, G b = some o := by
  obtain ⟨dx, li, ll, lt, rs, rfl, h⟩ := h
  simp only [List.mem_cons, List.mem_nil_iff, or_false] at hb
  rcases hb with rfl | rfl | rfl | rfl | rfl
  · exact ⟨_, h.ins.o⟩
  · exact ⟨_, h.ins.d⟩
  · exact ⟨_, h.hi⟩
  · exact ⟨_, h.hl⟩
  · exact ⟨_, h.ht⟩
theorem PAt.upd {G : Hp} {s : PSt} {a D : Addr} {o : HO} {Ft : List Addr} (h : PAt C G a Ft s) (hD : D ∉ Ft) (ht : ∀ xs, G D ≠ some (.tup xs)) : PAt C (upd G D o) a Ft s := by
  obtain ⟨dx, li, ll, lt, rs, rfl, h⟩ := h
  have n : ∀ {b}, b ∈ [a, dx, li, ll, lt] → b ≠ D := fun hb q => hD (q ▸ hb)
  exact ⟨dx, li, ll, lt, rs, rfl, h.ins.keep (n (by simp)) (n (by simp)), h.n1, h.n2, h.n3, by rw [upd_ne (n (by simp))]; exact h.hi, prs_chg (tp_upd ht) h.hr, by rw [upd_ne (n (by simp))]; exact h.hl, by rw [upd_ne (n (by simp))]; exact h.ht⟩
theorem ok_PWait {a : Fg → Addr} {f : Addr} {fd : FuncData} (F : At K (dPWait a) f fd) (T : Bt mg) (L : PF K C) (PO : MR P w K mg base 1 C "pass_on" (spPPass C)) : FR P w K mg base 2 f (fun vs H Q E => spPWait C (vs ++ [.int 1]) H Q E) := by
  obtain ⟨ds, hds, hb⟩ := F.binds1 (ps := ["self", "beats"]) 1 0 (by simp) rfl fun T kV doc pm an cdv ct us its h1 h2 => match us, its, h1, h2 with | [_], [_], _, _ => ⟨_, rfl, rfl⟩
  refine FnOk.raw (fokR F scPWait (fun i B G vs h => by rw [h.1]; rfl) fun cdv A' outer s H E hr => ?_) hb hds
  refine ⟨_, (pss_cons ((ps_asg (pe_lst pa_nil) (pg_name (i := 2) scPWait.nd rfl (by first | exact Or.inl rfl | exact Or.inr rfl)))) (pss_cons ((ps_for PassesOwn.never rfl (pi_range1 (by rfl) T.range (pa_cons ((pv 1)) pa_nil)) (pg_name (i := 3) scPWait.nd rfl (by first | exact Or.inl rfl | exact Or.inr rfl)) ((pss_one ((ps_expr (pe_bm PySem.F.plainAttrs_list PySem.F.slot_list_extend PySem.F.type_list_extend mt_extend ((pv 2)) (pa_cons (pe_m0 PO hr (Nat.le_refl _) (pv 0)) pa_nil)))))))) (pss_one (ps_ret (pv 2))))), fun i B H1 H G vs rt h kn hret => ?_⟩
  obtain ⟨rfl, hp, own, hz⟩ := h
  have kn0 := kn
  refine q_seq (q_new mk_lst kn fun D hD hBD kn => ?_)
  have hDF : D ∉ i.Ft := fun q => by obtain ⟨o, ho⟩ := mem_ft hp q; rw [hD] at ho; cases ho
  have hp1 : PAt C (L2.upd G D (.lst [])) i.a i.Ft i.s := hp.upd hDF fun xs q => by rw [hD] at q; cases q
  refine q_seq (q_for (α := Nat) (l := List.range 1) (ι := fun n => .int (n : Nat)) (fun _ => none) kn (fun _ _ q => by cases q) (wi_range (n := 1) (da_cons (d := .int (1 : Nat)) (ep_d rfl (.int 1)) da_nil) (by decide))
    (fun j σ G' => ∃ x, σ = [some (.ref i.a), some (.int 1), some (.ref D), x] ∧ ((j = 0 ∧ PAt C G' i.a i.Ft i.s ∧ G' D = some (.lst []) ∧ Fr i.Ft G G') ∨ (j = 1 ∧ Goes' C i (passR i.s) B G G' ∧ G' D = some (.lst (((goneR i.s).map (·.1)).reverse.map V.int))))) ⟨_, rfl, .inl ⟨rfl, hp1, upd_same, fun b o n q => by rw [upd_ne (ne_of_none q hD)]; exact q⟩⟩ ?_ ?_ ?_)
  · rintro j σ G1 G2 ⟨x, e, h⟩ e'
    refine ⟨x, e, ?_⟩
    rcases h with ⟨h1, h2, h3, h4⟩ | ⟨h1, ⟨Ft', h2, h3, h4⟩, h5⟩
    · exact .inl ⟨h1, h2.mono e', e' _ _ h3, h4.tr (Fr.of e')⟩
    · exact .inr ⟨h1, ⟨Ft', h2.mono e', h3, h4.tr (Fr.of e')⟩, e' _ _ h5⟩
  · rintro j b Gw σ H' G' hj _ frs eGw kn' ⟨x, rfl, h⟩
    obtain ⟨rfl, hj1⟩ := range_at hj
    have hj0 : b = 0 := by omega
    subst hj0
    rcases h with ⟨_, h2, h3, h4⟩ | ⟨h1, _⟩
    · refine ⟨fun σ2 => σ2 = [some (.ref i.a), some (.int 1), some (.ref D), some (.int 0)], tg_name fun y hy => by rw [De.int' hy]; rfl, ?_⟩
      rintro σ2 rfl
      obtain ⟨dx, li, ll, lt, rs, hFt, h5⟩ := id h2
      refine q_bm kn' h3 (ev_var rfl) fun H2 e2 => ?_
      obtain ⟨k2, e3⟩ := kn'.pure e2
      refine ⟨.ref i.a, rfl, i.a, dx, _, rfl, (h5.ins.mono (kn'.le.trans e2)).slt, ⟨i.s, i.a, i.Ft⟩, B, H1, _, k2, ⟨rfl, h2.mono e3, own, hz⟩, fun v H3 G3 kn3 ⟨dv, Ft', g1, g2, g3⟩ => ?_⟩
      have hD3 : G3 D = some (.lst []) := g3 _ _ hDF (e3 _ _ h3)
      have hDF' : D ∉ Ft' := fun q => by
        rcases g2 D q with z | z
        · exact hDF z
        · rw [e3 _ _ h3] at z; cases z.1
      obtain ⟨bb, xs, rfl, k1, k2'⟩ := De.lst' dv
      rw [k2'.ints'] at k1
      have hg := goneR i.s
      refine ⟨D, bb, [], _, rfl, rfl, kn3.le _ _ hD3, kn3.le _ _ k1, sz_of (by
        simp only [List.length_nil, List.length_map, List.length_reverse]
        have := List.length_filter_le (fun r : Int × Int => decide (r.2 + i.s.keep ≤ i.s.now)) i.s.idle
        have := hz.1
        unfold goneR
        omega), ?_⟩
      have frG : Fr i.Ft G (L2.upd G3 D (.lst ([] ++ ((goneR i.s).map (·.1)).reverse.map V.int))) := fun b o n q => by
        rw [upd_ne (ne_of_none q hD)]
        exact g3 b o n (e3 _ _ (h4 b o n q))
      refine ⟨_, kn3.upd hBD hD3, fun b o q => ?_, _, rfl, .inr ⟨rfl, ⟨Ft', g1.upd hDF' (fun xs q => by rw [hD3] at q; cases q), ?_, frG⟩, by rw [upd_same]; rfl⟩⟩
      · have nD : b ≠ D := fun z => by
          rw [z, frs D _ upd_same rfl] at q
          cases q
        have nF : b ∉ i.Ft := fun z => by
          obtain ⟨o2, ho2⟩ := mem_ft hp z
          have nb : b ≠ D := ne_of_none ho2 hD
          rw [frs b o2 (by rw [upd_ne nb]; exact kn0.le _ _ ho2) rfl] at q
          cases q
        rw [upd_ne nD]
        exact g3 b o nF (e3 _ _ (eGw _ _ q))
      · intro b hb
        by_cases hbF : b ∈ i.Ft
        · exact .inl hbF
        rcases g2 b hb with z | z
        · exact .inl z
        · refine .inr ⟨?_, z.2⟩
          cases hg2 : G b with
          | none => rfl
          | some o =>
            have := e3 _ _ (h4 b o hbF hg2)
            rw [this] at z
            cases z.1
    · omega
  · rintro σ H' G' Gw _ _ _ kn' ⟨x, rfl, h⟩
    rcases h with ⟨h1, _⟩ | ⟨_, h2, h3⟩
    · simp at h1
    · exact q_ret kn' (ep_d rfl (.lst h3 (DeA.ints _))) fun v H2 G2 kn2 e2 d2 => hret v H2 G2 kn2 ⟨d2, let ⟨Ft', a1, a2, a3⟩ := h2; ⟨Ft', a1.mono e2, a2, a3.tr (Fr.of e2)⟩⟩
end
end Q
/-! K75P6 -/
set_option Elab.async false
set_option linter.all false
set_option maxRecDepth 100000
set_option maxHeartbeats 4000000
/-! The pool made. -/
namespace Q
open PySem PySem.Spec PyProof.Rows L2 Evl SlX
open M (Ln Fr)
section
variable {B H1 H G : Hp} {σ : L2.St} {te ta tb : TE} {P : PV} {nx : L2.St → Hp → Prop} {rt : VK} {bk ct : L2.St → Hp → Prop} {K : PySem.W.Frag} {C a dx p : Addr} {f : Str} {i : Nat} {ws : List (Option V)}
/-- an instance just made, or with slots -/
structure Ins0 (C : Addr) (G : Hp) (a dx : Addr) (ws : List (Option V)) : Prop where
  ne : dx ≠ a
  s : Slt G a C dx ws
  a : ∃ o, G a = some o
  d : ∃ o, G dx = some o
theorem Ins0.mono {G' : Hp} (e : Ex G G') (h : Ins0 C G a dx ws) : Ins0 C G' a dx ws := ⟨h.ne, slt_mono e h.s, h.a.imp fun _ q => e _ _ q, h.d.imp fun _ q => e _ _ q⟩
theorem Ins0.put {G' : Hp} {ws' : List (Option V)} (h : Ins0 C G a dx ws) : Ins C (slH G' a C dx ws') a dx ws' := ⟨h.ne, upd_same, by unfold slH; rw [upd_ne h.ne, upd_same]⟩
theorem Ins.ins0 (h : Ins C G a dx ws) : Ins0 C G a dx ws := ⟨h.ne, h.slt, ⟨_, h.o⟩, ⟨_, h.d⟩⟩
theorem kn_slH {ws' : List (Option V)} (kn : Kn B H1 H G) (h : Ins0 C G a dx ws) (hBa : B a = none) (hBd : B dx = none) : Kn B H1 (slH H a C dx ws') (slH G a C dx ws') := by
  obtain ⟨o, ho⟩ := h.a
  obtain ⟨o2, ho2⟩ := h.d
  exact (kn.upd hBd ho2).upd hBa (by rw [upd_ne h.ne.symm]; exact ho)
theorem q_set0 (mo : Mo P) (c : SCls K C) (t : Slot1 K C f p i) (kn : Kn B H1 H G) (h : Ins0 C G a dx ws) (hBa : B a = none) (hBd : B dx = none) (ha : Ev ta σ G (.ref a)) (hv : EvP te σ G P)
    (k : ∀ y H' G', Kn B H1 H' G' → Ex G G' → P G' y → Kn B H1 (slH H' a C dx (putS i y ws)) (slH G' a C dx (putS i y ws)) → nx σ (slH H' a C dx (putS i y ws))) : sSl K ta te f ⟨nx, rt, bk, ct⟩ σ H :=
  hv H kn.le _ fun y H2 e2 q => ha H2 (kn.le.trans e2) _ fun H3 e3 => by
    have e := e2.trans e3
    obtain ⟨k2, e4⟩ := kn.pure e
    exact ⟨a, C, dx, p, ws, i, rfl, slt_mono (kn.le.trans e) h.s, c, t, k y H3 _ k2 e4 (mo _ _ _ (cut_mono e3) q) (kn_slH k2 (h.mono e4) hBa hBd)⟩
/-- self.f = [] -/
theorem q_setN {o : HO} (m : MkE te o) (c : SCls K C) (t : Slot1 K C f p i) (kn : Kn B H1 H G) (h : Ins0 C G a dx ws) (hBa : B a = none) (hBd : B dx = none) (ha : Ev ta σ G (.ref a))
    (k : ∀ D H' G', Kn B H1 H' G' → Ex (upd G D o) G' → G D = none → Kn B H1 (slH H' a C dx (putS i (.ref D) ws)) (slH G' a C dx (putS i (.ref D) ws)) → nx σ (slH H' a C dx (putS i (.ref D) ws))) : sSl K ta te f ⟨nx, rt, bk, ct⟩ σ H :=
  m σ H _ fun D hD => by
    have kn2 := kn.new (o := o) hD
    have eG : Ex G (upd G D o) := fun b u q => by rw [upd_ne (ne_of_none q (kn.non hD))]; exact q
    refine ha _ (eG.trans kn2.le) _ fun H3 e3 => ?_
    obtain ⟨k3, e4⟩ := kn2.pure e3
    exact ⟨a, C, dx, p, ws, i, rfl, slt_mono (eG.trans (kn2.le.trans e3)) h.s, c, t, k D H3 _ k3 e4 (kn.non hD) (kn_slH k3 (h.mono (eG.trans e4)) hBa hBd)⟩
end
theorem keep_slH {C : Addr} {G : Hp} {a dx b : Addr} {ws' : List (Option V)} {xs : List V} {o1 o2 : HO} (h1 : G a = some o1) (h2 : G dx = some o2) (h : G b = some (.lst xs)) (n1 : ¬ Sq o1 := by first | exact sq_slO | exact sq_ins) (n2 : ¬ Sq o2 := by first | exact sq_xd | exact sq_own) : (slH G a C dx ws') b = some (.lst xs) := by
  rw [slH_ne (fun z => by rw [z, h1] at h; cases h; exact n1 (.inl ⟨_, rfl⟩)) (fun z => by rw [z, h2] at h; cases h; exact n2 (.inl ⟨_, rfl⟩))]
  exact h
section
variable {P : Program} {w : World} {K : PySem.W.Frag} {mg : Str → Option Value} {base : Heap} {C : Addr}
def pst0 (k : Int) (d : Option Int) : PSt := ⟨k, d, 0, [], [], 0, []⟩
structure MI where
  a : Addr
  dx : Addr
  k : Int
  d : Option Int
def APIn (C : Addr) (i : MI) : Hp → Hp → List V → Prop := fun B G vs => vs = [.ref i.a, .int i.k, dkv i.d] ∧ i.dx ≠ i.a ∧ G i.a = some (.ins C i.dx []) ∧ G i.dx = some (.own i.a) ∧ B i.a = none ∧ B i.dx = none
def spPInit (C : Addr) : Sp := spR (APIn C) fun i B G G' v => v = .non ∧ ∃ Ft, PAt C G' i.a Ft (pst0 i.k i.d) ∧ (∀ b ∈ Ft, b = i.a ∨ b = i.dx ∨ (G b = none ∧ B b = none)) ∧ Fr [i.a, i.dx] G G'
abbrev dPInit (a : Fg → Addr) : Df := ⟨a, "__init__", "Pool.__init__", sPInit, [.int 0]⟩
theorem scPInit : FnScope ["self", "keep", "depth"] ["self", "keep", "depth"] (defScope sPInit) := ⟨rfl, rfl, rfl, by decide +kernel, rfl, by decide +kernel, by decide +kernel⟩
theorem ok_PInit {a : Fg → Addr} {f : Addr} {fd : FuncData} (F : At K (dPInit a) f fd) (T : Bt mg) (L : PF K C) : FnOk P w K mg base CX0 1 f fd ["self", "keep", "depth"] (spPInit C) := by
  refine fokR F scPInit (fun i B G vs h => by rw [h.1]; rfl) fun cdv A' outer s H E hr => ?_
  refine ⟨_, (pss_cons (ps_sl (pv 0) (pv 1)) (pss_cons (ps_sl (pv 0) (pv 2)) (pss_cons (ps_sl (pv 0) pe_int) (pss_cons (ps_sl (pv 0) (pe_lst pa_nil)) (pss_cons (ps_sl (pv 0) (pe_lst pa_nil)) (pss_cons (ps_sl (pv 0) pe_int) (pss_one (ps_sl (pv 0) (pe_lst pa_nil))))))))), fun i B H1 H G vs rt h kn hret => ?_⟩
  obtain ⟨rfl, ne, ha, hd, oa, od⟩ := h
  obtain ⟨p0, t0⟩ := L.depth
  obtain ⟨p1, t1⟩ := L.idle
  obtain ⟨p2, t2⟩ := L.keep
  obtain ⟨p3, t3⟩ := L.lent
  obtain ⟨p4, t4⟩ := L.made
  obtain ⟨p5, t5⟩ := L.now
  obtain ⟨p6, t6⟩ := L.there
  have i0 : Ins0 C G i.a i.dx [] := ⟨ne, .inl ⟨ha, rfl⟩, ⟨_, ha⟩, ⟨_, hd⟩⟩
  have sv : ∀ {G : Hp}, Ev (tVar 0) (start ["self", "keep", "depth"] [.ref i.a, .int i.k, dkv i.d]) G (.ref i.a) := ev_var rfl
  refine q_seq (q_set0 (P := fun _ v => v = .int i.k) mo_eq L.c t2 kn i0 oa od sv (ep_var (P := fun _ v => v = .int i.k) rfl rfl mo_eq) fun y Hn Gn knn eG pn kn' => ?_)
  cases (show y = .int i.k from pn)
  rw [show putS 2 (.int i.k) ([] : List (Option V)) = [none, none, some (.int i.k)] from rfl] at kn' ⊢
  have I1 : Ins C (slH Gn i.a C i.dx ([none, none, some (.int i.k)])) i.a i.dx ([none, none, some (.int i.k)]) := (i0.mono eG).put
  have f1 : Fr [i.a, i.dx] G (slH Gn i.a C i.dx ([none, none, some (.int i.k)])) := (Fr.of eG).tr (fr_slH (by simp) (by simp))
  have m1 : Dm G (slH Gn i.a C i.dx ([none, none, some (.int i.k)])) := fun b hb => fresh_back eG (dm_slH b hb)
  generalize slH Gn i.a C i.dx ([none, none, some (.int i.k)]) = G1 at kn' I1 f1 m1  ⊢
  generalize slH Hn i.a C i.dx ([none, none, some (.int i.k)]) = H11 at kn' ⊢
  have k1 := kn'
  clear eG kn'
  refine q_seq (q_set0 (P := fun _ v => v = dkv i.d) mo_eq L.c t0 k1 I1.ins0 oa od sv (ep_var (P := fun _ v => v = dkv i.d) rfl rfl mo_eq) fun y Hn Gn knn eG pn kn' => ?_)
  cases (show y = dkv i.d from pn)
  rw [show putS 0 (dkv i.d) ([none, none, some (.int i.k)] : List (Option V)) = [some (dkv i.d), none, some (.int i.k)] from rfl] at kn' ⊢
  have I2 : Ins C (slH Gn i.a C i.dx ([some (dkv i.d), none, some (.int i.k)])) i.a i.dx ([some (dkv i.d), none, some (.int i.k)]) := (I1.mono eG).ins0.put
  have f2 : Fr [i.a, i.dx] G (slH Gn i.a C i.dx ([some (dkv i.d), none, some (.int i.k)])) := (f1.tr (Fr.of eG)).tr (fr_slH (by simp) (by simp))
  have m2 : Dm G (slH Gn i.a C i.dx ([some (dkv i.d), none, some (.int i.k)])) := fun b hb => m1 b (fresh_back eG (dm_slH b hb))
  generalize slH Gn i.a C i.dx ([some (dkv i.d), none, some (.int i.k)]) = G2 at kn' I2 f2 m2  ⊢
  generalize slH Hn i.a C i.dx ([some (dkv i.d), none, some (.int i.k)]) = H12 at kn' ⊢
  have k2 := kn'
  clear eG kn'
  refine q_seq (q_set0 (P := fun _ v => v = .int 0) mo_eq L.c t5 k2 I2.ins0 oa od sv (ep_c (P := fun _ v => v = .int 0) rfl mo_eq) fun y Hn Gn knn eG pn kn' => ?_)
  cases (show y = .int 0 from pn)
  rw [show putS 5 (.int 0) ([some (dkv i.d), none, some (.int i.k)] : List (Option V)) = [some (dkv i.d), none, some (.int i.k), none, none, some (.int 0)] from rfl] at kn' ⊢
  have I3 : Ins C (slH Gn i.a C i.dx ([some (dkv i.d), none, some (.int i.k), none, none, some (.int 0)])) i.a i.dx ([some (dkv i.d), none, some (.int i.k), none, none, some (.int 0)]) := (I2.mono eG).ins0.put
  have f3 : Fr [i.a, i.dx] G (slH Gn i.a C i.dx ([some (dkv i.d), none, some (.int i.k), none, none, some (.int 0)])) := (f2.tr (Fr.of eG)).tr (fr_slH (by simp) (by simp))
  have m3 : Dm G (slH Gn i.a C i.dx ([some (dkv i.d), none, some (.int i.k), none, none, some (.int 0)])) := fun b hb => m2 b (fresh_back eG (dm_slH b hb))
  generalize slH Gn i.a C i.dx ([some (dkv i.d), none, some (.int i.k), none, none, some (.int 0)]) = G3 at kn' I3 f3 m3  ⊢
  generalize slH Hn i.a C i.dx ([some (dkv i.d), none, some (.int i.k), none, none, some (.int 0)]) = H13 at kn' ⊢
  have k3 := kn'
  clear eG kn'
  refine q_seq (q_setN mk_lst L.c t1 k3 I3.ins0 oa od sv fun li Hn Gn knn en hnli kn' => ?_)
  have eG : Ex G3 Gn := fun b u q => en _ _ (by rw [upd_ne (ne_of_none q hnli)]; exact q)
  rw [show putS 1 (.ref li) ([some (dkv i.d), none, some (.int i.k), none, none, some (.int 0)] : List (Option V)) = [some (dkv i.d), some (.ref li), some (.int i.k), none, none, some (.int 0)] from rfl] at kn' ⊢
  have I4 : Ins C (slH Gn i.a C i.dx ([some (dkv i.d), some (.ref li), some (.int i.k), none, none, some (.int 0)])) i.a i.dx ([some (dkv i.d), some (.ref li), some (.int i.k), none, none, some (.int 0)]) := (I3.mono eG).ins0.put
  have f4 : Fr [i.a, i.dx] G (slH Gn i.a C i.dx ([some (dkv i.d), some (.ref li), some (.int i.k), none, none, some (.int 0)])) := (f3.tr (Fr.of eG)).tr (fr_slH (by simp) (by simp))
  have m4 : Dm G (slH Gn i.a C i.dx ([some (dkv i.d), some (.ref li), some (.int i.k), none, none, some (.int 0)])) := fun b hb => m3 b (fresh_back eG (dm_slH b hb))
  have hli : (slH Gn i.a C i.dx ([some (dkv i.d), some (.ref li), some (.int i.k), none, none, some (.int 0)])) li = some (.lst []) := keep_slH (I3.mono eG).o (I3.mono eG).d (en _ _ upd_same)
  have gli : G li = none := m3 _ hnli
  generalize slH Gn i.a C i.dx ([some (dkv i.d), some (.ref li), some (.int i.k), none, none, some (.int 0)]) = G4 at kn' I4 f4 m4 hli ⊢
  generalize slH Hn i.a C i.dx ([some (dkv i.d), some (.ref li), some (.int i.k), none, none, some (.int 0)]) = H14 at kn' ⊢
  have k4 := kn'
  have qli := hli
  clear eG kn'
  refine q_seq (q_setN mk_lst L.c t3 k4 I4.ins0 oa od sv fun ll Hn Gn knn en hnll kn' => ?_)
  have eG : Ex G4 Gn := fun b u q => en _ _ (by rw [upd_ne (ne_of_none q hnll)]; exact q)
  rw [show putS 3 (.ref ll) ([some (dkv i.d), some (.ref li), some (.int i.k), none, none, some (.int 0)] : List (Option V)) = [some (dkv i.d), some (.ref li), some (.int i.k), some (.ref ll), none, some (.int 0)] from rfl] at kn' ⊢
  have I5 : Ins C (slH Gn i.a C i.dx ([some (dkv i.d), some (.ref li), some (.int i.k), some (.ref ll), none, some (.int 0)])) i.a i.dx ([some (dkv i.d), some (.ref li), some (.int i.k), some (.ref ll), none, some (.int 0)]) := (I4.mono eG).ins0.put
  have f5 : Fr [i.a, i.dx] G (slH Gn i.a C i.dx ([some (dkv i.d), some (.ref li), some (.int i.k), some (.ref ll), none, some (.int 0)])) := (f4.tr (Fr.of eG)).tr (fr_slH (by simp) (by simp))
  have m5 : Dm G (slH Gn i.a C i.dx ([some (dkv i.d), some (.ref li), some (.int i.k), some (.ref ll), none, some (.int 0)])) := fun b hb => m4 b (fresh_back eG (dm_slH b hb))
  have hli : (slH Gn i.a C i.dx ([some (dkv i.d), some (.ref li), some (.int i.k), some (.ref ll), none, some (.int 0)])) li = some (.lst []) := keep_slH (I4.mono eG).o (I4.mono eG).d (eG _ _ hli)
  have hll : (slH Gn i.a C i.dx ([some (dkv i.d), some (.ref li), some (.int i.k), some (.ref ll), none, some (.int 0)])) ll = some (.lst []) := keep_slH (I4.mono eG).o (I4.mono eG).d (en _ _ upd_same)
  have gll : G ll = none := m4 _ hnll
  have nlill : li ≠ ll := fun z => by rw [← z, qli] at hnll; cases hnll
  generalize slH Gn i.a C i.dx ([some (dkv i.d), some (.ref li), some (.int i.k), some (.ref ll), none, some (.int 0)]) = G5 at kn' I5 f5 m5 hli hll ⊢
  generalize slH Hn i.a C i.dx ([some (dkv i.d), some (.ref li), some (.int i.k), some (.ref ll), none, some (.int 0)]) = H15 at kn' ⊢
  have k5 := kn'
  have qli := hli
  have qll := hll
  clear eG kn'
  refine q_seq (q_set0 (P := fun _ v => v = .int 0) mo_eq L.c t4 k5 I5.ins0 oa od sv (ep_c (P := fun _ v => v = .int 0) rfl mo_eq) fun y Hn Gn knn eG pn kn' => ?_)
  cases (show y = .int 0 from pn)
  rw [show putS 4 (.int 0) ([some (dkv i.d), some (.ref li), some (.int i.k), some (.ref ll), none, some (.int 0)] : List (Option V)) = [some (dkv i.d), some (.ref li), some (.int i.k), some (.ref ll), some (.int 0), some (.int 0)] from rfl] at kn' ⊢
  have I6 : Ins C (slH Gn i.a C i.dx ([some (dkv i.d), some (.ref li), some (.int i.k), some (.ref ll), some (.int 0), some (.int 0)])) i.a i.dx ([some (dkv i.d), some (.ref li), some (.int i.k), some (.ref ll), some (.int 0), some (.int 0)]) := (I5.mono eG).ins0.put
  have f6 : Fr [i.a, i.dx] G (slH Gn i.a C i.dx ([some (dkv i.d), some (.ref li), some (.int i.k), some (.ref ll), some (.int 0), some (.int 0)])) := (f5.tr (Fr.of eG)).tr (fr_slH (by simp) (by simp))
  have m6 : Dm G (slH Gn i.a C i.dx ([some (dkv i.d), some (.ref li), some (.int i.k), some (.ref ll), some (.int 0), some (.int 0)])) := fun b hb => m5 b (fresh_back eG (dm_slH b hb))
  have hli : (slH Gn i.a C i.dx ([some (dkv i.d), some (.ref li), some (.int i.k), some (.ref ll), some (.int 0), some (.int 0)])) li = some (.lst []) := keep_slH (I5.mono eG).o (I5.mono eG).d (eG _ _ hli)
  have hll : (slH Gn i.a C i.dx ([some (dkv i.d), some (.ref li), some (.int i.k), some (.ref ll), some (.int 0), some (.int 0)])) ll = some (.lst []) := keep_slH (I5.mono eG).o (I5.mono eG).d (eG _ _ hll)
  generalize slH Gn i.a C i.dx ([some (dkv i.d), some (.ref li), some (.int i.k), some (.ref ll), some (.int 0), some (.int 0)]) = G6 at kn' I6 f6 m6 hli hll ⊢
  generalize slH Hn i.a C i.dx ([some (dkv i.d), some (.ref li), some (.int i.k), some (.ref ll), some (.int 0), some (.int 0)]) = H16 at kn' ⊢
  have k6 := kn'
  have qli := hli
  have qll := hll
  clear eG kn'
  refine q_setN mk_lst L.c t6 k6 I6.ins0 oa od sv fun lt Hn Gn knn en hnlt kn' => ?_
  have eG : Ex G6 Gn := fun b u q => en _ _ (by rw [upd_ne (ne_of_none q hnlt)]; exact q)
  rw [show putS 6 (.ref lt) ([some (dkv i.d), some (.ref li), some (.int i.k), some (.ref ll), some (.int 0), some (.int 0)] : List (Option V)) = [some (dkv i.d), some (.ref li), some (.int i.k), some (.ref ll), some (.int 0), some (.int 0), some (.ref lt)] from rfl] at kn' ⊢
  have I7 : Ins C (slH Gn i.a C i.dx ([some (dkv i.d), some (.ref li), some (.int i.k), some (.ref ll), some (.int 0), some (.int 0), some (.ref lt)])) i.a i.dx ([some (dkv i.d), some (.ref li), some (.int i.k), some (.ref ll), some (.int 0), some (.int 0), some (.ref lt)]) := (I6.mono eG).ins0.put
  have f7 : Fr [i.a, i.dx] G (slH Gn i.a C i.dx ([some (dkv i.d), some (.ref li), some (.int i.k), some (.ref ll), some (.int 0), some (.int 0), some (.ref lt)])) := (f6.tr (Fr.of eG)).tr (fr_slH (by simp) (by simp))
  have m7 : Dm G (slH Gn i.a C i.dx ([some (dkv i.d), some (.ref li), some (.int i.k), some (.ref ll), some (.int 0), some (.int 0), some (.ref lt)])) := fun b hb => m6 b (fresh_back eG (dm_slH b hb))
  have hli : (slH Gn i.a C i.dx ([some (dkv i.d), some (.ref li), some (.int i.k), some (.ref ll), some (.int 0), some (.int 0), some (.ref lt)])) li = some (.lst []) := keep_slH (I6.mono eG).o (I6.mono eG).d (eG _ _ hli)
  have hll : (slH Gn i.a C i.dx ([some (dkv i.d), some (.ref li), some (.int i.k), some (.ref ll), some (.int 0), some (.int 0), some (.ref lt)])) ll = some (.lst []) := keep_slH (I6.mono eG).o (I6.mono eG).d (eG _ _ hll)
  have hlt : (slH Gn i.a C i.dx ([some (dkv i.d), some (.ref li), some (.int i.k), some (.ref ll), some (.int 0), some (.int 0), some (.ref lt)])) lt = some (.lst []) := keep_slH (I6.mono eG).o (I6.mono eG).d (en _ _ upd_same)
  have glt : G lt = none := m6 _ hnlt
  have nlilt : li ≠ lt := fun z => by rw [← z, qli] at hnlt; cases hnlt
  have nlllt : ll ≠ lt := fun z => by rw [← z, qll] at hnlt; cases hnlt
  generalize slH Gn i.a C i.dx ([some (dkv i.d), some (.ref li), some (.int i.k), some (.ref ll), some (.int 0), some (.int 0), some (.ref lt)]) = G7 at kn' I7 f7 m7 hli hll hlt ⊢
  generalize slH Hn i.a C i.dx ([some (dkv i.d), some (.ref li), some (.int i.k), some (.ref ll), some (.int 0), some (.int 0), some (.ref lt)]) = H17 at kn' ⊢
  have k7 := kn'
  have qli := hli
  have qll := hll
  have qlt := hlt
  clear eG kn'
  refine hret .non _ _ k7 ⟨rfl, [i.a, i.dx, li, ll, lt], ⟨i.dx, li, ll, lt, [], rfl, I7, nlill, nlilt, nlllt, hli, .nil, hll, hlt⟩, fun b hb => ?_, f7⟩
  have gB : ∀ {b}, G b = none → B b = none := fun h => fresh_back kn.base h
  simp only [List.mem_cons, List.mem_nil_iff, or_false] at hb
  rcases hb with rfl | rfl | rfl | rfl | rfl
  · exact .inl rfl
  · exact .inr (.inl rfl)
  · exact .inr (.inr ⟨gli, gB gli⟩)
  · exact .inr (.inr ⟨gll, gB gll⟩)
  · exact .inr (.inr ⟨glt, gB glt⟩)
end
end Q
/-! K75M4 -/
set_option Elab.async false
set_option linter.all false
set_option maxRecDepth 100000
set_option maxHeartbeats 4000000
/-! The story of a pool. -/
namespace M
variable {ls : List Ln} {k b : Int} {q T : Nat} {F : List (Nat × Nat)} {th : List Int} {L : List Nat} {lent there : List Int} {made : Int} {dep : Bool}
/-- given back: ended before b, or at b and with a number under q -/
def back (ls : List Ln) (b : Int) (q g : Nat) : Prop := ed ls g < b ∨ (ed ls g = b ∧ g < q)
instance : Decidable (back ls b q g) := by unfold back; infer_instance
abbrev thA (th : List Int) (g : Nat) : Int := th.getD g 0
/-- what is told of givers and things -/
structure Hist (ls : List Ln) (k : Int) (T : Nat) (F : List (Nat × Nat)) (th : List Int) (made : Int) : Prop where
  len : th.length = T
  ok : ∀ p ∈ F, p.1 < T ∧ p.2 < p.1 ∧ ed ls p.2 ≤ bg ls p.1 ∧ bg ls p.1 ≤ ed ls p.2 + k ∧ thA th p.1 = thA th p.2
  nw : ∀ t, t < T → t ∉ F.map (·.1) → ∀ u, u < t → thA th u ≠ thA th t
  ndk : (F.map (·.1)).Nodup
  ndv : (F.map (·.2)).Nodup
  cnt : made + (F.length : Int) = T
  lt : ∀ t, t < T → thA th t < made
structure Sim (ls : List Ln) (k b : Int) (dep : Bool) (q T : Nat) (F : List (Nat × Nat)) (th : List Int) (L : List Nat) (lent there : List Int) (made : Int) : Prop where
  h : Hist ls k T F th made
  tn : T ≤ ls.length
  t1 : ∀ t, t < T → bg ls t ≤ b
  t2 : ∀ t, T ≤ t → t < ls.length → b ≤ bg ls t
  mem : ∀ g, g ∈ L ↔ g < T ∧ back ls b q g ∧ b ≤ ed ls g + k ∧ g ∉ F.map (·.2)
  asc : L.Pairwise fun x y => ed ls y < ed ls x ∨ (ed ls y = ed ls x ∧ y < x)
  bk : ∀ p ∈ F, back ls b q p.2
  ln : lent.Perm (((List.range T).filter fun g => !decide (back ls b q g)).map (thA th))
  tr : ∀ x ∈ there, ∃ g, g < T ∧ thA th g = x ∧ (g ∈ L ∨ ¬ back ls b q g)
  gr : dep = true → F = M.gr (living ls (some k) bare) (ed ls) T
theorem Sim.start (k0 : 0 ≤ k) (V : Valid ls) : Sim ls k 0 dep 0 0 [] [] [] [] [] 0 where
  h := ⟨rfl, by simp, by simp, by simp, by simp, rfl, by simp⟩
  tn := Nat.zero_le _
  t1 := by simp
  t2 := fun t _ ht => (bg_ed V ht).1
  mem := by simp
  asc := .nil
  bk := by simp
  ln := by simp
  tr := by simp
  gr := fun _ => rfl
/-- a row looked at, given back where it ends now -/
theorem Sim.skip (s : Sim ls k b dep q T F th L lent there made) (h : ed ls q ≠ b) : Sim ls k b dep (q + 1) T F th L lent there made := by
  have e : ∀ g, back ls b (q + 1) g ↔ back ls b q g := fun g => by
    unfold back
    constructor
    · rintro (h1 | ⟨h1, h2⟩)
      · exact .inl h1
      · by_cases r : g = q
        · rw [r] at h1; exact absurd h1 h
        · exact .inr ⟨h1, by omega⟩
    · rintro (h1 | ⟨h1, h2⟩)
      · exact .inl h1
      · exact .inr ⟨h1, by omega⟩
  refine { s with mem := fun g => by rw [e]; exact s.mem g, bk := fun p hp => (e _).mpr (s.bk p hp), ln := ?_, tr := fun x hx => ?_ }
  · have : (fun g => !decide (back ls b (q + 1) g)) = fun g => !decide (back ls b q g) := by
      funext g
      rw [decide_eq_decide.mpr (e g)]
    rw [this]
    exact s.ln
  · obtain ⟨g, h1, h2, h3⟩ := s.tr x hx
    exact ⟨g, h1, h2, h3.imp id fun h => fun z => h ((e g).mp z)⟩
theorem Sim.lt_of_end (V : Valid ls) (s : Sim ls k b dep q T F th L lent there made) {t : Nat} (ht : t < ls.length) (h : ed ls t ≤ b) : t < T := by
  rcases Nat.lt_or_ge t T with r | r
  · exact r
  · have := s.t2 t r ht
    have := (bg_ed V ht).2
    omega
theorem Sim.lent_mem (V : Valid ls) (s : Sim ls k b dep q T F th L lent there made) (hq : q < ls.length) (h : ed ls q = b) : thA th q ∈ lent := by
  refine s.ln.mem_iff.mpr (List.mem_map.mpr ⟨q, List.mem_filter.mpr ⟨List.mem_range.mpr (s.lt_of_end V hq (by omega)), ?_⟩, rfl⟩)
  simp only [Bool.not_eq_true', decide_eq_false_iff_not]
  unfold back
  omega
theorem filter_out {p p' : Nat → Bool} {q : Nat} : ∀ {l : List Nat}, l.Nodup → q ∈ l → p q = true → p' q = false → (∀ g, g ≠ q → p' g = p g) → (l.filter p).Perm (q :: l.filter p')
  | [], _, hq, _, _, _ => by cases hq
  | a :: l, nd, hq, h1, h2, h3 => by
    obtain ⟨n1, n2⟩ := List.nodup_cons.mp nd
    by_cases e : a = q
    · subst e
      have : l.filter p' = l.filter p := List.filter_congr fun g hg => h3 g fun z => n1 (z ▸ hg)
      rw [List.filter_cons, List.filter_cons, h1, h2, this]
      simp
    · have hq' : q ∈ l := by
        rcases List.mem_cons.mp hq with z | z
        · exact absurd z.symm e
        · exact z
      have ih := filter_out n2 hq' h1 h2 h3
      rw [List.filter_cons, List.filter_cons, h3 a e]
      cases p a with
      | false => simpa using ih
      | true =>
        simp only [if_true]
        exact (List.Perm.cons a ih).trans (List.Perm.swap q a _)
theorem Sim.give (V : Valid ls) (k0 : 0 ≤ k) (s : Sim ls k b dep q T F th L lent there made) (hq : q < ls.length) (h : ed ls q = b) : Sim ls k b dep (q + 1) T F th (q :: L) (lent.eraseIdx (lent.idxOf (thA th q))) there made := by
  have hqT := s.lt_of_end V hq (by omega)
  have nb : ¬ back ls b q q := by unfold back; omega
  have e : ∀ g, back ls b (q + 1) g ↔ back ls b q g ∨ g = q := fun g => by
    unfold back
    constructor
    · rintro (h1 | ⟨h1, h2⟩)
      · exact .inl (.inl h1)
      · by_cases r : g = q
        · exact .inr r
        · exact .inl (.inr ⟨h1, by omega⟩)
    · rintro ((h1 | ⟨h1, h2⟩) | rfl)
      · exact .inl h1
      · exact .inr ⟨h1, by omega⟩
      · exact .inr ⟨h, by omega⟩
  have nF : q ∉ F.map (·.2) := fun z => by
    obtain ⟨p, hp, r⟩ := List.mem_map.mp z
    have := s.bk p hp
    rw [r] at this
    exact nb this
  refine { s with mem := fun g => ?_, asc := List.pairwise_cons.mpr ⟨fun x hx => ?_, s.asc⟩, bk := fun p hp => (e _).mpr (.inl (s.bk p hp)), ln := ?_, tr := fun x hx => ?_ }
  · rw [List.mem_cons, s.mem, e]
    constructor
    · rintro (rfl | ⟨h1, h2, h3, h4⟩)
      · exact ⟨hqT, .inr rfl, by omega, nF⟩
      · exact ⟨h1, .inl h2, h3, h4⟩
    · rintro ⟨h1, h2 | h2, h3, h4⟩
      · exact .inr ⟨h1, h2, h3, h4⟩
      · exact .inl h2
  · obtain ⟨_, h2, _⟩ := (s.mem x).mp hx
    unfold back at h2
    omega
  · have p1 : ((List.range T).filter fun g => !decide (back ls b q g)).Perm (q :: (List.range T).filter fun g => !decide (back ls b (q + 1) g)) :=
      filter_out List.nodup_range (List.mem_range.mpr hqT) (by simpa using nb) (by simpa using (e q).mpr (.inr rfl)) fun g hg => by
        rw [decide_eq_decide.mpr (show back ls b (q + 1) g ↔ back ls b q g from ⟨fun z => ((e g).mp z).elim id fun z => absurd z hg, fun z => (e g).mpr (.inl z)⟩)]
    have p2 := s.ln.trans (p1.map (thA th))
    have p3 := p2.erase (thA th q)
    rw [List.map_cons, List.erase_cons_head] at p3
    rw [← List.erase_eq_eraseIdx_of_idxOf rfl]
    exact p3
  · obtain ⟨g, h1, h2, h3⟩ := s.tr x hx
    refine ⟨g, h1, h2, ?_⟩
    rcases h3 with h3 | h3
    · exact .inl (List.mem_cons_of_mem _ h3)
    · by_cases r : g = q
      · exact .inl (by rw [r]; exact List.mem_cons_self)
      · exact .inr fun z => ((e g).mp z).elim h3 r
theorem back_all (V : Valid ls) {g : Nat} (hg : g < ls.length) : back ls b ls.length g ↔ ed ls g ≤ b := by unfold back; omega
theorem getD_app_l {l : List Int} {x : Int} {g : Nat} (h : g < l.length) : thA (l ++ [x]) g = thA l g := by
  unfold thA
  rw [List.getD_eq_getElem?_getD, List.getD_eq_getElem?_getD, List.getElem?_append_left h]
theorem getD_app_r {l : List Int} {x : Int} : thA (l ++ [x]) l.length = x := by
  unfold thA
  rw [List.getD_eq_getElem?_getD, List.getElem?_append_right (Nat.le_refl _), Nat.sub_self]
  rfl
theorem Sim.free (V : Valid ls) (s : Sim ls k b dep ls.length T F th L lent there made) (hT : T < ls.length) (hb : bg ls T = b) (hF : F = M.gr (living ls (some k) bare) (ed ls) T) (g : Nat) : g ∈ free (living ls (some k) bare) F T ↔ g ∈ L := by
  rw [mem_free, s.mem, mem_living, hb]
  constructor
  · rintro ⟨⟨h1, h2, h3, _, _⟩, h4⟩
    have := h3 k rfl
    exact ⟨s.lt_of_end V h1 h2, (back_all V h1).mpr h2, by omega, h4⟩
  · rintro ⟨h1, h2, h3, h4⟩
    have hg : g < ls.length := by have := s.tn; omega
    exact ⟨⟨hg, (back_all V hg).mp h2, fun k' e => by cases e; omega, (fun _ e => by cases e), (fun _ e => by cases e)⟩, h4⟩
theorem lent_app (V : Valid ls) (s : Sim ls k b dep ls.length T F th L lent there made) (hT : T < ls.length) (hb : bg ls T = b) (x : Int) : (lent ++ [x]).Perm (((List.range (T + 1)).filter fun g => !decide (back ls b ls.length g)).map (thA (th ++ [x]))) := by
  have nb : ¬ back ls b ls.length T := by
    rw [back_all V hT]
    have := (bg_ed V hT).2
    omega
  rw [List.range_succ, List.filter_append, List.map_append]
  have e1 : [T].filter (fun g => !decide (back ls b ls.length g)) = [T] := by simp [nb]
  rw [e1]
  have e2 : (((List.range T).filter fun g => !decide (back ls b ls.length g)).map (thA (th ++ [x]))) = (((List.range T).filter fun g => !decide (back ls b ls.length g)).map (thA th)) := by
    apply List.map_congr_left
    intro g hg
    have := List.mem_range.mp (List.mem_filter.mp hg).1
    exact getD_app_l (by rw [s.h.len]; exact this)
  rw [e2]
  have e3 : [T].map (thA (th ++ [x])) = [x] := by
    show [thA (th ++ [x]) T] = [x]
    rw [← s.h.len, getD_app_r]
  rw [e3]
  exact s.ln.append_right _
/-- a new thing -/
theorem Sim.new (V : Valid ls) (s : Sim ls k b dep ls.length T F th L lent there made) (hT : T < ls.length) (hb : bg ls T = b) (hL : L = []) : Sim ls k b dep ls.length (T + 1) F (th ++ [made]) L (lent ++ [made]) (there ++ [made]) (made + 1) := by
  have hl := s.h.len
  have old : ∀ g, g < T → thA (th ++ [made]) g = thA th g := fun g hg => getD_app_l (by omega)
  have new : thA (th ++ [made]) T = made := by rw [← hl, getD_app_r]
  have nb : ¬ back ls b ls.length T := by
    rw [back_all V hT]
    have := (bg_ed V hT).2
    omega
  refine ⟨⟨by simp [hl], fun p hp => ?_, fun t ht hn u hu => ?_, s.h.ndk, s.h.ndv, ?_, fun t ht => ?_⟩, hT, fun t ht => ?_, fun t h1 h2 => s.t2 t (by omega) h2, fun g => ?_, s.asc, s.bk, lent_app V s hT hb made, fun x hx => ?_, fun hd => ?_⟩
  · obtain ⟨h1, h2, h3, h4, h5⟩ := s.h.ok p hp
    exact ⟨by omega, h2, h3, h4, by rw [old _ h1, old _ (by omega)]; exact h5⟩
  · by_cases r : t = T
    · subst r
      rw [new, old u hu]
      have := s.h.lt u hu
      omega
    · rw [old t (by omega), old u (by omega)]
      exact s.h.nw t (by omega) hn u hu
  · have := s.h.cnt
    omega
  · by_cases r : t = T
    · subst r
      rw [new]; omega
    · rw [old t (by omega)]
      have := s.h.lt t (by omega)
      omega
  · by_cases r : t = T
    · subst r; omega
    · exact s.t1 t (by omega)
  · rw [s.mem]
    constructor
    · rintro ⟨h1, h2⟩
      exact ⟨by omega, h2⟩
    · rintro ⟨h1, h2, h3⟩
      by_cases r : g = T
      · rw [r] at h2; exact absurd h2 nb
      · exact ⟨by omega, h2, h3⟩
  · rcases List.mem_append.mp hx with hx | hx
    · obtain ⟨g, h1, h2, h3⟩ := s.tr x hx
      exact ⟨g, by omega, by rw [old g h1]; exact h2, h3⟩
    · have : x = made := by simpa using hx
      exact ⟨T, by omega, by rw [new, this], .inr nb⟩
  · have hF := s.gr hd
    rcases gr_step (Lv := living ls (some k) bare) (en := ed ls) T with ⟨e, _⟩ | ⟨g, _, hg⟩
    · rw [e]; exact hF
    · have := (s.free V hT hb hF g).mp (by rw [hF]; exact hg.mem)
      rw [hL] at this
      cases this
theorem asc_nodup (s : Sim ls k b dep q T F th L lent there made) : L.Nodup := s.asc.imp fun h e => by subst e; omega
/-- an idle one taken: L's j-th -/
theorem Sim.take (V : Valid ls) (s : Sim ls k b dep ls.length T F th L lent there made) (hT : T < ls.length) (hb : bg ls T = b) {j g : Nat} (hj : L[j]? = some g) (hd : dep = true → j + 1 = L.length) : Sim ls k b dep ls.length (T + 1) (F ++ [(T, g)]) (th ++ [thA th g]) (L.eraseIdx j) (lent ++ [thA th g]) there made := by
  have hl := s.h.len
  obtain ⟨gT, gb, gk, gF⟩ := (s.mem g).mp (List.mem_of_getElem? hj)
  have old : ∀ u, u < T → thA (th ++ [thA th g]) u = thA th u := fun u hu => getD_app_l (by omega)
  have new : thA (th ++ [thA th g]) T = thA th g := by rw [← hl, getD_app_r]
  have nb : ¬ back ls b ls.length T := by
    rw [back_all V hT]
    have := (bg_ed V hT).2
    omega
  have ge : ed ls g ≤ b := (back_all V (by omega)).mp gb
  have keyT : ∀ p ∈ F, p.1 < T := fun p hp => (s.h.ok p hp).1
  have memE : ∀ x, x ∈ L.eraseIdx j ↔ x ∈ L ∧ x ≠ g := fun x => by
    have hjl := (List.getElem?_eq_some_iff.mp hj).1
    have hjg : L[j] = g := (List.getElem?_eq_some_iff.mp hj).2
    have e : L = L.take j ++ g :: L.drop (j + 1) := by
      rw [← hjg, ← List.drop_eq_getElem_cons hjl, List.take_append_drop]
    have nd := asc_nodup s
    rw [List.eraseIdx_eq_take_drop_succ]
    have nd2 := nd
    rw [e] at nd2
    have n1 := List.nodup_append.mp nd2
    have n2 := List.nodup_cons.mp n1.2.1
    constructor
    · intro hx
      refine ⟨?_, fun z => ?_⟩
      · rw [e]
        rcases List.mem_append.mp hx with h | h
        · exact List.mem_append_left _ h
        · exact List.mem_append_right _ (List.mem_cons_of_mem _ h)
      · subst z
        rcases List.mem_append.mp hx with h | h
        · exact n1.2.2 x h x List.mem_cons_self rfl
        · exact n2.1 h
    · rintro ⟨hx, hn⟩
      rw [e] at hx
      rcases List.mem_append.mp hx with h | h
      · exact List.mem_append_left _ h
      · rcases List.mem_cons.mp h with h | h
        · exact absurd h hn
        · exact List.mem_append_right _ h
  refine ⟨⟨by simp [hl], fun p hp => ?_, fun t ht hn u hu => ?_, ?_, ?_, ?_, fun t ht => ?_⟩, hT, fun t ht => ?_, fun t h1 h2 => s.t2 t (by omega) h2, fun x => ?_, s.asc.sublist (List.eraseIdx_sublist ..), fun p hp => ?_, lent_app V s hT hb _, fun x hx => ?_, fun hd' => ?_⟩
  · rcases List.mem_append.mp hp with hp | hp
    · obtain ⟨h1, h2, h3, h4, h5⟩ := s.h.ok p hp
      exact ⟨by omega, h2, h3, h4, by rw [old _ h1, old _ (by omega)]; exact h5⟩
    · have : p = (T, g) := by simpa using hp
      subst this
      exact ⟨by show T < T + 1; omega, gT, by show ed ls g ≤ bg ls T; omega, by show bg ls T ≤ ed ls g + k; omega, by show thA _ T = thA _ g; rw [new, old g gT]⟩
  · rw [List.map_append] at hn
    by_cases r : t = T
    · subst r
      exact absurd (List.mem_append_right _ (by simp)) hn
    · rw [old t (by omega), old u (by omega)]
      exact s.h.nw t (by omega) (fun z => hn (List.mem_append_left _ z)) u hu
  · rw [List.map_append]
    refine List.nodup_append.mpr ⟨s.h.ndk, by simp, fun x hx y hy e => ?_⟩
    obtain ⟨p, hp, rfl⟩ := List.mem_map.mp hx
    have : y = T := by simpa using hy
    have := keyT p hp
    omega
  · rw [List.map_append]
    refine List.nodup_append.mpr ⟨s.h.ndv, by simp, fun x hx y hy e => ?_⟩
    have : y = g := by simpa using hy
    exact gF (by rw [← this, ← e]; exact hx)
  · have := s.h.cnt
    rw [List.length_append, List.length_singleton]
    omega
  · by_cases r : t = T
    · subst r
      rw [new]
      exact s.h.lt g gT
    · rw [old t (by omega)]
      exact s.h.lt t (by omega)
  · by_cases r : t = T
    · subst r; omega
    · exact s.t1 t (by omega)
  · rw [memE, s.mem, List.map_append, List.mem_append]
    constructor
    · rintro ⟨⟨h1, h2, h3, h4⟩, h5⟩
      exact ⟨by omega, h2, h3, fun z => z.elim h4 fun z => h5 (by simpa using z)⟩
    · rintro ⟨h1, h2, h3, h4⟩
      have : x ≠ T := fun z => nb (z ▸ h2)
      exact ⟨⟨by omega, h2, h3, fun z => h4 (.inl z)⟩, fun z => h4 (.inr (by simp [z]))⟩
  · rcases List.mem_append.mp hp with hp | hp
    · exact s.bk p hp
    · have : p = (T, g) := by simpa using hp
      subst this
      exact gb
  · obtain ⟨u, h1, h2, h3⟩ := s.tr x hx
    by_cases r : u = g
    · subst r
      exact ⟨T, by omega, by rw [new]; exact h2, .inr nb⟩
    · refine ⟨u, by omega, by rw [old u h1]; exact h2, ?_⟩
      rcases h3 with h3 | h3
      · exact .inl ((memE u).mpr ⟨h3, r⟩)
      · exact .inr h3
  · have hF := s.gr hd'
    have hlast := hd hd'
    have isL : IsLeast (ed ls) (M.free (living ls (some k) bare) F T) g := by
      refine ⟨(s.free V hT hb hF g).mpr (List.mem_of_getElem? hj), fun h hh => ?_⟩
      have hh := (s.free V hT hb hF h).mp hh
      obtain ⟨m, hm, rfl⟩ := List.mem_iff_getElem.mp hh
      have hjl := (List.getElem?_eq_some_iff.mp hj).1
      have hjg : L[j] = g := (List.getElem?_eq_some_iff.mp hj).2
      by_cases r : m = j
      · subst r
        rw [hjg]
        exact lexle_refl _ _
      · have := List.pairwise_iff_getElem.mp s.asc m j hm hjl (by omega)
        rw [hjg] at this
        unfold lexle
        omega
    rcases gr_step (Lv := living ls (some k) bare) (en := ed ls) T with ⟨_, e⟩ | ⟨g', e, hg⟩
    · have := isL.mem
      rw [hF, e] at this
      cases this
    · rw [e, ← hF]
      rw [← hF] at hg
      have := lexle_anti (isL.le g' hg.mem) (hg.le g isL.mem)
      rw [this]
/-- the beat goes on -/
theorem Sim.pass (V : Valid ls) (s : Sim ls k b dep ls.length T F th L lent there made) (hT : ∀ t, T ≤ t → t < ls.length → bg ls t ≠ b) :
    Sim ls k (b + 1) dep 0 T F th (L.filter fun g => !decide (ed ls g + k ≤ b)) lent (there.filter fun n => !decide (n ∈ (L.filter fun g => decide (ed ls g + k ≤ b)).map (thA th))) made := by
  have e : ∀ g, g < T → (back ls (b + 1) 0 g ↔ back ls b ls.length g) := fun g hg => by
    rw [back_all V (by have := s.tn; omega)]
    unfold back
    omega
  refine { s with t1 := fun t ht => by have := s.t1 t ht; omega, t2 := fun t h1 h2 => by have := s.t2 t h1 h2; have := hT t h1 h2; omega, mem := fun g => ?_, asc := s.asc.sublist List.filter_sublist, bk := fun p hp => ?_, ln := ?_, tr := fun x hx => ?_ }
  · rw [List.mem_filter, s.mem]
    simp only [Bool.not_eq_true', decide_eq_false_iff_not]
    constructor
    · rintro ⟨⟨h1, h2, h3, h4⟩, h5⟩
      exact ⟨h1, (e g h1).mpr h2, by omega, h4⟩
    · rintro ⟨h1, h2, h3, h4⟩
      exact ⟨⟨h1, (e g h1).mp h2, by omega, h4⟩, by omega⟩
  · have hp2 := s.h.ok p hp
    exact (e p.2 (by omega)).mpr (s.bk p hp)
  · have : (List.range T).filter (fun g => !decide (back ls (b + 1) 0 g)) = (List.range T).filter fun g => !decide (back ls b ls.length g) := by
      apply List.filter_congr
      intro g hg
      rw [decide_eq_decide.mpr (e g (List.mem_range.mp hg))]
    rw [this]
    exact s.ln
  · obtain ⟨h1, h2⟩ := List.mem_filter.mp hx
    simp only [Bool.not_eq_true', decide_eq_false_iff_not] at h2
    obtain ⟨g, h3, h4, h5⟩ := s.tr x h1
    refine ⟨g, h3, h4, ?_⟩
    rcases h5 with h5 | h5
    · refine .inl (List.mem_filter.mpr ⟨h5, ?_⟩)
      simp only [Bool.not_eq_true', decide_eq_false_iff_not]
      exact fun z => h2 (List.mem_map.mpr ⟨g, List.mem_filter.mpr ⟨h5, by simpa using z⟩, h4⟩)
    · exact .inr fun z => h5 ((e g h3).mp z)
end M
/-! K75M6 -/
set_option Elab.async false
set_option linter.all false
set_option maxRecDepth 100000
set_option maxHeartbeats 4000000
/-! What the story of a pool tells: the handing. -/
namespace M
section
variable {ls : List Ln} {k : Int} {T : Nat} {F : List (Nat × Nat)} {th : List Int} {made : Int}
theorem pair_fun {F : List (Nat × Nat)} (nd : (F.map (·.1)).Nodup) {t g h : Nat} (a : (t, g) ∈ F) (b : (t, h) ∈ F) : g = h := by
  induction F with
  | nil => cases a
  | cons p F ih =>
    obtain ⟨n1, n2⟩ := List.nodup_cons.mp nd
    rcases List.mem_cons.mp a with a | a <;> rcases List.mem_cons.mp b with b | b
    · rw [← a] at b; exact (Prod.ext_iff.mp b).2.symm
    · exact absurd (List.mem_map.mpr ⟨_, b, rfl⟩) (by rw [← a] at n1; exact n1)
    · exact absurd (List.mem_map.mpr ⟨_, a, rfl⟩) (by rw [← b] at n1; exact n1)
    · exact ih n2 a b
theorem pair_inj {F : List (Nat × Nat)} (nd : (F.map (·.2)).Nodup) {t u g : Nat} (a : (t, g) ∈ F) (b : (u, g) ∈ F) : t = u := by
  induction F with
  | nil => cases a
  | cons p F ih =>
    obtain ⟨n1, n2⟩ := List.nodup_cons.mp nd
    rcases List.mem_cons.mp a with a | a <;> rcases List.mem_cons.mp b with b | b
    · rw [← a] at b; exact (Prod.ext_iff.mp b).1.symm
    · exact absurd (List.mem_map.mpr ⟨_, b, rfl⟩) (by rw [← a] at n1; exact n1)
    · exact absurd (List.mem_map.mpr ⟨_, a, rfl⟩) (by rw [← b] at n1; exact n1)
    · exact ih n2 a b
/-- the giver is the last before with the same thing -/
theorem Hist.last (h : Hist ls k T F th made) : ∀ t g, t < T → (t, g) ∈ F → ∀ u, u < t → thA th u = thA th t → u ≤ g := by
  have key : ∀ n t, t ≤ n → ∀ g, t < T → (t, g) ∈ F → ∀ u, u < t → thA th u = thA th t → u ≤ g := by
    intro n
    induction n with
    | zero => intro t ht g _ _ u hu; omega
    | succ n ih =>
      intro t ht g hT hg u hu e
      have og := h.ok _ hg
      have inner : ∀ m u, u ≤ m → u < t → g < u → thA th u = thA th t → False := by
        intro m
        induction m with
        | zero => intro u h1 _ h3 _; omega
        | succ m im =>
          intro u h1 h2 h3 h4
          have hgu : thA th g = thA th u := by rw [h4]; exact og.2.2.2.2.symm
          by_cases hk : u ∈ F.map (·.1)
          · obtain ⟨p, hp, hpu⟩ := List.mem_map.mp hk
            have hp' : (u, p.2) ∈ F := by rw [← hpu]; exact hp
            have op := h.ok _ hp'
            have hgp := ih u (by omega) p.2 (by omega) hp' g h3 hgu
            by_cases e2 : p.2 = g
            · rw [e2] at hp'
              have := pair_inj h.ndv hp' hg
              omega
            · exact im p.2 (by have := op.2.1; omega) (by have := op.2.1; omega) (by omega) (by rw [← h4]; exact op.2.2.2.2.symm)
          · exact h.nw u (by omega) hk g h3 hgu
      rcases Nat.lt_or_ge g u with r | r
      · exact (inner u u (Nat.le_refl _) hu r e).elim
      · exact r
  exact fun t g => key t t (Nat.le_refl _) g
/-- the handing -/
def hdOf (n : Nat) (F : List (Nat × Nat)) : List (Option Nat) := (List.range n).map fun t => (F.find? fun p => p.1 == t).map (·.2)
theorem find_F (nd : (F.map (·.1)).Nodup) {t g : Nat} : ((F.find? fun p => p.1 == t).map (·.2)) = some g ↔ (t, g) ∈ F := by
  constructor
  · intro h
    obtain ⟨p, hp, e⟩ := Option.map_eq_some_iff.mp h
    have h1 := List.mem_of_find?_eq_some hp
    have h2 := List.find?_some hp
    have : p = (t, g) := Prod.ext (by simpa using h2) e
    rw [← this]
    exact h1
  · intro h
    cases hf : F.find? fun p => p.1 == t with
    | none =>
      have := List.find?_eq_none.mp hf _ h
      simp at this
    | some p =>
      have h1 := List.mem_of_find?_eq_some hf
      have h2 := List.find?_some hf
      have h3 : p.1 = t := by simpa using h2
      have h4 : (t, p.2) ∈ F := by rw [← h3]; exact h1
      rw [pair_fun nd h h4]
      rfl
theorem hdOf_at {n t : Nat} {F : List (Nat × Nat)} (h : t < n) : (hdOf n F)[t]? = some ((F.find? fun p => p.1 == t).map (·.2)) := by
  unfold hdOf
  rw [List.getElem?_map, List.getElem?_range h]
  rfl
theorem Hist.handOk (h : Hist ls k ls.length F th made) : HandOk ls (some k) (hdOf ls.length F) where
  len := by unfold hdOf; simp
  ok := fun t g e => by
    have ht : t < ls.length := by
      have := (List.getElem?_eq_some_iff.mp e).1
      unfold hdOf at this
      simpa using this
    rw [hdOf_at ht] at e
    have hp := (find_F h.ndk).mp (Option.some.inj e)
    obtain ⟨h1, h2, h3, h4, h5⟩ := h.ok _ hp
    exact mem_givers.mpr ⟨by show g < ls.length; have h2 : g < t := h2; omega, h3, fun k' ek => by cases ek; have h4 : bg ls t ≤ ed ls g + k := h4; omega⟩
  inj := fun t u g e1 e2 => by
    have ht : t < ls.length := by
      have := (List.getElem?_eq_some_iff.mp e1).1
      unfold hdOf at this
      simpa using this
    have hu : u < ls.length := by
      have := (List.getElem?_eq_some_iff.mp e2).1
      unfold hdOf at this
      simpa using this
    rw [hdOf_at ht] at e1
    rw [hdOf_at hu] at e2
    exact pair_inj h.ndv ((find_F h.ndk).mp (Option.some.inj e1)) ((find_F h.ndk).mp (Option.some.inj e2))
/-- who was ahead with the same thing -/
def aheadOf (th : List Int) (t : Nat) : List Nat := (List.range t).filter fun g => decide (thA th g = thA th t)
theorem Hist.ahead (h : Hist ls k T F th made) {t : Nat} (ht : t < T) : (aheadOf th t = [] ∧ ((F.find? fun p => p.1 == t).map (·.2)) = none) ∨ ∃ g, ((F.find? fun p => p.1 == t).map (·.2)) = some g ∧ g ∈ aheadOf th t ∧ ∀ u ∈ aheadOf th t, u ≤ g := by
  cases hf : (F.find? fun p => p.1 == t).map (·.2) with
  | none =>
    refine .inl ⟨?_, rfl⟩
    unfold aheadOf
    rw [List.filter_eq_nil_iff]
    intro u hu
    rw [List.mem_range] at hu
    have hn : t ∉ F.map (·.1) := fun z => by
      obtain ⟨p, hp, e⟩ := List.mem_map.mp z
      have := (find_F h.ndk).mpr (show (t, p.2) ∈ F by rw [← e]; exact hp)
      rw [hf] at this
      cases this
    have := h.nw t ht hn u hu
    simpa using this
  | some g =>
    have hp := (find_F h.ndk).mp hf
    obtain ⟨h1, h2, h3, h4, h5⟩ := h.ok _ hp
    refine .inr ⟨g, rfl, List.mem_filter.mpr ⟨List.mem_range.mpr h2, by simpa using h5.symm⟩, fun u hu => ?_⟩
    obtain ⟨u1, u2⟩ := List.mem_filter.mp hu
    exact h.last t g ht hp u (List.mem_range.mp u1) (by simpa using u2)
end
/-- an interval of the numbers -/
theorem filter_iv {a m n : Nat} {p : Nat → Bool} (h : a + m ≤ n) (hp : ∀ t, t < n → (p t = true ↔ a ≤ t ∧ t < a + m)) : (List.range n).filter p = (List.range m).map (· + a) := by
  have e : n = a + (m + (n - (a + m))) := by omega
  rw [e, range_add, range_add, List.filter_append, List.map_append, List.filter_append]
  have e1 : (List.range a).filter p = [] := List.filter_eq_nil_iff.mpr fun t ht q => by
    rw [List.mem_range] at ht
    have := (hp t (by omega)).mp q
    omega
  have e2 : ((List.range m).map (· + a)).filter p = (List.range m).map (· + a) := List.filter_eq_self.mpr fun t ht => by
    obtain ⟨u, hu, rfl⟩ := List.mem_map.mp ht
    rw [List.mem_range] at hu
    exact (hp _ (by omega)).mpr ⟨by omega, by omega⟩
  have e3 : (((List.range (n - (a + m))).map (· + m)).map (· + a)).filter p = [] := List.filter_eq_nil_iff.mpr fun t ht q => by
    obtain ⟨u, hu, rfl⟩ := List.mem_map.mp ht
    obtain ⟨v, hv, rfl⟩ := List.mem_map.mp hu
    rw [List.mem_range] at hv
    have := (hp _ (by omega)).mp q
    omega
  rw [e1, e2, e3]
  simp
/-- the loans that begin at b -/
theorem begin_iv {ls : List Ln} {b : Int} {T : Nat} (V : Valid ls) (h1 : ∀ t, t < T → bg ls t < b) (h2 : ∀ t, T ≤ t → t < ls.length → b ≤ bg ls t) (hT : T ≤ ls.length) :
    ∃ m, T + m ≤ ls.length ∧ (List.range ls.length).filter (fun t => decide (bg ls t = b)) = (List.range m).map (· + T) ∧ (∀ t, T + m ≤ t → t < ls.length → bg ls t ≠ b) ∧ ∀ j, j < m → bg ls (j + T) = b := by
  -- the first with a later begin
  have ex : ∀ d, T + d ≤ ls.length → (∀ t, T ≤ t → t < T + d → bg ls t = b) → ∃ m, T + m ≤ ls.length ∧ (∀ t, T ≤ t → t < T + m → bg ls t = b) ∧ ∀ t, T + m ≤ t → t < ls.length → bg ls t ≠ b := by
    have key : ∀ r d, T + d + r = ls.length → (∀ t, T ≤ t → t < T + d → bg ls t = b) → ∃ m, T + m ≤ ls.length ∧ (∀ t, T ≤ t → t < T + m → bg ls t = b) ∧ ∀ t, T + m ≤ t → t < ls.length → bg ls t ≠ b := by
      intro r
      induction r with
      | zero => intro d hd h; exact ⟨d, by omega, h, fun t h1 h2 => by omega⟩
      | succ r ih =>
        intro d hd h
        by_cases e : bg ls (T + d) = b
        · refine ih (d + 1) (by omega) fun t h3 h4 => ?_
          by_cases q : t = T + d
          · rw [q]; exact e
          · exact h t h3 (by omega)
        · refine ⟨d, by omega, h, fun t h3 h4 => ?_⟩
          have a1 := bg_mono V h3 h4
          have a2 := h2 (T + d) (by omega) (by omega)
          omega
    exact fun d hd h => key (ls.length - (T + d)) d (by omega) h
  obtain ⟨m, hm, e1, e2⟩ := ex 0 (by omega) (fun t _ _ => by omega)
  refine ⟨m, hm, filter_iv hm fun t ht => ?_, e2, fun j hj => e1 _ (by omega) (by omega)⟩
  rw [decide_eq_true_eq]
  constructor
  · intro h
    rcases Nat.lt_or_ge t T with r | r
    · have := h1 t r; omega
    · rcases Nat.lt_or_ge t (T + m) with r2 | r2
      · exact ⟨r, r2⟩
      · exact absurd h (e2 t r2 ht)
  · rintro ⟨h3, h4⟩
    exact e1 t h3 h4
end M
/-! K75S1 -/
set_option Elab.async false
set_option linter.all false
set_option maxRecDepth 100000
set_option maxHeartbeats 4000000
/-! The story: begin. -/
namespace Q
open PySem PySem.Spec PyProof.Rows L2 Evl SlX
open M (Ln Fr)
/-- a property of a class with slots -/
structure PrR (P : Program) (w : World) (K : PySem.W.Frag) (mg : Str → Option Value) (base : Heap) (k : Nat) (C : Addr) (f : Str) (sp : Sp) : Prop where
  ex : ∃ p g : Addr, SCls K C ∧ PropOf K C f p g ∧ FnR P w K mg base CX0 k g sp
theorem pe_pr {X : Cx} {k j : Nat} {C : Addr} {f : Str} {sp : Sp} {pos : Pos} {e : Expr} {ta : TE} (c : PrR X.prog X.w X.K X.mg X.base k C f sp) (hr : Room j X.A) (hk : k + 1 ≤ j) (he : PE X e ta) (hb : attributeBase e f X.env (eval e X.env) = eval e X.env := by rfl) : PE X (.Attribute e f pos) (tPropSl C sp E0 ta) := by
  obtain ⟨p, g, hc, hp, F⟩ := c.ex
  exact pe_propSl he hc hp.at_ hp.get hp.tak hp.rec_ F (hr.mono hk) (fun _ _ _ _ h => h.elim) hb
section
variable {σ : L2.St} {B : Hp} {ta tb : TE} {K : PySem.W.Frag} {C : Addr}
theorem ep_pp {s : PSt} {R : PSt → PV} {E : XK} (ho : EvP ta σ B (isP C s)) : EvP (tPropSl C (spF (APr C) R) E ta) σ B (R s) :=
  Co.bind (r := fun x H Q => ∃ a dx vs, x = .ref a ∧ Slt H a C dx vs ∧ spF (APr C) R [.ref a] H Q E) ho fun x G e p => fun H1 e1 Q q => by
    obtain ⟨a, dx, vs, rfl, hs⟩ := isP_slt p
    obtain ⟨a', Ft, e2, hp⟩ := p
    cases e2
    exact ⟨a, dx, vs, rfl, hs H1 e1, s, G, e1, ⟨a, Ft, rfl, hp⟩, q⟩
/-- [..] * n -/
theorem ep_rep {ds : List PyData} {n : Int} (ha : EvP ta σ B (is (.list ds))) (hb : EvP tb σ B (is (.int n))) (h0 : 0 ≤ n) (h1 : n ≤ 1000) (hd : ds.length ≤ 1) : EvP (tOp rRep ta tb) σ B (is (.list (List.replicate n.toNat ds).flatten)) :=
  ep_op ha mo_is hb mo_is fun G x y e p1 p2 => fun H1 e1 Q q => by
    obtain ⟨a, xs, rfl, h2, h3⟩ := De.lst' p1
    have hl := h3.len
    refine ⟨a, n, xs, rfl, De.int' p2, e1 _ _ h2, by omega, by omega, ?_, (Co.new (P := is (.list (List.replicate n.toNat ds).flatten)) fun G' a e2 h => .lst h ?_) H1 e1 Q q⟩
    · refine Nat.le_trans (Nat.mul_le_mul (show xs.length ≤ 1 by omega) (show n.toNat ≤ 1000 by omega)) (by decide)
    · have h4 := h3.mono e2
      generalize n.toNat = m
      induction m with
      | zero => exact .nil
      | succ m ih =>
        rw [List.replicate_succ, List.replicate_succ, List.flatten_cons, List.flatten_cons]
        exact h4.app ih
end
structure SF (K : PySem.W.Frag) (C : Addr) : Prop where
  c : SCls K C
  gone : ∃ p, Slot1 K C "own_gone" p 0
  made : ∃ p, Slot1 K C "own_made" p 1
  numbers : ∃ p, Slot1 K C "own_numbers" p 2
  things : ∃ p, Slot1 K C "own_things" p 3
abbrev sws (lg lm ln dt : Addr) : List (Option V) := [some (.ref lg), some (.ref lm), some (.ref ln), some (.ref dt)]
/-- things by loan -/
def kvS (th : List Int) : List (Key × V) := (List.range th.length).map fun t => (.inl (t : Nat), .int (M.thA th t))
theorem kvS_snoc (th : List Int) (x : Int) : putK (kvS th) (.inl (th.length : Nat)) (.int x) = kvS (th ++ [x]) := by
  rw [putK_new]
  · unfold kvS
    rw [List.length_append, List.length_singleton, List.range_succ, List.map_append]
    congr 1
    · apply List.map_congr_left
      intro t ht
      rw [List.mem_range] at ht
      rw [M.getD_app_l ht]
    · show _ = [((.inl ((th.length : Nat) : Int) : Key), V.int (M.thA (th ++ [x]) th.length))]
      rw [M.getD_app_r]
  · unfold kvS
    rw [List.map_map]
    intro q
    obtain ⟨t, ht, e⟩ := List.mem_map.mp q
    have e : (.inl (t : Int) : Key) = .inl ((th.length : Nat) : Int) := e
    have := Sum.inl.inj e
    rw [List.mem_range] at ht
    omega
def pOf (ls : List Ln) (k : Int) (d : Option Int) (b : Int) (th : List Int) (L : List Nat) (lent there : List Int) (made : Int) : PSt := ⟨k, d, b, L.map fun g => (M.thA th g, M.ed ls g), lent, made, there⟩
/-- what a story's walk is about -/
structure SI where
  ls : List Ln
  k : Int
  d : Option Int
  a : Addr
  dx : Addr
  lg : Addr
  lm : Addr
  ln : Addr
  dt : Addr
  p : Addr
def SI.dep (i : SI) : Bool := i.d.isNone
structure SOk (i : SI) : Prop where
  V : M.Valid i.ls
  n : i.ls.length ≤ 10
  k0 : 0 ≤ i.k ∧ i.k ≤ 1000
  e0 : ∀ l ∈ i.ls, l.2 ≤ 1000
  d0 : ∀ d, i.d = some d → 0 ≤ d
/-- the story and its pool as they stand at beat b, T loans begun -/
structure StP' (Cs Cp : Addr) (i : SI) (B G : Hp) (Ft : List Addr) (b : Int) (q T : Nat) (F : List (Nat × Nat)) (th : List Int) (L : List Nat) (lent there : List Int) (made : Int) : Prop where
  sim : M.Sim i.ls i.k b i.dep q T F th L lent there made
  p : PAt Cp G i.p Ft (pOf i.ls i.k i.d b th L lent there made)
  own : Own B Ft
  ins : Ins Cs G i.a i.dx (sws i.lg i.lm i.ln i.dt)
  hm : ∃ ms : List Int, G i.lm = some (.lst (ms.map V.int)) ∧ (ms.length : Int) = made
  hd : G i.dt = some (.dK (kvS th))
  hg : ∃ ms : List Int, G i.lg = some (.lst (ms.map V.int)) ∧ (ms.length : Int) ≤ 10 * b
  hn : ∃ ms : List Int, G i.ln = some (.lst (ms.map V.int)) ∧ (ms.length : Int) ≤ b
  b0 : 0 ≤ b
  ht : (there.length : Int) ≤ made
  n1 : i.lm ≠ i.lg ∧ i.lm ≠ i.ln ∧ i.lg ≠ i.ln
  nf : ∀ x ∈ [i.a, i.dx, i.lg, i.lm, i.ln, i.dt], x ∉ Ft ∧ B x = none
section
variable {Cs Cp : Addr} {i : SI} {B G G' : Hp} {Ft : List Addr} {b : Int} {q T : Nat} {F : List (Nat × Nat)} {th : List Int} {L : List Nat} {lent there : List Int} {made : Int}
theorem StP'.mono (e : Ex G G') (h : StP' Cs Cp i B G Ft b q T F th L lent there made) : StP' Cs Cp i B G' Ft b q T F th L lent there made :=
  ⟨h.sim, h.p.mono e, h.own, h.ins.mono e, let ⟨ms, h1, h2⟩ := h.hm; ⟨ms, e _ _ h1, h2⟩, e _ _ h.hd, let ⟨ms, h1, h2⟩ := h.hg; ⟨ms, e _ _ h1, h2⟩, let ⟨ms, h1, h2⟩ := h.hn; ⟨ms, e _ _ h1, h2⟩, h.b0, h.ht, h.n1, h.nf⟩
theorem StP'.small (o : SOk i) (h : StP' Cs Cp i B G Ft b q T F th L lent there made) : T ≤ 10 ∧ made ≤ 10 ∧ 0 ≤ made := by
  have h1 := h.sim.tn
  have h2 := o.n
  have h3 := h.sim.h.cnt
  obtain ⟨ms, _, h4⟩ := h.hm
  omega
theorem Lnodup (h : StP' Cs Cp i B G Ft b q T F th L lent there made) : L.length ≤ T := by
  have := M.len_le (A := L) (B := List.range T) (M.asc_nodup h.sim) fun g hg => List.mem_range.mpr ((h.sim.mem g).mp hg).1
  rwa [List.length_range] at this
end
section
variable {B G H H1 : Hp} {σ : L2.St} {te td ty : TE} {P : PV} {nx : L2.St → Hp → Prop} {rt : VK} {bk ct : L2.St → Hp → Prop} {C a dx : Addr} {ws : List (Option V)} {j : Nat} {E : XK}
/-- a method that changes what is new -/
theorem em_m {ι : Type} {A : ι → Hp → Hp → List V → Prop} {R : ι → Hp → Hp → Hp → V → Prop} (i : ι) (hs : σ[j]? = some (some (.ref a))) (hi : Ins C G a dx ws) (hA : A i B G [.ref a]) : Em (tMethSl C (spR A R) E (tVar j) tNil) σ B G (R i B G) := fun H1 H kn Q q =>
  ⟨.ref a, hs, a, dx, ws, rfl, (hi.mono kn.le).slt, i, B, H1, G, kn, hA, fun v H' G' k r => q v H' G' k r⟩
theorem q_dputM (kn : Kn B H1 H G) (hv : Em te σ B G P) (k : ∀ v H' G', Kn B H1 H' G' → P G' v → ∃ D kvs i, Ev td σ G' (.ref D) ∧ EvP ty σ G' (is (.int i)) ∧ B D = none ∧ G' D = some (.dK kvs) ∧ kvs.length < 100000 ∧ ∀ H2 G2, Kn B H1 H2 G2 → Ex G' G2 → Kn B H1 (upd H2 D (.dK (putK kvs (.inl i) v))) (upd G2 D (.dK (putK kvs (.inl i) v))) → nx σ (upd H2 D (.dK (putK kvs (.inl i) v)))) : sDPut td ty te ⟨nx, rt, bk, ct⟩ σ H :=
  hv H1 H kn _ fun v H' G' kn' p => by
    obtain ⟨D, kvs, i, ho, hk, hB, hG, hz, k2⟩ := k v H' G' kn' p
    refine ho H' kn'.le _ fun H3 e3 => hk H3 (kn'.le.trans e3) _ fun y H4 e4 p4 => ?_
    have e := e3.trans e4
    obtain ⟨k3, e5⟩ := kn'.pure e
    exact ⟨D, _, rfl, .inl ⟨kvs, .inl i, e _ _ (kn'.le _ _ hG), De.int' p4, sz_lt hz, rfl⟩, k2 H4 _ k3 e5 (k3.upd hB (e5 _ _ hG))⟩
end
theorem pOf_snoc {ls : List Ln} {k b : Int} {d : Option Int} {th : List Int} {x : Int} {L : List Nat} {lent there : List Int} {made : Int} (h : ∀ g ∈ L, g < th.length) : pOf ls k d b (th ++ [x]) L lent there made = pOf ls k d b th L lent there made := by
  unfold pOf
  congr 1
  apply List.map_congr_left
  intro g hg
  rw [M.getD_app_l (h g hg)]
section
variable {P : Program} {w : World} {K : PySem.W.Frag} {mg : Str → Option Value} {base : Heap} {Cs Cp : Addr}
structure BI where
  i : SI
  Ft : List Addr
  b : Int
  T : Nat
  m : Nat
  F : List (Nat × Nat)
  th : List Int
  L : List Nat
  lent : List Int
  there : List Int
  made : Int
  vs : V
def ABegin (Cs Cp : Addr) (x : BI) : Hp → Hp → List V → Prop := fun B G vs => vs = [.ref x.i.a, x.vs, .ref x.i.p] ∧ SOk x.i ∧ StP' Cs Cp x.i B G x.Ft x.b x.i.ls.length x.T x.F x.th x.L x.lent x.there x.made ∧
  De (wo (x.Ft ++ [x.i.lm, x.i.dt]) G) x.vs (dN ((List.range x.m).map (· + x.T))) ∧ (∀ j, j < x.m → x.T + j < x.i.ls.length ∧ M.bg x.i.ls (j + x.T) = x.b)
def RBegin (Cs Cp : Addr) (x : BI) : Hp → Hp → Hp → V → Prop := fun B G G' v => v = .non ∧ ∃ F th L lent there made, StP' Cs Cp x.i B G' x.Ft x.b x.i.ls.length (x.T + x.m) F th L lent there made ∧ Fr (x.Ft ++ [x.i.lm, x.i.dt]) G G'
def spSBegin (Cs Cp : Addr) : Sp := spR (ABegin Cs Cp) (RBegin Cs Cp)
abbrev dSBegin (a : Fg → Addr) : Df := ⟨a, "begin", "Story.begin", sSBegin, []⟩
theorem scSBegin : FnScope ["self", "some", "pool", "number", "before"] ["self", "some", "pool"] (defScope sSBegin) := ⟨rfl, rfl, rfl, by decide +kernel, rfl, by decide +kernel, by decide +kernel⟩
theorem ok_SBegin {a : Fg → Addr} {f : Addr} {fd : FuncData} (F : At K (dSBegin a) f fd) (T : Bt mg) (S : SF K Cs) (PN : PrR P w K mg base 1 Cp "now" (spPNow Cp)) (PM : PrR P w K mg base 1 Cp "made" (spPMade Cp)) (PT : MR P w K mg base 2 Cp "take" (spPTake Cp)) : FR P w K mg base 3 f (spSBegin Cs Cp) := by
  refine raw0 (d := dSBegin a) (fokR F scSBegin (fun i B G vs h => by rw [h.1]; rfl) fun cdv A' outer s H E hr => ?_) (F.bindsN fun _ _ _ _ _ _ us hl => match us, hl with | [_, _, _], _ => rfl)
  refine ⟨_, (pss_one ((ps_for PassesOwn.never rfl (pi_list (pv 1)) (pg_name (i := 3) scSBegin.nd rfl (by first | exact Or.inl rfl | exact Or.inr rfl)) ((pss_cons ((ps_asg (pe_pr PM hr (Nat.le_refl _) (pv 2)) (pg_name (i := 4) scSBegin.nd rfl (by first | exact Or.inl rfl | exact Or.inr rfl)))) (pss_cons ((ps_dput (hu_of hr) (pe_sl (pv 0)) ((pv 3)) (pe_m0 PT hr (Nat.le_refl _) (pv 2)) rfl)) (pss_one ((ps_expr (pe_bm PySem.F.plainAttrs_list PySem.F.slot_list_extend PySem.F.type_list_extend mt_extend (pe_sl (pv 0)) (pa_cons ((pe_op op_rep (pe_lst (pa_cons (pe_pr PN hr (Nat.le_refl _) (pv 2)) pa_nil)) ((pe_op op_sub (pe_pr PM hr (Nat.le_refl _) (pv 2)) ((pv 4)))))) pa_nil))))))))))), fun x B H1 H G vs rt h kn hret => ?_⟩
  obtain ⟨rfl, ok, st, dvs, hb⟩ := h
  have hdt : ∃ o, G x.i.dt = some o := ⟨_, st.hd⟩
  have hlm : ∃ o, G x.i.lm = some o := let ⟨ms, h1, _⟩ := st.hm; ⟨_, h1⟩
  refine q_for (α := Nat) (l := (List.range x.m).map (· + x.T)) (ι := nt) (wo (x.Ft ++ [x.i.lm, x.i.dt]) G) kn wo_le (wi_list (ep_d rfl dvs)) (fun j σ G' => ∃ y3 y4 F th L lent there made, σ = [some (.ref x.i.a), some x.vs, some (.ref x.i.p), y3, y4] ∧ StP' Cs Cp x.i B G' x.Ft x.b x.i.ls.length (x.T + j) F th L lent there made ∧ Fr (x.Ft ++ [x.i.lm, x.i.dt]) G G') ⟨_, _, _, _, _, _, _, _, rfl, st, Fr.refl⟩ ?_ ?_ ?_
  · rintro j σ G1 G2 ⟨y3, y4, F, th, L, lent, there, made, e, h1, h2⟩ e'
    exact ⟨y3, y4, F, th, L, lent, there, made, e, h1.mono e', h2.tr (Fr.of e')⟩
  · rintro j t Gw σ H' G' hj eGw frs eG kn' ⟨y3, y4, F, th, L, lent, there, made, rfl, h1, h2⟩
    have hjm : t = j + x.T ∧ j < x.m := by
      rw [List.getElem?_map] at hj
      obtain ⟨u, hu, rfl⟩ := Option.map_eq_some_iff.mp hj
      obtain ⟨rfl, hm⟩ := range_at hu
      exact ⟨rfl, hm⟩
    obtain ⟨rfl, hjm⟩ := hjm
    obtain ⟨hT, hbg⟩ := hb j hjm
    have hsm := h1.small ok
    have hLT := Lnodup h1
    obtain ⟨dx, li, ll, lt, rs, hFt, h5⟩ := id h1.p
    refine ⟨fun σ2 => σ2 = [some (.ref x.i.a), some x.vs, some (.ref x.i.p), some (.int ((j + x.T : Nat) : Int)), y4], tg_name fun y hy => by rw [De.int' hy]; rfl, ?_⟩
    rintro σ2 rfl
    -- before
    refine q_seq (q_asg kn' (ep_pp (R := fun s => is (.int s.made)) (ep_var (v := .ref x.i.p) rfl ⟨_, _, rfl, h1.p⟩ mo_P)) fun v2 H2 G2 kn2 e2 d2 => ?_)
    cases (show v2 = .int made from De.int' d2)
    have st2 := h1.mono e2
    have smp : SmP (pOf x.i.ls x.i.k x.i.d x.b th L lent there made) := by
      have l1 := h1.sim.ln.length_eq
      have l2 := List.length_filter_le (fun g => !decide (M.back x.i.ls x.b x.i.ls.length g)) (List.range (x.T + j))
      rw [List.length_map] at l1
      rw [List.length_range] at l2
      have l3 := h1.ht
      refine ⟨by show (L.map _).length ≤ 1000; rw [List.length_map]; omega, by show lent.length ≤ 1000; omega, by show there.length ≤ 1000; omega, ok.d0⟩
    -- things[number] = pool.take()
    have h52 := h5.mono e2
    refine q_seq (q_dputM kn2 (em_m (σ := [some (.ref x.i.a), some x.vs, some (.ref x.i.p), some (.int ((j + x.T : Nat) : Int)), some (.int made)]) (j := 2) (a := x.i.p) ⟨pOf x.i.ls x.i.k x.i.d x.b th L lent there made, x.i.p, x.Ft⟩ rfl h52.ins ⟨rfl, st2.p, st2.own, smp⟩) fun v3 H3 G3 kn3 ⟨hv3, hp3, f3⟩ => ?_)
    subst hv3
    have nf := h1.nf
    have keep3 : ∀ b ∈ [x.i.a, x.i.dx, x.i.lg, x.i.lm, x.i.ln, x.i.dt], ∀ o, G2 b = some o → G3 b = some o := fun b hb o q => f3 b o (nf b hb).1 q
    obtain ⟨pT, tT⟩ := S.things
    obtain ⟨pM, tM⟩ := S.made
    have ins3 : Ins Cs G3 x.i.a x.i.dx (sws x.i.lg x.i.lm x.i.ln x.i.dt) := ⟨st2.ins.ne, keep3 _ (by simp) _ st2.ins.o, keep3 _ (by simp) _ st2.ins.d⟩
    have hlen : th.length = x.T + j := h1.sim.h.len
    refine ⟨x.i.dt, kvS th, ((j + x.T : Nat) : Int), ev_sl S.c tT ins3 (ev_var rfl) rfl, ep_d rfl (.int _), (nf _ (by simp)).2, keep3 _ (by simp) _ st2.hd, by unfold kvS; simp; omega, fun H4 G4 kn4 e4 kn5 => ?_⟩
    have ekv : putK (kvS th) (.inl ((j + x.T : Nat) : Int)) (.int (takeR (pOf x.i.ls x.i.k x.i.d x.b th L lent there made)).1) = kvS (th ++ [(takeR (pOf x.i.ls x.i.k x.i.d x.b th L lent there made)).1]) := by
      rw [← kvS_snoc, hlen, Nat.add_comm x.T j]
    rw [ekv] at kn5 ⊢
    -- what take has done
    obtain ⟨F', L', lent', there', made', hsim, hst, hm', hth'⟩ : ∃ F' L' lent' there' made', M.Sim x.i.ls x.i.k x.b x.i.dep x.i.ls.length (x.T + j + 1) F' (th ++ [(takeR (pOf x.i.ls x.i.k x.i.d x.b th L lent there made)).1]) L' lent' there' made' ∧
        (takeR (pOf x.i.ls x.i.k x.i.d x.b th L lent there made)).2 = pOf x.i.ls x.i.k x.i.d x.b (th ++ [(takeR (pOf x.i.ls x.i.k x.i.d x.b th L lent there made)).1]) L' lent' there' made' ∧ (made' = made ∨ made' = made + 1) ∧ (there'.length : Int) ≤ made' := by
      have hbg' : M.bg x.i.ls (x.T + j) = x.b := by rw [Nat.add_comm]; exact hbg
      by_cases hL : L = []
      · have e1 : (takeR (pOf x.i.ls x.i.k x.i.d x.b th L lent there made)) = (made, { pOf x.i.ls x.i.k x.i.d x.b th L lent there made with made := made + 1, lent := lent ++ [made], there := there ++ [made] }) := by
          unfold takeR
          rw [if_pos (by show L.map _ = []; rw [hL]; rfl)]
          rfl
        rw [e1]
        refine ⟨F, L, lent ++ [made], there ++ [made], made + 1, h1.sim.new ok.V hT hbg' hL, ?_, .inr rfl, ?_⟩
        · rw [pOf_snoc (by rw [hL]; simp)]
          rfl
        · rw [List.length_append, List.length_singleton]
          have := h1.ht
          omega
      · have hne : (pOf x.i.ls x.i.k x.i.d x.b th L lent there made).idle ≠ [] := fun q => hL (List.map_eq_nil_iff.mp q)
        obtain ⟨hp0, hpl⟩ := plc_lt hne ok.d0
        have hpl' : (plc (pOf x.i.ls x.i.k x.i.d x.b th L lent there made)).toNat < L.length := by
          have : (pOf x.i.ls x.i.k x.i.d x.b th L lent there made).idle.length = L.length := List.length_map _
          omega
        generalize hjj : (plc (pOf x.i.ls x.i.k x.i.d x.b th L lent there made)).toNat = jj at hpl'
        have e1 : (takeR (pOf x.i.ls x.i.k x.i.d x.b th L lent there made)) = (M.thA th L[jj], { pOf x.i.ls x.i.k x.i.d x.b th L lent there made with idle := (L.eraseIdx jj).map (fun g => (M.thA th g, M.ed x.i.ls g)), lent := lent ++ [M.thA th L[jj]] }) := by
          unfold takeR
          rw [if_neg hne, hjj]
          have e2 : ((pOf x.i.ls x.i.k x.i.d x.b th L lent there made).idle.getD jj (0, 0)).1 = M.thA th L[jj] := by
            show ((L.map fun g => (M.thA th g, M.ed x.i.ls g)).getD jj (0, 0)).1 = _
            rw [List.getD_eq_getElem?_getD, List.getElem?_map, List.getElem?_eq_getElem hpl']
            rfl
          rw [e2]
          have e3 : (pOf x.i.ls x.i.k x.i.d x.b th L lent there made).idle.eraseIdx jj = (L.eraseIdx jj).map (fun g => (M.thA th g, M.ed x.i.ls g)) := by rw [map_erase]; rfl
          rw [e3]
          rfl
        rw [e1]
        refine ⟨_, L.eraseIdx jj, lent ++ [M.thA th L[jj]], there, made, h1.sim.take ok.V hT hbg' (List.getElem?_eq_getElem hpl') (fun hd => ?_), ?_, .inl rfl, h1.ht⟩
        · have hdn : x.i.d = none := by
            unfold SI.dep at hd
            exact Option.isNone_iff_eq_none.mp hd
          rw [← hjj]
          unfold plc
          show (match x.i.d with | none => (((pOf x.i.ls x.i.k x.i.d x.b th L lent there made).idle.length : Int) - 1) | some d => min d (((pOf x.i.ls x.i.k x.i.d x.b th L lent there made).idle.length : Int) - 1)).toNat + 1 = L.length
          rw [hdn]
          have : (pOf x.i.ls x.i.k none x.b th L lent there made).idle.length = L.length := List.length_map _
          show ((((pOf x.i.ls x.i.k none x.b th L lent there made).idle.length : Int) - 1)).toNat + 1 = L.length
          rw [this]
          have := List.length_pos_iff.mpr hL
          omega
        · rw [pOf_snoc (fun g hg => by
            have := ((h1.sim.mem g).mp (List.mem_of_mem_eraseIdx hg)).1
            omega)]
          rfl
    have hp4 := (hp3.mono e4).upd (D := x.i.dt) (o := .dK (kvS (th ++ [(takeR (pOf x.i.ls x.i.k x.i.d x.b th L lent there made)).1]))) (nf _ (by simp)).1 fun xs q => by
      rw [e4 _ _ (keep3 _ (by simp) _ st2.hd)] at q
      cases q
    have hp4 : PAt Cp (L2.upd G4 x.i.dt (.dK (kvS (th ++ [(takeR (pOf x.i.ls x.i.k x.i.d x.b th L lent there made)).1])))) x.i.p x.Ft (takeR (pOf x.i.ls x.i.k x.i.d x.b th L lent there made)).2 := hp4
    rw [hst] at hp4
    generalize (takeR (pOf x.i.ls x.i.k x.i.d x.b th L lent there made)).1 = xn at *
    -- own_made.extend(..)
    obtain ⟨ms, hms, hml⟩ := st2.hm
    have ndm : x.i.dt ≠ x.i.lm := fun q => by have := st2.hd; rw [q, hms] at this; cases this
    have up5 : ∀ b ∈ [x.i.a, x.i.dx, x.i.lg, x.i.lm, x.i.ln], ∀ o, b ≠ x.i.dt → G2 b = some o → (L2.upd G4 x.i.dt (.dK (kvS (th ++ [xn])))) b = some o := fun b hb o n q => by
      rw [upd_ne n]
      exact e4 _ _ (keep3 b (by simp only [List.mem_cons, List.mem_nil_iff, or_false] at hb ⊢; rcases hb with h | h | h | h | h <;> simp [h]) o q)
    have na : x.i.a ≠ x.i.dt := fun q => by have := st2.ins.o; rw [q, st2.hd] at this; cases this
    have ndx : x.i.dx ≠ x.i.dt := fun q => by have := st2.ins.d; rw [q, st2.hd] at this; cases this
    have ins5 : Ins Cs (L2.upd G4 x.i.dt (.dK (kvS (th ++ [xn])))) x.i.a x.i.dx (sws x.i.lg x.i.lm x.i.ln x.i.dt) := ⟨st2.ins.ne, up5 _ (by simp) _ na st2.ins.o, up5 _ (by simp) _ ndx st2.ins.d⟩
    have hms5 := up5 x.i.lm (by simp) _ ndm.symm hms
    have isp5 : isP Cp (pOf x.i.ls x.i.k x.i.d x.b (th ++ [xn]) L' lent' there' made') (L2.upd G4 x.i.dt (.dK (kvS (th ++ [xn])))) (.ref x.i.p) := ⟨_, _, rfl, hp4⟩
    refine q_extend kn5 (nf _ (by simp)).2 hms5 ?_ (ev_sl S.c tM ins5 (ev_var rfl) rfl)
      (ep_rep (n := made' - made) (ep_lst (da_cons (ep_pp (R := fun s => is (.int s.now)) (ep_var (v := .ref x.i.p) rfl isp5 mo_P)) da_nil) (by show 1 ≤ 100000; decide)) (ep_sub (ep_pp (R := fun s => is (.int s.made)) (ep_var (v := .ref x.i.p) rfl isp5 mo_P)) (ep_d rfl (.int made))) (by omega) (by omega) (Nat.le_refl _)) fun vs6 H6 G6 kn6 e6 d6 kn7 => ?_
    · have : (List.replicate (made' - made).toNat [PyData.int x.b]).flatten.length = (made' - made).toNat := by simp
      rw [List.length_map]
      show ms.length + (List.replicate (made' - made).toNat [PyData.int x.b]).flatten.length ≤ 100000
      omega
    have ev6 : vs6 = (List.replicate (made' - made).toNat x.b).map V.int := by
      have e : (List.replicate (made' - made).toNat [PyData.int x.b]).flatten = (List.replicate (made' - made).toNat x.b).map .int := by simp
      have d6' : DeA G6 vs6 (List.replicate (made' - made).toNat [PyData.int x.b]).flatten := d6
      rw [e] at d6'
      exact d6'.ints'
    subst ev6
    have g6 : ∀ b ∈ [x.i.a, x.i.dx, x.i.lg, x.i.lm, x.i.ln], ∀ o, b ≠ x.i.dt → G2 b = some o → G6 b = some o := fun b hb o n q => e6 _ _ (up5 b hb o n q)
    have nal : x.i.a ≠ x.i.lm := fun q => by have := st2.ins.o; rw [q, hms] at this; cases this
    have ndl : x.i.dx ≠ x.i.lm := fun q => by have := st2.ins.d; rw [q, hms] at this; cases this
    obtain ⟨mg, hmg, hgl⟩ := st2.hg
    obtain ⟨mn, hmn, hnl⟩ := st2.hn
    have ngd : x.i.lg ≠ x.i.dt := fun q => by have := st2.hd; rw [← q, hmg] at this; cases this
    have nnd : x.i.ln ≠ x.i.dt := fun q => by have := st2.hd; rw [← q, hmn] at this; cases this
    have frAll : ∀ b o, b ∉ x.Ft ++ [x.i.lm, x.i.dt] → G' b = some o → (L2.upd G6 x.i.lm (.lst (ms.map V.int ++ (List.replicate (made' - made).toNat x.b).map V.int))) b = some o := fun b o n q => by
      simp only [List.mem_append, List.mem_cons, List.mem_nil_iff, or_false, not_or] at n
      rw [upd_ne n.2.1]
      refine e6 _ _ ?_
      rw [upd_ne n.2.2]
      exact e4 _ _ (f3 b o n.1 (e2 _ _ q))
    refine ⟨_, kn7, fun b o q => ?_, _, _, F', th ++ [xn], L', lent', there', made', rfl, ⟨?_, ?_, st2.own, ?_, ?_, ?_, ?_, ?_, h1.b0, hth', h1.n1, nf⟩, fun b o n q => frAll b o n (h2 b o n q)⟩
    · have n : b ∉ x.Ft ++ [x.i.lm, x.i.dt] := fun hb => by
        have hex : ∃ o, G b = some o := by
          simp only [List.mem_append, List.mem_cons, List.mem_nil_iff, or_false] at hb
          rcases hb with h | rfl | rfl
          · exact mem_ft st.p h
          · exact hlm
          · exact hdt
        obtain ⟨o2, ho2⟩ := hex
        rw [frs b o2 (kn.le _ _ ho2) (wo_in hb)] at q
        cases q
      exact frAll b o n (eG _ _ q)
    · rw [Nat.add_assoc] at hsim
      exact hsim
    · exact (hp4.mono e6).upd (nf _ (by simp)).1 fun xs q => by rw [g6 _ (by simp) _ ndm.symm hms] at q; cases q
    · exact ⟨st2.ins.ne, by rw [upd_ne nal]; exact g6 _ (by simp) _ na st2.ins.o, by rw [upd_ne ndl]; exact g6 _ (by simp) _ ndx st2.ins.d⟩
    · refine ⟨ms ++ List.replicate (made' - made).toNat x.b, by rw [upd_same, List.map_append], ?_⟩
      rw [List.length_append, List.length_replicate]
      omega
    · rw [upd_ne ndm]
      exact e6 _ _ upd_same
    · exact ⟨mg, by rw [upd_ne h1.n1.1.symm]; exact g6 _ (by simp) _ ngd hmg, hgl⟩
    · exact ⟨mn, by rw [upd_ne h1.n1.2.1.symm]; exact g6 _ (by simp) _ nnd hmn, hnl⟩
  · rintro σ H' G' Gw _ _ eG kn' ⟨y3, y4, F, th, L, lent, there, made, rfl, h1, h2⟩
    have e : ((List.range x.m).map (· + x.T)).length = x.m := by simp
    rw [e] at h1
    exact hret .non H' G' kn' ⟨rfl, F, th, L, lent, there, made, h1, h2⟩
end
end Q
/-! K75S2 -/
set_option Elab.async false
set_option linter.all false
set_option maxRecDepth 100000
set_option maxHeartbeats 4000000
/-! The story made: its walk. -/
namespace Q
open PySem PySem.Spec PyProof.Rows L2 Evl SlX
open M (Ln Fr)
section
variable {σ : L2.St} {B : Hp} {te : TE} {K : PySem.W.Frag}
theorem en_data {α : Type} {ι : α → PyData} {l : List α} {G : Hp} {xs : List V} {Ts : List Addr} (hd : DeA G xs (l.map ι)) (hl : Ts.length = xs.length) (hE : EnL xs G Ts) : DeA G (Ts.map V.ref) (l.zipIdx.map (enI ι)) := by
  have key : ∀ (ts : List Addr) (ys : List V) (l : List α) (j : Nat), DeA G ys (l.map ι) → ts.length = ys.length → (∀ (i : Nat) (T : Addr), ts[i]? = some T → ∃ x, ys[i]? = some x ∧ G T = some (.tup [.int ((j + i : Nat) : Int), x])) → DeA G (ts.map V.ref) ((l.zipIdx j).map (enI ι)) := by
    intro ts
    induction ts with
    | nil =>
      intro ys l j h hl _
      have : ys = [] := List.length_eq_zero_iff.mp hl.symm
      subst this
      have h2 := h.len
      have : l = [] := by
        cases l with
        | nil => rfl
        | cons => simp at h2
      subst this
      exact .nil
    | cons T ts ih =>
      intro ys l j h hl hE
      cases ys with
      | nil => simp at hl
      | cons y ys =>
        cases l with
        | nil => have := h.len; simp at this
        | cons a l =>
          cases h with
          | cons h1 h2 =>
            rw [List.zipIdx_cons, List.map_cons]
            obtain ⟨x, hx, hT⟩ := hE 0 T rfl
            cases hx
            refine .cons (.tup hT (.cons ?_ (.cons h1 .nil))) (ih ys l (j + 1) h2 (by simpa using hl) fun i T' hi => ?_)
            · exact .int _
            · obtain ⟨x, hx, hT'⟩ := hE (i + 1) T' (by simpa using hi)
              refine ⟨x, by simpa using hx, ?_⟩
              rw [show j + 1 + i = j + (i + 1) by omega]
              exact hT'
  refine key Ts xs l 0 hd hl fun i T hi => ?_
  obtain ⟨x, hx, hT⟩ := hE i T hi
  exact ⟨x, hx, by rw [Nat.zero_add]; exact hT⟩
/-- list(enumerate(t)): data -/
theorem ep_listEn {α : Type} {ι : α → PyData} {l : List α} (h : EvP te σ B (is (.tuple (l.map ι)))) (hl : l.length ≤ 1000) : EvP (tListEn K te) σ B (isF B (.list (l.zipIdx.map (enI ι)))) := fun H1 e Q q => h H1 e _ fun x H2 e2 p => by
  obtain ⟨a, xs, rfl, h1, h2⟩ := De.tup' p
  have hxl := h2.len
  rw [List.length_map] at hxl
  refine ⟨a, xs, rfl, st_of (cut_le _ _ h1), by omega, fun S H' Ts e3 hS h3 h4 h5 h6 => q _ H' (e2.trans e3) ⟨⟨S, rfl, fresh_back (e.trans e2) hS⟩, ?_⟩⟩
  refine .lst (by rw [cut_new (fresh_back e2 hS)]; exact h3) (en_data (h2.mono (cut_mono e3)) (by omega) fun j T hj => ?_)
  obtain ⟨y, hy, hT⟩ := h5 j T hj
  exact ⟨y, hy, by rw [cut_new (fresh_back e2 (h6 T (List.mem_of_getElem? hj)))]; exact hT⟩
theorem ep_lenP {C : Addr} {s : PSt} {ta : TE} {E : XK} (h : EvP ta σ B (isP C s)) (hz : s.there.length ≤ 1000) : EvP (tCB (rLenSl C (spPLen C) E) (tCons ta tNil)) σ B (is (.int (s.there.length : Nat))) :=
  ep_cb1 h mo_P fun x G e p => fun H1 e1 Q q => by
    obtain ⟨a, Ft, rfl, hp⟩ := p
    obtain ⟨a', dx, vs, e2, hs⟩ := isP_slt (C := C) (s := s) (G := G) ⟨a, Ft, rfl, hp⟩
    cases e2
    exact ⟨a, dx, vs, rfl, hs H1 e1, s, G, e1, ⟨a, Ft, rfl, hp⟩, fun v H2 e2 r => ⟨_, De.int' r, ⟨by omega, by omega⟩, q _ H2 e2 (by rw [De.int' r]; exact .int _)⟩⟩
theorem q_three {H : Hp} {g : TG} {nx : L2.St → Hp → Prop} {rt : VK} {bk ct : L2.St → Hp → Prop} (h : ∀ p1, H p1 = none → ∀ p2, L2.upd H p1 (.lst []) p2 = none → ∀ p3, L2.upd (L2.upd H p1 (.lst [])) p2 (.lst []) p3 = none → ∀ p4, L2.upd (L2.upd (L2.upd H p1 (.lst [])) p2 (.lst [])) p3 (.lst []) p4 = none →
    g (.ref p4) σ (L2.upd (L2.upd (L2.upd (L2.upd H p1 (.lst [])) p2 (.lst [])) p3 (.lst [])) p4 (.tup [.ref p1, .ref p2, .ref p3])) nx) : tAsg (tTup (tCons (tLst tNil) (tCons (tLst tNil) (tCons (tLst tNil) tNil)))) g ⟨nx, rt, bk, ct⟩ σ H :=
  ⟨by show 0 ≤ sizeLine; decide, fun p1 hp1 => ⟨by show 0 ≤ sizeLine; decide, fun p2 hp2 => ⟨by show 0 ≤ sizeLine; decide, fun p3 hp3 => ⟨by show 3 ≤ sizeLine; decide, fun p4 hp4 => h p1 hp1 p2 hp2 p3 hp3 p4 hp4⟩⟩⟩⟩
theorem em_m1 {B G : Hp} {ta : TE} {P1 : PV} {C a dx : Addr} {ws : List (Option V)} {j : Nat} {E : XK} {ι : Type} {A : ι → Hp → Hp → List V → Prop} {R : ι → Hp → Hp → Hp → V → Prop} (i : V → ι) (mo : Mo P1) (hs : σ[j]? = some (some (.ref a))) (hi : Ins C G a dx ws) (harg : EvP ta σ G P1) (hA : ∀ G' v, Ex G G' → P1 G' v → A (i v) B G' [.ref a, v]) :
    Em (tMethSl C (spR A R) E (tVar j) (tCons ta tNil)) σ B G (fun G2 v => ∃ G' v1, Ex G G' ∧ P1 G' v1 ∧ R (i v1) B G' G2 v) := fun H1 H kn Q q =>
  ⟨.ref a, hs, a, dx, ws, rfl, (hi.mono kn.le).slt, harg H kn.le _ fun v1 H2 e2 p => ⟨i v1, B, H1, _, (kn.pure e2).1, hA _ v1 (kn.pure e2).2 p, fun v H' G' k r => q v H' G' k ⟨_, v1, (kn.pure e2).2, p, r⟩⟩⟩
theorem em_mA {B G : Hp} {ta : TA} {PA : PVs} {C a dx : Addr} {ws : List (Option V)} {j : Nat} {E : XK} {ι : Type} {A : ι → Hp → Hp → List V → Prop} {R : ι → Hp → Hp → Hp → V → Prop} (i : List V → ι) (hs : σ[j]? = some (some (.ref a))) (hi : Ins C G a dx ws) (harg : EvA' ta σ G PA) (hA : ∀ G' vs, Ex G G' → PA G' vs → A (i vs) B G' (.ref a :: vs)) :
    Em (tMethSl C (spR A R) E (tVar j) ta) σ B G (fun G2 v => ∃ G' vs, Ex G G' ∧ PA G' vs ∧ R (i vs) B G' G2 v) := fun H1 H kn Q q =>
  ⟨.ref a, hs, a, dx, ws, rfl, (hi.mono kn.le).slt, harg H kn.le _ fun vs H2 e2 p => ⟨i vs, B, H1, _, (kn.pure e2).1, hA _ vs (kn.pure e2).2 p, fun v H' G' k r => q v H' G' k ⟨_, vs, (kn.pure e2).2, p, r⟩⟩⟩
theorem st_rep {H : Hp} {tn tb : TE} {Q : List V → Hp → Prop} (h : tCons tn tNil σ H fun xs H3 => xs.length ≤ sizeLine ∧ ∀ p, H3 p = none → tb σ (L2.upd H3 p (.lst xs)) fun y H4 => rRep (.ref p) y H4 fun z H5 => Q [z] H5) : tCons (tOp rRep (tLst (tCons tn tNil)) tb) tNil σ H Q := h
theorem kvS_val {th : List Int} {t : Nat} (h : t < th.length) : valV (kvS th) (.inl ((t : Nat) : Int)) = some (.int (M.thA th t)) := by
  unfold kvS valV
  rw [List.find?_map]
  have e : (List.range th.length).find? ((fun kv : Key × V => decide (kv.1 = (.inl ((t : Nat) : Int) : Key))) ∘ fun t => ((.inl ((t : Nat) : Int) : Key), V.int (M.thA th t))) = some t := by
    rw [List.find?_eq_some_iff_append]
    refine ⟨by simp, List.range t, (List.range (th.length - (t + 1))).map (· + (t + 1)), ?_, fun u hu => ?_⟩
    · rw [show th.length = t + 1 + (th.length - (t + 1)) by omega, M.range_add, List.range_succ]
      simp
    · rw [List.mem_range] at hu
      simp
      omega
  rw [e]
  rfl
end
section
variable {P : Program} {w : World} {K : PySem.W.Frag} {mg : Str → Option Value} {base : Heap} {Cs Cp : Addr}
/-- what a story's making leaves -/
def StDone (Cs : Addr) (ls : List Ln) (k : Int) (dep : Bool) (G : Hp) (a : Addr) : Prop := ∃ dx lg lm ln dt F th made, Ins Cs G a dx (sws lg lm ln dt) ∧ (∃ ms : List Int, G lm = some (.lst (ms.map V.int)) ∧ (ms.length : Int) = made) ∧ G dt = some (.dK (kvS th)) ∧ M.Hist ls k ls.length F th made ∧ (dep = true → F = M.gr (M.living ls (some k) M.bare) (M.ed ls) ls.length)
structure SIn where
  ls : List Ln
  k : Int
  d : Option Int
  a : Addr
  dx : Addr
  p : Addr
  Ft : List Addr
  vl : V
def ASIn (Cs Cp : Addr) (i : SIn) : Hp → Hp → List V → Prop := fun B G vs => vs = [.ref i.a, i.vl, .ref i.p] ∧ (M.Valid i.ls ∧ i.ls.length ≤ 10 ∧ (0 ≤ i.k ∧ i.k ≤ 1000) ∧ (∀ l ∈ i.ls, l.2 ≤ 1000) ∧ ∀ d, i.d = some d → 0 ≤ d) ∧ i.dx ≠ i.a ∧ G i.a = some (.ins Cs i.dx []) ∧ G i.dx = some (.own i.a) ∧ B i.a = none ∧ B i.dx = none ∧
  PAt Cp G i.p i.Ft (pst0 i.k i.d) ∧ Own B i.Ft ∧ De B i.vl (dl i.ls)
def spSInit (Cs Cp : Addr) : Sp := spR (ASIn Cs Cp) fun i B G G' v => v = .non ∧ StDone Cs i.ls i.k i.d.isNone G' i.a
theorem enprs_chg {G G' : Hp} (t : Tp G G') : ∀ {vs : List V} {l : List (Ln × Nat)}, DeA G vs (l.map (enI pr)) → DeA G' vs (l.map (enI pr))
  | _, [], .nil => .nil
  | _, p :: l, .cons a b => by
    refine .cons ?_ (enprs_chg t b)
    have a' : De G _ (.tuple [nt p.2, pr p.1]) := a
    obtain ⟨c, xs, rfl, h1, h2⟩ := De.tup' a'
    obtain ⟨v, u, rfl, h3, h4⟩ := h2.two
    refine .tup (t _ _ h1) (.cons (by rw [De.int' h3]; exact .int _) (.cons ?_ .nil))
    have h5 := prs_chg (l := [p.1]) t (.cons h4 .nil)
    cases h5 with
    | cons h6 _ => exact h6
theorem ints_woL {G : Hp} {a : Addr} {Ds : List Addr} {ns : List Int} (h : De G (.ref a) (dI ns)) (n : a ∉ Ds) : De (wo Ds G) (.ref a) (dI ns) := by
  cases h with
  | lst h1 h2 =>
    rw [h2.ints'] at h1
    exact .lst (by rw [wo_out n]; exact h1) (DeA.ints ns)
theorem le_lastE {ls : List Ln} {t : Nat} (h : t < ls.length) : M.ed ls t ≤ lastE ls := by
  have hm : M.ed ls t ∈ ends ls := by
    unfold M.ed ends
    rw [M.getD_lt h]
    exact List.mem_map.mpr ⟨_, List.getElem_mem h, rfl⟩
  have hne : ends ls ≠ [] := fun q => by rw [q] at hm; cases hm
  exact ((maxI_ok (ends ls)).2 hne).2 _ hm

theorem lastE_sm {ls : List Ln} (h : ∀ l ∈ ls, l.2 ≤ 1000) : lastE ls ≤ 1000 := by
  by_cases hne : ends ls = []
  · have := (maxI_ok (ends ls)).1 hne
    show maxI (ends ls) ≤ 1000
    omega
  · have := ((maxI_ok (ends ls)).2 hne).1
    unfold ends at this
    obtain ⟨l, hl, e⟩ := List.mem_map.mp this
    have := h l hl
    unfold lastE ends
    omega
section
variable {i : SI} {B G G' : Hp} {Ft Ft' : List Addr} {b : Int} {q T : Nat} {F : List (Nat × Nat)} {th : List Int} {L : List Nat} {lent there : List Int} {made : Int}
def Obj' (i : SI) (Ft : List Addr) : List Addr := Ft ++ [i.a, i.dx, i.lg, i.lm, i.ln, i.dt]
theorem PAt.frm {s : PSt} {a : Addr} (h : PAt Cp G a Ft s) (f : ∀ b o, b ∈ Ft → G b = some o → G' b = some o) (t : Tp G G') : PAt Cp G' a Ft s := by
  obtain ⟨dx, li, ll, lt, rs, rfl, h⟩ := h
  exact ⟨dx, li, ll, lt, rs, rfl, ⟨h.ins.ne, f _ _ (by simp) h.ins.o, f _ _ (by simp) h.ins.d⟩, h.n1, h.n2, h.n3, f _ _ (by simp) h.hi, prs_chg t h.hr, f _ _ (by simp) h.hl, f _ _ (by simp) h.ht⟩
theorem PAt.no_tup {s : PSt} {a b : Addr} (h : PAt Cp G a Ft s) (hb : b ∈ Ft) : ∀ xs, G b ≠ some (.tup xs) := by
  obtain ⟨dx, li, ll, lt, rs, rfl, h⟩ := h
  exact h.no_tup hb
theorem StP'.no_tup (h : StP' Cs Cp i B G Ft b q T F th L lent there made) {x : Addr} (hx : x ∈ Obj' i Ft) : ∀ xs, G x ≠ some (.tup xs) := fun xs e => by
  unfold Obj' at hx
  simp only [List.mem_append, List.mem_cons, List.mem_nil_iff, or_false] at hx
  obtain ⟨ms, hms, _⟩ := h.hm
  obtain ⟨mg, hmg, _⟩ := h.hg
  obtain ⟨mn, hmn, _⟩ := h.hn
  rcases hx with h1 | rfl | rfl | rfl | rfl | rfl | rfl
  · exact h.p.no_tup h1 xs e
  · rw [h.ins.o] at e; cases e
  · rw [h.ins.d] at e; cases e
  · rw [hmg] at e; cases e
  · rw [hms] at e; cases e
  · rw [hmn] at e; cases e
  · rw [h.hd] at e; cases e
theorem StP'.ex (h : StP' Cs Cp i B G Ft b q T F th L lent there made) {x : Addr} (hx : x ∈ Obj' i Ft) : ∃ o, G x = some o := by
  unfold Obj' at hx
  simp only [List.mem_append, List.mem_cons, List.mem_nil_iff, or_false] at hx
  obtain ⟨ms, hms, _⟩ := h.hm
  obtain ⟨mg, hmg, _⟩ := h.hg
  obtain ⟨mn, hmn, _⟩ := h.hn
  rcases hx with h1 | rfl | rfl | rfl | rfl | rfl | rfl
  · exact mem_ft h.p h1
  · exact ⟨_, h.ins.o⟩
  · exact ⟨_, h.ins.d⟩
  · exact ⟨_, hmg⟩
  · exact ⟨_, hms⟩
  · exact ⟨_, hmn⟩
  · exact ⟨_, h.hd⟩
theorem StP'.tp (h : StP' Cs Cp i B G Ft b q T F th L lent there made) (f : Fr (Obj' i Ft) G G') : Tp G G' := fun x xs e => f x _ (fun hx => h.no_tup hx xs e) e
def RowsAt (ls : List Ln) (O : List Addr) (G : Hp) (r : Addr) : Prop := r ∉ O ∧ ∃ xs, G r = some (.lst xs) ∧ DeA G xs (ls.zipIdx.map (enI pr))
theorem RowsAt.step {ls : List Ln} {r : Addr} (h : StP' Cs Cp i B G Ft b q T F th L lent there made) (R : RowsAt ls (Obj' i Ft) G r) (f : Fr (Obj' i Ft) G G') (n : Ftn B G Ft Ft') : RowsAt ls (Obj' i Ft') G' r := by
  obtain ⟨n1, xs, h1, h2⟩ := R
  refine ⟨fun q => n1 ?_, xs, f _ _ n1 h1, enprs_chg (h.tp f) h2⟩
  unfold Obj' at q ⊢
  rcases List.mem_append.mp q with q | q
  · rcases n r q with z | z
    · exact List.mem_append_left _ z
    · rw [h1] at z; cases z.1
  · exact List.mem_append_right _ q
theorem RowsAt.de {ls : List Ln} {r : Addr} (h : StP' Cs Cp i B G Ft b q T F th L lent there made) (R : RowsAt ls (Obj' i Ft) G r) : De (wo (Obj' i Ft) G) (.ref r) (.list (ls.zipIdx.map (enI pr))) := by
  obtain ⟨n1, xs, h1, h2⟩ := R
  exact .lst (by rw [wo_out n1]; exact h1) (enprs_chg (fun x ys e => by rw [wo_out (fun hx => h.no_tup hx ys e)]; exact e) h2)
theorem StP'.smp (o : SOk i) (h : StP' Cs Cp i B G Ft b q T F th L lent there made) : SmP (pOf i.ls i.k i.d b th L lent there made) := by
  have hsm := h.small o
  have hLT := Lnodup h
  have l1 := h.sim.ln.length_eq
  have l2 := List.length_filter_le (fun g => !decide (M.back i.ls b q g)) (List.range T)
  rw [List.length_map] at l1
  rw [List.length_range] at l2
  have l3 := h.ht
  exact ⟨by show (L.map _).length ≤ 1000; rw [List.length_map]; omega, by show lent.length ≤ 1000; omega, by show there.length ≤ 1000; omega, o.d0⟩
/-- a loan that ends now: given back -/
theorem StP'.give (o : SOk i) (h : StP' Cs Cp i B G Ft b q T F th L lent there made) (hq : q < i.ls.length) (he : M.ed i.ls q = b) (g : Goes0 Cp ⟨pOf i.ls i.k i.d b th L lent there made, i.p, Ft⟩ (giveR (pOf i.ls i.k i.d b th L lent there made) (M.thA th q)) G G') :
    StP' Cs Cp i B G' Ft b (q + 1) T F th (q :: L) (lent.eraseIdx (lent.idxOf (M.thA th q))) there made := by
  obtain ⟨g1, g2⟩ := g
  have k : ∀ x ∈ [i.a, i.dx, i.lg, i.lm, i.ln, i.dt], ∀ o, G x = some o → G' x = some o := fun x hx o e => g2 x o (h.nf x hx).1 e
  obtain ⟨ms, hms, hms2⟩ := h.hm
  obtain ⟨mg, hmg, hmg2⟩ := h.hg
  obtain ⟨mn, hmn, hmn2⟩ := h.hn
  refine ⟨h.sim.give o.V o.k0.1 hq he, ?_, h.own, ⟨h.ins.ne, k _ (by simp) _ h.ins.o, k _ (by simp) _ h.ins.d⟩, ⟨ms, k _ (by simp) _ hms, hms2⟩, k _ (by simp) _ h.hd, ⟨mg, k _ (by simp) _ hmg, hmg2⟩, ⟨mn, k _ (by simp) _ hmn, hmn2⟩, h.b0, h.ht, h.n1, h.nf⟩
  have e : giveR (pOf i.ls i.k i.d b th L lent there made) (M.thA th q) = pOf i.ls i.k i.d b th (q :: L) (lent.eraseIdx (lent.idxOf (M.thA th q))) there made := by
    unfold giveR pOf
    simp only [List.map_cons, he]
  rw [← e]
  exact g1
theorem passR_pOf : passR (pOf i.ls i.k i.d b th L lent there made) = pOf i.ls i.k i.d (b + 1) th (L.filter fun g => !decide (M.ed i.ls g + i.k ≤ b)) lent (there.filter fun n => !decide (n ∈ (L.filter fun g => decide (M.ed i.ls g + i.k ≤ b)).map (M.thA th))) made := by
  have e : (goneR (pOf i.ls i.k i.d b th L lent there made)).map (·.1) = (L.filter fun g => decide (M.ed i.ls g + i.k ≤ b)).map (M.thA th) := by
    unfold goneR pOf
    simp only [List.filter_map, List.map_map]
    rfl
  unfold passR
  rw [e]
  unfold pOf
  simp only [List.filter_map]
  rfl
theorem goneR_len : (goneR (pOf i.ls i.k i.d b th L lent there made)).length ≤ L.length := by
  unfold goneR
  refine Nat.le_trans (List.length_filter_le _ _) ?_
  show (L.map _).length ≤ _
  rw [List.length_map]
  exact Nat.le_refl _
/-- the beat over -/
theorem StP'.wait (o : SOk i) (h : StP' Cs Cp i B G Ft b i.ls.length T F th L lent there made) (hT : ∀ t, T ≤ t → t < i.ls.length → M.bg i.ls t ≠ b) (g : Goes' Cp ⟨pOf i.ls i.k i.d b th L lent there made, i.p, Ft⟩ (passR (pOf i.ls i.k i.d b th L lent there made)) B G G') :
    ∃ Ft' L' there', PAt Cp G' i.p Ft' (pOf i.ls i.k i.d (b + 1) th L' lent there' made) ∧ M.Sim i.ls i.k (b + 1) i.dep 0 T F th L' lent there' made ∧ Ftn B G Ft Ft' ∧ Fr Ft G G' ∧ (there'.length : Int) ≤ made ∧ Own B Ft' := by
  obtain ⟨Ft', g1, g2, g3⟩ := g
  rw [passR_pOf] at g1
  refine ⟨Ft', _, _, g1, h.sim.pass o.V hT, g2, g3, ?_, fun x hx => (g2 x hx).elim (h.own x) fun z => z.2⟩
  have := List.length_filter_le (fun n => !decide (n ∈ (L.filter fun g => decide (M.ed i.ls g + i.k ≤ b)).map (M.thA th))) there
  have := h.ht
  omega
theorem StP'.skip (h : StP' Cs Cp i B G Ft b q T F th L lent there made) (he : M.ed i.ls q ≠ b) : StP' Cs Cp i B G Ft b (q + 1) T F th L lent there made := { h with sim := h.sim.skip he }
end
abbrev dSInit (a : Fg → Addr) : Df := ⟨a, "__init__", "Story.__init__", sSInit, []⟩
theorem scSInit : FnScope ["self", "loans", "pool", "rows", "number", "loan"] ["self", "loans", "pool"] (defScope sSInit) := ⟨rfl, rfl, rfl, by decide +kernel, rfl, by decide +kernel, by decide +kernel⟩
theorem ok_SInit {a : Fg → Addr} {f gl : Addr} {fd : FuncData} (F : At K (dSInit a) f fd) (T : Bt mg) (S : SF K Cs) (TU : C8.Cal P w K mg base 3 "tupled" (spTupled 2) []) (LE : C8.Cal P w K mg base 1 "last_end" spLastEnd []) (PN : PrR P w K mg base 1 Cp "now" (spPNow Cp))
    (l1 : PySem.W.findIn K (.ref Cp) "__len__" = some (some (.ref gl))) (l2 : PySem.W.isFn K (.ref gl) = true) (l3 : FR P w K mg base 1 gl (spPLen Cp)) (PG : MR P w K mg base 1 Cp "give" (spPGive Cp)) (SB : MR P w K mg base 3 Cs "begin" (spSBegin Cs Cp)) (PW' : MR P w K mg base 2 Cp "wait" (fun vs H Q E => spPWait Cp (vs ++ [.int 1]) H Q E)) :
    FnOk P w K mg base CX0 4 f fd ["self", "loans", "pool"] (spSInit Cs Cp) := by
  refine fokR F scSInit (fun i B G vs h => by rw [h.1]; rfl) fun cdv A' outer s H E hr => ?_
  refine ⟨_, (pss_cons (ps_sl (pv 0) pe_dnewK) (pss_cons (ps_asg (pe_tup (pa_cons (pe_lst pa_nil) (pa_cons (pe_lst pa_nil) (pa_cons (pe_lst pa_nil) pa_nil)))) (pg_tup (n := 3) rfl (pgs_cons (pg_sl (pv 0)) (pgs_cons (pg_sl (pv 0)) (pgs_cons (pg_sl (pv 0)) pgs_nil))))) (pss_cons ((ps_asg (pe_listEn (by rfl) T.list (by rfl) T.enumerate rfl (C8.pe_c TU hr (Nat.le_refl _) (by rfl) (pa_cons ((pv 1)) pa_nil))) (pg_name (i := 3) scSInit.nd rfl (by first | exact Or.inl rfl | exact Or.inr rfl)))) (pss_one ((ps_while PassesOwn.never (PW.pt (pw_or (pt_cmpR op_lt (pe_pr PN hr (by omega) (pv 2)) (C8.pe_c LE hr (by omega) (by rfl) (pa_cons ((pv 1)) pa_nil)) rfl) (pw_or1 (pt_cmpR op_gt (pe_callB (call_lenSl (E := E0) (n := 1) l1 l2 l3 (hr.mono (by omega)) pass0) (by rfl) T.len (by decide +kernel) (pa_cons ((pv 2)) pa_nil)) pe_int rfl)))) ((pss_cons ((ps_for PassesOwn.never rfl (pi_list (pv 3)) (pg_tup (n := 2) rfl (pgs_cons (pg_name (i := 4) scSInit.nd rfl (by first | exact Or.inl rfl | exact Or.inr rfl)) (pgs_cons (pg_name (i := 5) scSInit.nd rfl (by first | exact Or.inl rfl | exact Or.inr rfl)) pgs_nil))) ((pss_one (ps_if (pt_cmpR op_eq (kIxT K (pv 5) pe_int) (pe_pr PN hr (by omega) (pv 2)) rfl) (pss_one (ps_expr (pe_m PG hr (by omega) (pv 2) (pa_cons (pe_dget (hu_of hr) (pe_sl (pv 0)) (pv 4) (by intro _ _; rfl)) pa_nil)))) pss_nil))))) (pss_cons (ps_expr (pe_m SB hr (Nat.le_refl _) (pv 0) (pa_cons ((pe_lc (own := [("number", 4), ("loan", 5)]) (g := (gTup K 2 (gCons (gName 4) (gCons (gName 5) gNil)))) rfl scSInit.nd (pi_list (pv 3)) (blkOk_by (N := ["self", "loans", "pool", "rows", "number", "loan"]) (sc := defScope sSInit) (by decide +kernel)) (fun _ _ _ _ _ => pg_tup (n := 2) rfl (pgs_cons (pg_name (i := 4) scSInit.nd rfl (by first | exact Or.inl rfl | exact Or.inr rfl)) (pgs_cons (pg_name (i := 5) scSInit.nd rfl (by first | exact Or.inl rfl | exact Or.inr rfl)) pgs_nil))) (fun _ _ _ _ _ => pts_one (pt_cmpR op_eq (kIxT K (pv 5) pe_int) (pe_pr PN hr (by show 2 ≤ 3; omega) (pv 2)) rfl)) (fun _ _ _ _ _ => (pv 4)))) (pa_cons ((pv 2)) pa_nil)))) (pss_cons ((ps_expr (pe_bm PySem.F.plainAttrs_list PySem.F.slot_list_extend PySem.F.type_list_extend mt_extend (pe_sl (pv 0)) (pa_cons ((pe_op op_rep (pe_lst (pa_cons (pe_pr PN hr (by omega) (pv 2)) pa_nil)) ((pe_callB call_len_seq (by rfl) T.len (by decide +kernel) (pa_cons (pe_m0 PW' hr (by omega) (pv 2)) pa_nil))))) pa_nil)))) (pss_one ((ps_expr (pe_bm PySem.F.plainAttrs_list PySem.F.slot_list_append PySem.F.type_list_append mt_append (pe_sl (pv 0)) (pa_cons ((pe_callB (call_lenSl (E := E0) (n := 1) l1 l2 l3 (hr.mono (by omega)) pass0) (by rfl) T.len (by decide +kernel) (pa_cons ((pv 2)) pa_nil))) pa_nil))))))))))))))), fun i B H1 H G vs rt h kn hret => ?_⟩
  obtain ⟨rfl, ⟨Va, hn10, hk, hend, hdep⟩, ne, ha, hd, oa, od, hp, own, dvl⟩ := h
  obtain ⟨pG, tG⟩ := S.gone
  obtain ⟨pM, tM⟩ := S.made
  obtain ⟨pN, tN⟩ := S.numbers
  obtain ⟨pT, tT⟩ := S.things
  have i0 : Ins0 Cs G i.a i.dx [] := ⟨ne, .inl ⟨ha, rfl⟩, ⟨_, ha⟩, ⟨_, hd⟩⟩
  have sv : ∀ {G : Hp}, Ev (tVar 0) (start ["self", "loans", "pool", "rows", "number", "loan"] [.ref i.a, i.vl, .ref i.p]) G (.ref i.a) := ev_var rfl
  have naF : i.a ∉ i.Ft ∧ i.dx ∉ i.Ft := by
    obtain ⟨dxp, li, ll, lt, rs, hFt, h5⟩ := id hp
    rw [hFt]
    refine ⟨fun q => ?_, fun q => ?_⟩ <;>
    · simp only [List.mem_cons, List.mem_nil_iff, or_false] at q
      have a1 := h5.ins.o
      have a2 := h5.ins.d
      have a3 := h5.hi
      have a4 := h5.hl
      have a5 := h5.ht
      rcases q with q | q | q | q | q
      · rw [← q] at a1; first | (rw [ha] at a1; cases a1) | (rw [hd] at a1; cases a1)
      · rw [← q] at a2; first | (rw [ha] at a2; cases a2) | (rw [hd] at a2; cases a2)
      · rw [← q] at a3; first | (rw [ha] at a3; cases a3) | (rw [hd] at a3; cases a3)
      · rw [← q] at a4; first | (rw [ha] at a4; cases a4) | (rw [hd] at a4; cases a4)
      · rw [← q] at a5; first | (rw [ha] at a5; cases a5) | (rw [hd] at a5; cases a5)
  -- own_things
  refine q_seq (q_setN mk_dict S.c tT kn i0 oa od sv fun dt Hn Gn knn en hndt kn' => ?_)
  have eG : Ex G Gn := fun b u q => en _ _ (by rw [upd_ne (ne_of_none q hndt)]; exact q)
  rw [show putS 3 (V.ref dt) ([] : List (Option V)) = [none, none, none, some (.ref dt)] from rfl] at kn' ⊢
  have I1 : Ins Cs (slH Gn i.a Cs i.dx [none, none, none, some (.ref dt)]) i.a i.dx [none, none, none, some (.ref dt)] := (i0.mono eG).put
  have f1 : Fr [i.a, i.dx] G (slH Gn i.a Cs i.dx [none, none, none, some (.ref dt)]) := (Fr.of eG).tr (fr_slH (by simp) (by simp))
  have hdt1 : (slH Gn i.a Cs i.dx [none, none, none, some (.ref dt)]) dt = some (.dK []) := by
    rw [slH_ne (ne_of_none ha hndt).symm (ne_of_none hd hndt).symm]
    exact en _ _ upd_same
  have odt : B dt = none := fresh_back kn.base hndt
  have ndtF : dt ∉ i.Ft := fun q => by obtain ⟨o, ho⟩ := mem_ft hp q; rw [hndt] at ho; cases ho
  have m1 : Dm G (slH Gn i.a Cs i.dx [none, none, none, some (.ref dt)]) := fun b hb => fresh_back eG (dm_slH b hb)
  generalize slH Gn i.a Cs i.dx [none, none, none, some (.ref dt)] = G1 at kn' I1 f1 hdt1 m1
  generalize slH Hn i.a Cs i.dx [none, none, none, some (.ref dt)] = H2 at kn' ⊢
  clear knn en eG
  -- the three lists
  refine q_seq (q_three fun p1 hp1 p2 hp2 p3 hp3 p4 hp4 => ?_)
  have k1 := kn'.new (o := .lst []) hp1
  have k2 := k1.new (o := .lst []) hp2
  have k3 := k2.new (o := .lst []) hp3
  have k4 := k3.new (o := .tup [.ref p1, .ref p2, .ref p3]) hp4
  have g1 := kn'.non hp1
  have g2 := k1.non hp2
  have g3 := k2.non hp3
  have g4 := k3.non hp4
  have e1 : Ex G1 (L2.upd G1 p1 (.lst [])) := fun b u q => by rw [upd_ne (ne_of_none q g1)]; exact q
  have e2 : Ex (L2.upd G1 p1 (.lst [])) (L2.upd (L2.upd G1 p1 (.lst [])) p2 (.lst [])) := fun b u q => by rw [upd_ne (ne_of_none q g2)]; exact q
  have e3 : Ex (L2.upd (L2.upd G1 p1 (.lst [])) p2 (.lst [])) (L2.upd (L2.upd (L2.upd G1 p1 (.lst [])) p2 (.lst [])) p3 (.lst [])) := fun b u q => by rw [upd_ne (ne_of_none q g3)]; exact q
  have e4 : Ex (L2.upd (L2.upd (L2.upd G1 p1 (.lst [])) p2 (.lst [])) p3 (.lst [])) (L2.upd (L2.upd (L2.upd (L2.upd G1 p1 (.lst [])) p2 (.lst [])) p3 (.lst [])) p4 (.tup [.ref p1, .ref p2, .ref p3])) := fun b u q => by rw [upd_ne (ne_of_none q g4)]; exact q
  have h1 := e4 _ _ (e3 _ _ (e2 p1 _ upd_same))
  have h2 := e4 _ _ (e3 p2 _ upd_same)
  have h3 := e4 p3 _ upd_same
  have h4 : (L2.upd (L2.upd (L2.upd (L2.upd G1 p1 (.lst [])) p2 (.lst [])) p3 (.lst [])) p4 (.tup [.ref p1, .ref p2, .ref p3])) p4 = some (.tup [.ref p1, .ref p2, .ref p3]) := upd_same
  have n12 : p2 ≠ p1 := fun q => by rw [q, upd_same] at g2; cases g2
  have n13 : p3 ≠ p1 := fun q => by
    have := e2 p1 _ upd_same
    rw [q, this] at g3
    cases g3
  have n23 : p3 ≠ p2 := fun q => by rw [q, upd_same] at g3; cases g3
  have b1 : B p1 = none := fresh_back kn'.base g1
  have b2 : B p2 = none := fresh_back k1.base g2
  have b3 : B p3 = none := fresh_back k2.base g3
  have g2' := fresh_back e1 g2
  have g3' := fresh_back (e1.trans e2) g3
  have eA := e1.trans (e2.trans (e3.trans e4))
  generalize (L2.upd (L2.upd (L2.upd (L2.upd G1 p1 (.lst [])) p2 (.lst [])) p3 (.lst [])) p4 (.tup [.ref p1, .ref p2, .ref p3])) = G2 at k4 eA h1 h2 h3 h4
  clear e4 e3 e2 e1 k3 k2 k1
  refine ⟨p4, _, rfl, .of (k4.le _ _ h4), rfl, ?_⟩
  have J0 : Ins Cs G2 i.a i.dx [none, none, none, some (.ref dt)] := I1.mono eA
  have k5 := kn_slH (ws' := [none, none, some (.ref p1), some (.ref dt)]) k4 J0.ins0 oa od
  have J1 := J0.put (ws' := [none, none, some (.ref p1), some (.ref dt)]) (G' := G2)
  have k6 := kn_slH (ws' := [none, some (.ref p2), some (.ref p1), some (.ref dt)]) k5 J1.ins0 oa od
  have J2 := J1.put (ws' := [none, some (.ref p2), some (.ref p1), some (.ref dt)]) (G' := slH G2 i.a Cs i.dx [none, none, some (.ref p1), some (.ref dt)])
  have k7 := kn_slH (ws' := sws p3 p2 p1 dt) k6 J2.ins0 oa od
  have J3 := J2.put (ws' := sws p3 p2 p1 dt) (G' := slH (slH G2 i.a Cs i.dx [none, none, some (.ref p1), some (.ref dt)]) i.a Cs i.dx [none, some (.ref p2), some (.ref p1), some (.ref dt)])
  refine ⟨_, _, rfl, .ref i.a, rfl, i.a, Cs, i.dx, pN, _, 2, rfl, slt_mono k4.le J0.slt, S.c, tN, _, _, rfl, .ref i.a, rfl, i.a, Cs, i.dx, pM, _, 1, rfl, slt_mono k5.le J1.slt, S.c, tM, _, _, rfl, .ref i.a, rfl, i.a, Cs, i.dx, pG, _, 0, rfl, slt_mono k6.le J2.slt, S.c, tG, rfl, ?_⟩
  have ia : i.a ≠ p1 ∧ i.a ≠ p2 ∧ i.a ≠ p3 ∧ i.a ≠ dt := by
    have := J0.o
    refine ⟨fun q => ?_, fun q => ?_, fun q => ?_, fun q => ?_⟩
    · rw [q, h1] at this; cases this
    · rw [q, h2] at this; cases this
    · rw [q, h3] at this; cases this
    · rw [q, eA _ _ hdt1] at this; cases this
  have ix : i.dx ≠ p1 ∧ i.dx ≠ p2 ∧ i.dx ≠ p3 ∧ i.dx ≠ dt := by
    have := J0.d
    refine ⟨fun q => ?_, fun q => ?_, fun q => ?_, fun q => ?_⟩
    · rw [q, h1] at this; cases this
    · rw [q, h2] at this; cases this
    · rw [q, h3] at this; cases this
    · rw [q, eA _ _ hdt1] at this; cases this
  have hp1' : (slH (slH (slH G2 i.a Cs i.dx [none, none, some (.ref p1), some (.ref dt)]) i.a Cs i.dx [none, some (.ref p2), some (.ref p1), some (.ref dt)]) i.a Cs i.dx (sws p3 p2 p1 dt)) p1 = some (.lst []) := by
    rw [slH_ne ia.1.symm ix.1.symm, slH_ne ia.1.symm ix.1.symm, slH_ne ia.1.symm ix.1.symm, h1]
  have hp2' : (slH (slH (slH G2 i.a Cs i.dx [none, none, some (.ref p1), some (.ref dt)]) i.a Cs i.dx [none, some (.ref p2), some (.ref p1), some (.ref dt)]) i.a Cs i.dx (sws p3 p2 p1 dt)) p2 = some (.lst []) := by
    rw [slH_ne ia.2.1.symm ix.2.1.symm, slH_ne ia.2.1.symm ix.2.1.symm, slH_ne ia.2.1.symm ix.2.1.symm, h2]
  have hp3' : (slH (slH (slH G2 i.a Cs i.dx [none, none, some (.ref p1), some (.ref dt)]) i.a Cs i.dx [none, some (.ref p2), some (.ref p1), some (.ref dt)]) i.a Cs i.dx (sws p3 p2 p1 dt)) p3 = some (.lst []) := by
    rw [slH_ne ia.2.2.1.symm ix.2.2.1.symm, slH_ne ia.2.2.1.symm ix.2.2.1.symm, slH_ne ia.2.2.1.symm ix.2.2.1.symm, h3]
  have hdt' : (slH (slH (slH G2 i.a Cs i.dx [none, none, some (.ref p1), some (.ref dt)]) i.a Cs i.dx [none, some (.ref p2), some (.ref p1), some (.ref dt)]) i.a Cs i.dx (sws p3 p2 p1 dt)) dt = some (.dK []) := by
    rw [slH_ne ia.2.2.2.symm ix.2.2.2.symm, slH_ne ia.2.2.2.symm ix.2.2.2.symm, slH_ne ia.2.2.2.symm ix.2.2.2.symm]
    exact eA _ _ hdt1
  have f2 : Fr [i.a, i.dx] G (slH (slH (slH G2 i.a Cs i.dx [none, none, some (.ref p1), some (.ref dt)]) i.a Cs i.dx [none, some (.ref p2), some (.ref p1), some (.ref dt)]) i.a Cs i.dx (sws p3 p2 p1 dt)) :=
    (((f1.tr (Fr.of eA)).tr (fr_slH (by simp) (by simp))).tr (fr_slH (by simp) (by simp))).tr (fr_slH (by simp) (by simp))
  have np : p1 ∉ i.Ft ∧ p2 ∉ i.Ft ∧ p3 ∉ i.Ft := by
    refine ⟨fun q => ?_, fun q => ?_, fun q => ?_⟩ <;>
    · obtain ⟨o, ho⟩ := mem_ft hp q
      first | rw [m1 _ g1] at ho | rw [m1 _ g2'] at ho | rw [m1 _ g3'] at ho
      cases ho
  have pt3 : PAt Cp (slH (slH (slH G2 i.a Cs i.dx [none, none, some (.ref p1), some (.ref dt)]) i.a Cs i.dx [none, some (.ref p2), some (.ref p1), some (.ref dt)]) i.a Cs i.dx (sws p3 p2 p1 dt)) i.p i.Ft (pst0 i.k i.d) := by
    have nin : ∀ x, x ∈ [i.a, i.dx] → ∀ xs, G x ≠ some (.tup xs) := fun x hx xs q => by
      simp only [List.mem_cons, List.mem_nil_iff, or_false] at hx
      rcases hx with rfl | rfl
      · rw [ha] at q; cases q
      · rw [hd] at q; cases q
    refine hp.frm (fun x o hx q => f2 x o (fun hz => ?_) q) fun x xs q => f2 x _ (fun hz => nin x hz xs q) q
    simp only [List.mem_cons, List.mem_nil_iff, or_false] at hz
    rcases hz with rfl | rfl
    · exact naF.1 hx
    · exact naF.2 hx
  have ok : SOk ⟨i.ls, i.k, i.d, i.a, i.dx, p3, p2, p1, dt, i.p⟩ := ⟨Va, hn10, hk, hend, hdep⟩
  have st0 : StP' Cs Cp ⟨i.ls, i.k, i.d, i.a, i.dx, p3, p2, p1, dt, i.p⟩ B _ i.Ft 0 0 0 [] [] [] [] [] 0 :=
    ⟨M.Sim.start hk.1 Va, pt3, own, J3, ⟨[], hp2', rfl⟩, hdt', ⟨[], hp3', by simp⟩, ⟨[], hp1', by simp⟩, Int.le_refl _, by simp, ⟨n23.symm, n12, n13⟩, fun x hx => by
      simp only [List.mem_cons, List.mem_nil_iff, or_false] at hx
      rcases hx with rfl | rfl | rfl | rfl | rfl | rfl
      · exact ⟨naF.1, oa⟩
      · exact ⟨naF.2, od⟩
      · exact ⟨np.2.2, b3⟩
      · exact ⟨np.2.1, b2⟩
      · exact ⟨np.1, b1⟩
      · exact ⟨ndtF, odt⟩⟩
  generalize (slH (slH (slH G2 i.a Cs i.dx [none, none, some (.ref p1), some (.ref dt)]) i.a Cs i.dx [none, some (.ref p2), some (.ref p1), some (.ref dt)]) i.a Cs i.dx (sws p3 p2 p1 dt)) = G3 at k7 st0
  clear J3 J2 J1 J0 k6 k5 k4 hp1' hp2' hp3' hdt' f2 pt3 h1 h2 h3 h4
  obtain ⟨s, e_ls, e_k, e_d, e_a, e_dx, e_lg, e_lm, e_ln, e_dt, e_p, ok, st0⟩ : ∃ s : SI, i.ls = s.ls ∧ i.k = s.k ∧ i.d = s.d ∧ i.a = s.a ∧ i.dx = s.dx ∧ p3 = s.lg ∧ p2 = s.lm ∧ p1 = s.ln ∧ dt = s.dt ∧ i.p = s.p ∧ SOk s ∧ StP' Cs Cp s B G3 i.Ft 0 0 0 [] [] [] [] [] 0 := ⟨_, rfl, rfl, rfl, rfl, rfl, rfl, rfl, rfl, rfl, rfl, ok, st0⟩
  rw [e_ls] at dvl
  have hret' : ∀ H' G', Kn B H1 H' G' → StDone Cs s.ls s.k s.dep G' s.a → rt .non H' := fun H' G' kn hh => hret .non H' G' kn ⟨rfl, by rw [e_ls, e_k, e_d, e_a]; exact hh⟩
  have hle := lastE_sm ok.e0
  have hnz := ok.n
  have k8 : Kn B H1 (slH (slH (slH (L2.upd (L2.upd (L2.upd (L2.upd H2 p1 (.lst [])) p2 (.lst [])) p3 (.lst [])) p4 (.tup [.ref p1, .ref p2, .ref p3])) i.a Cs i.dx (putS 2 (.ref p1) [none, none, none, some (.ref dt)])) i.a Cs i.dx (putS 1 (.ref p2) [none, none, some (.ref p1), some (.ref dt)])) i.a Cs i.dx (putS 0 (.ref p3) [none, some (.ref p2), some (.ref p1), some (.ref dt)])) G3 := k7
  clear k7
  generalize (slH (slH (slH (L2.upd (L2.upd (L2.upd (L2.upd H2 p1 (.lst [])) p2 (.lst [])) p3 (.lst [])) p4 (.tup [.ref p1, .ref p2, .ref p3])) i.a Cs i.dx (putS 2 (.ref p1) [none, none, none, some (.ref dt)])) i.a Cs i.dx (putS 1 (.ref p2) [none, none, some (.ref p1), some (.ref dt)])) i.a Cs i.dx (putS 0 (.ref p3) [none, some (.ref p2), some (.ref p1), some (.ref dt)])) = H3 at k8 ⊢
  rw [e_a, e_p]
  clear hret ne ha hd oa od hp own i0 naF I1 f1 hdt1 m1 odt ndtF np b1 b2 b3 g1 g2 g3 g4 g2' g3' eA n12 n13 n23 ia ix kn' kn
  generalize i.Ft = Ft0 at st0
  generalize i.vl = vl at *
  -- rows
  refine q_seq (q_asg k8 (ep_listEn (ι := pr) (l := s.ls) (ep_call (ι := PyData) (dl s.ls) (da_cons (ep_d rfl (dvl.mono k8.base)) da_nil) fun G vs e p => ⟨flat_loans _ (by omega), by
    cases p with
    | cons p1 p2 =>
      cases p2
      exact ⟨_, rfl, p1⟩⟩) (by omega)) fun vr Hr Gr knr er dr => ?_)
  obtain ⟨⟨r, rfl, hrn⟩, dr⟩ := dr
  have R0 : RowsAt s.ls (Obj' s Ft0) Gr r := by
    refine ⟨fun q => ?_, ?_⟩
    · obtain ⟨o, ho⟩ := st0.ex q
      rw [hrn] at ho
      cases ho
    · obtain ⟨_, xs, e, h1, h2⟩ := De.lst' dr
      cases e
      exact ⟨xs, h1, h2⟩
  have e0 := hend
  -- the walk
  refine q_while knr (m := (lastE s.ls + s.k + 1 - 0).toNat) (fun m σ G => ∃ y3 y4 b Ft T F th L lent there made, σ = [some (.ref s.a), some vl, some (.ref s.p), some (.ref r), y3, y4] ∧ m = (lastE s.ls + s.k + 1 - b).toNat ∧ (∀ t, t < T → M.bg s.ls t < b) ∧ b ≤ 2001 ∧ StP' Cs Cp s B G Ft b 0 T F th L lent there made ∧ RowsAt s.ls (Obj' s Ft) G r) ⟨_, _, 0, Ft0, 0, [], [], [], [], [], 0, rfl, rfl, by simp, by omega, st0.mono er, R0⟩ ?_
  rintro m σ H G kn ⟨y3, y4, b, Ft, T, F, th, L, lent, there, made, rfl, hm, hb, hb2, st, R⟩
  have isp : ∀ {G'}, Ex G G' → isP Cp (pOf s.ls s.k s.d b th L lent there made) G' (.ref s.p) := fun e => ⟨_, _, rfl, st.p.mono e⟩
  have hsm := st.small ok
  have hht := st.ht
  have tnow : EvP (tPropSl Cp (spPNow Cp) E0 (tVar 2)) [some (.ref s.a), some vl, some (.ref s.p), some (.ref r), y3, y4] G (is (.int b)) := ep_pp (R := fun s => is (.int s.now)) (ep_var (v := .ref s.p) rfl (isp (Ex.refl _)) mo_P)
  have tlast : EvP (tCall spLastEnd [] E0 (tCons (tVar 1) tNil)) [some (.ref s.a), some vl, some (.ref s.p), some (.ref r), y3, y4] G (is (.int (lastE s.ls))) := ep_call (ι := List Ln) s.ls (da_cons (ep_d rfl (dvl.mono kn.base)) da_nil) fun G vs e p => ⟨by omega, by
    cases p with
    | cons p1 p2 =>
      cases p2
      exact ⟨_, rfl, p1⟩⟩
  refine ⟨decide (b < lastE s.ls) || decide ((0 : Int) < (there.length : Nat)), et_or (et_test' (ep_lt tnow tlast)) fun _ => et_test' (ep_gt (ep_lenP (s := pOf s.ls s.k s.d b th L lent there made) (ep_var (v := .ref s.p) rfl (isp (Ex.refl _)) mo_P) (by show there.length ≤ 1000; omega)) ep_int), fun hgo Hw Gw knw ew => ?_, fun hgo Hw Gw knw ew => ?_⟩
  · have hbl : b < lastE s.ls ∨ 0 < there.length := by
      simp only [Bool.or_eq_true, decide_eq_true_eq] at hgo
      rcases hgo with h | h
      · exact .inl h
      · exact .inr (by omega)
    have hbk : b ≤ lastE s.ls + s.k := by
      have hk0 := ok.k0
      rcases hbl with h | h
      · omega
      · obtain ⟨x, hx⟩ := List.exists_mem_of_length_pos h
        obtain ⟨g, g1, _, g2⟩ := st.sim.tr x hx
        have hgn : g < s.ls.length := Nat.lt_of_lt_of_le g1 st.sim.tn
        have hge := le_lastE hgn
        rcases g2 with g2 | g2
        · have := ((st.sim.mem g).mp g2).2.2.1
          omega
        · unfold M.back at g2
          omega
    have stw := st.mono ew
    have Rw : RowsAt s.ls (Obj' s Ft) Gw r := R.step st (Fr.of ew) Ftn.refl
    refine q_seq (q_for (α := Ln × Nat) (l := s.ls.zipIdx) (ι := enI pr) (wo (Obj' s Ft) Gw) knw wo_le (wi_list (ep_d rfl (Rw.de stw))) (fun j σ G' => ∃ y3 y4 L lent, σ = [some (.ref s.a), some vl, some (.ref s.p), some (.ref r), y3, y4] ∧ StP' Cs Cp s B G' Ft b j T F th L lent there made ∧ Fr Ft Gw G') ⟨_, _, _, _, rfl, stw, Fr.refl⟩ ?_ ?_ ?_)
    · rintro j σ G1 G2 ⟨y3, y4, L, lent, e, h1, h2⟩ e'
      exact ⟨y3, y4, L, lent, e, h1.mono e', h2.tr (Fr.of e')⟩
    · rintro j ⟨l, q⟩ Gv σ H' G' hj eGv frs eG kn' ⟨y3, y4, L, lent, rfl, h1, h2⟩
      obtain ⟨hqj, hlj⟩ : q = j ∧ s.ls[j]? = some l := by
        rw [List.getElem?_zipIdx] at hj
        obtain ⟨l', hl', e⟩ := Option.map_eq_some_iff.mp hj
        cases e
        exact ⟨by omega, hl'⟩
      subst hqj
      have hqn : q < s.ls.length := (List.getElem?_eq_some_iff.mp hlj).1
      have hed : M.ed s.ls q = l.2 := by
        unfold M.ed
        rw [List.getD_eq_getElem?_getD, hlj]
        rfl
      have exv : ∀ {G4 : Hp}, Fr Ft G' G4 → Ex Gv G4 := fun f b' o' q' => by
        have n : b' ∉ Ft := fun hb' => by
          obtain ⟨o2, ho2⟩ := mem_ft stw.p hb'
          rw [frs b' o2 (knw.le _ _ ho2) (wo_in (List.mem_append_left _ hb'))] at q'
          cases q'
        exact f b' o' n (eG _ _ q')
      refine ⟨fun σ2 => ∃ x, De G' x (pr l) ∧ σ2 = [some (.ref s.a), some vl, some (.ref s.p), some (.ref r), some (.int ((q : Nat) : Int)), some x], tg_pair fun x y hx hy => ⟨y, hy, by rw [De.int' hx]; rfl⟩, ?_⟩
      rintro σ2 ⟨x, hx, rfl⟩
      refine q_if kn' (b := decide (l.2 = b)) (et_test' (ep_eqI (ep_ixT (j := 1) (ep_d rfl hx) ep_int rfl rfl) (ep_pp (s := pOf s.ls s.k s.d b th L lent there made) (R := fun s => is (.int s.now)) (ep_var (v := .ref s.p) rfl ⟨_, _, rfl, h1.p⟩ mo_P)))) (fun hb1 H4 G4 kn4 e4 => ?_) (fun hb1 H4 G4 kn4 e4 => ⟨G4, kn4, exv (Fr.of e4), _, _, L, lent, rfl, (h1.skip (by rw [hed]; exact of_decide_eq_false hb1)).mono e4, h2.tr (Fr.of e4)⟩)
      have hqb : M.ed s.ls q = b := by rw [hed]; exact of_decide_eq_true hb1
      have h14 := h1.mono e4
      have hqT : q < T := h1.sim.lt_of_end ok.V hqn (by omega)
      obtain ⟨dxp, li, ll, lt, rs, hFt, h5⟩ := id h14.p
      refine q_dropM kn4 (em_m1 (j := 2) (a := s.p) (σ := [some (.ref s.a), some vl, some (.ref s.p), some (.ref r), some (.int ((q : Nat) : Int)), some x]) (P1 := is (.int (M.thA th q))) (fun _ => (⟨pOf s.ls s.k s.d b th L lent there made, s.p, Ft⟩, M.thA th q)) mo_is rfl h5.ins (ep_dget (ev_sl S.c tT h14.ins (ev_var rfl) rfl) (ep_d rfl (.int _)) h14.hd (kvS_val (by rw [h1.sim.h.len]; exact hqT))) fun G' v e p => ⟨by rw [De.int' p], h14.p.mono e, h14.own, h14.smp ok, h1.sim.lent_mem ok.V hqn hqb⟩) fun v H5 G5 kn5 ⟨G6, v1, e6, p6, hv, hg⟩ => ?_
      have h16 := h14.mono e6
      exact ⟨G5, kn5, exv (fun b' o' n' q' => hg.2 b' o' n' (e6 _ _ (e4 _ _ q'))), _, _, _, _, rfl, h16.give ok hqn hqb hg, fun b' o' n' q' => hg.2 b' o' n' (e6 _ _ (e4 _ _ (h2 b' o' n' q')))⟩
    · rintro σ Ha Ga Gv _ _ eGv kna ⟨y3, y4, L, lent, rfl, sta, fra⟩
      rw [List.length_zipIdx] at sta
      have Ra : RowsAt s.ls (Obj' s Ft) Ga r := Rw.step stw (fun b' o' n' q' => fra b' o' (fun z => n' (List.mem_append_left _ z)) q') Ftn.refl
      obtain ⟨mm, hm1, hm2, hm3, hm4⟩ := M.begin_iv (b := b) ok.V hb sta.sim.t2 sta.sim.tn
      have hcomp : EvP _ [some (.ref s.a), some vl, some (.ref s.p), some (.ref r), y3, y4] Ga (isF Ga (.list ((s.ls.zipIdx.filter fun p => decide (p.1.1 = b)).map fun p => nt p.2))) := ep_lcF (σ := [some (.ref s.a), some vl, some (.ref s.p), some (.ref r), y3, y4]) (te := tVar 4) (tt := tTest (tOp rEq (tOp (rIxT K) (tVar 5) (tC (.int 0))) (tPropSl Cp (spPNow Cp) E0 (tVar 2)))) (g := gTup K 2 (gCons (gName 4) (gCons (gName 5) gNil))) (vs := [4, 5]) (l := s.ls.zipIdx) (ι := enI pr) (fun p => decide (p.1.1 = b)) (fun p => nt p.2) (wi_list (K := K) (ep_d (i := 3) rfl ((Ra.de sta).mono wo_le))) (by rw [List.length_zipIdx]; omega) fun p G2 hp e2 => tg_pair fun x y dx dy => by
        rw [De.int' dx]
        exact ⟨rfl, et_test' (ep_eqI (ep_ixT (j := 0) (ep_d rfl dy) ep_int rfl rfl) (ep_pp (s := pOf s.ls s.k s.d b th L lent there made) (R := fun s => is (.int s.now)) (ep_var (v := .ref s.p) rfl ⟨_, _, rfl, sta.p.mono e2⟩ mo_P))), fun _ => ep_d rfl (.int _)⟩
      have edn : (.list ((s.ls.zipIdx.filter fun p => decide (p.1.1 = b)).map fun p => nt p.2) : PyData) = dN ((List.range mm).map (· + T)) := by
        unfold dN
        rw [← hm2, zip_range (0, 0), List.filter_map, List.map_map]
        rfl
      rw [edn] at hcomp
      refine q_seq (q_dropM kna (em_mA (C := Cs) (dx := s.dx) (j := 0) (a := s.a) (σ := [some (.ref s.a), some vl, some (.ref s.p), some (.ref r), y3, y4]) (PA := fun G vs => ∃ Sx, vs = [.ref Sx, .ref s.p] ∧ Ga Sx = none ∧ De G (.ref Sx) (dN ((List.range mm).map (· + T)))) (fun vs => (⟨s, Ft, b, T, mm, F, th, L, lent, there, made, vs.headD .non⟩ : BI)) rfl sta.ins (ea_cons' hcomp (fun _ _ _ e h => ⟨h.1, h.2.mono e⟩) (fun G e => ea_cons' (ep_var (P := fun _ v => v = .ref s.p) rfl rfl mo_eq) mo_eq (fun G e => ea_nil' (P := fun _ vs => vs = []) fun _ _ => rfl) (R := fun _ vs => vs = [.ref s.p]) (by rintro G v vs e rfl rfl; rfl)) (by rintro G v vs e ⟨⟨Sx, rfl, h1⟩, h2⟩ rfl; exact ⟨Sx, rfl, h1, h2⟩)) (by
        rintro G' vs e ⟨Sx, rfl, h1, h2⟩
        refine ⟨rfl, ok, sta.mono e, ?_, fun j hj => ⟨by
          have hj : j < mm := hj
          show T + j < s.ls.length
          omega, hm4 j hj⟩⟩
        rw [← dI_cI] at h2 ⊢
        refine ints_woL h2 fun q => ?_
        have : Sx ∈ Obj' s Ft := by
          unfold Obj'
          simp only [List.mem_append, List.mem_cons, List.mem_nil_iff, or_false] at q ⊢
          rcases q with q | q | q <;> simp [q]
        obtain ⟨o, ho⟩ := sta.ex this
        rw [h1] at ho
        cases ho)) fun v Hb Gb knb hbeg => ?_)
      obtain ⟨Gc, vs, ec, _, _, Fb, thb, Lb, lentb, thereb, madeb, stb, frb⟩ := hbeg
      have stb : StP' Cs Cp s B Gb Ft b s.ls.length (T + mm) Fb thb Lb lentb thereb madeb := stb
      have Rb : RowsAt s.ls (Obj' s Ft) Gb r := Ra.step sta (fun b' o' n' q' => frb b' o' (fun z => n' (by
        unfold Obj'
        have z : b' ∈ Ft ++ [s.lm, s.dt] := z
        simp only [List.mem_append, List.mem_cons, List.mem_nil_iff, or_false] at z ⊢
        rcases z with q | q | q <;> simp [q])) (ec _ _ q')) Ftn.refl
      clear hcomp
      -- what is gone
      obtain ⟨mg, hmg, hmgl⟩ := stb.hg
      have hTb : ∀ t, T + mm ≤ t → t < s.ls.length → M.bg s.ls t ≠ b := hm3
      refine q_seq (q_bm knb hmg (ev_sl S.c tG stb.ins (ev_var rfl) rfl) fun H2 e2 => ?_)
      obtain ⟨k2, e3⟩ := knb.pure e2
      have stc := stb.mono e3
      have tn2 : EvP (tPropSl Cp (spPNow Cp) E0 (tVar 2)) [some (.ref s.a), some vl, some (.ref s.p), some (.ref r), y3, y4] (cut Gb Hb H2) (is (.int b)) := ep_pp (s := pOf s.ls s.k s.d b thb Lb lentb thereb madeb) (R := fun s => is (.int s.now)) (ep_var (v := .ref s.p) rfl ⟨_, _, rfl, stc.p⟩ mo_P)
      refine st_rep ((da_cons tn2 da_nil) H2 k2.le _ fun xs H3 e4 d4 => ?_)
      obtain ⟨k3, e5⟩ := k2.pure e4
      have hxs : xs = [.int b] := by
        have d4' : DeA _ xs ([b].map .int) := d4
        exact d4'.ints'
      subst hxs
      refine ⟨by show 1 ≤ sizeLine; decide, fun Sx hSx => ?_⟩
      have k4 := k3.new (o := .lst [.int b]) hSx
      have gSx := k3.non hSx
      have e6 : Ex (cut (cut Gb Hb H2) H2 H3) (L2.upd (cut (cut Gb Hb H2) H2 H3) Sx (.lst [.int b])) := fun b' u q => by rw [upd_ne (ne_of_none q gSx)]; exact q
      have std := (stc.mono e5).mono e6
      have gS4 : (L2.upd (cut (cut Gb Hb H2) H2 H3) Sx (.lst [.int b])) Sx = some (.lst [.int b]) := upd_same
      have nSx : Sx ∉ Ft := fun q => by
        obtain ⟨o, ho⟩ := mem_ft (stc.mono e5).p q
        rw [gSx] at ho
        cases ho
      have ebd := e3.trans (e5.trans e6)
      generalize L2.upd (cut (cut Gb Hb H2) H2 H3) Sx (.lst [.int b]) = Gd at k4 e6 std gS4 ebd
      generalize L2.upd H3 Sx (.lst [.int b]) = Hd at k4 ⊢
      obtain ⟨dxp, li, ll, lt, rs, hFt, h5⟩ := id std.p
      refine ⟨.ref s.p, rfl, s.p, dxp, _, rfl, (h5.ins.mono k4.le).slt, ⟨pOf s.ls s.k s.d b thb Lb lentb thereb madeb, s.p, Ft⟩, B, H1, Gd, k4, ⟨rfl, std.p, std.own, std.smp ok⟩, fun v H5 G5 kn5 ⟨dv, hg⟩ => ?_⟩
      obtain ⟨Ft', L', there', pt', sim', ftn', fr', hth', own'⟩ := std.wait ok hTb hg
      have hglen := goneR_len (i := s) (b := b) (th := thb) (L := Lb) (lent := lentb) (there := thereb) (made := madeb)
      have hLT := Lnodup stb
      have hsmb := stb.small ok
      obtain ⟨bb, ys, rfl, y1, y2⟩ := De.lst' dv
      have hys := y2.len
      rw [List.length_map, List.length_reverse, List.length_map] at hys
      generalize (goneR (pOf s.ls s.k s.d b thb Lb lentb thereb madeb)).length = gn at hys hglen
      refine ⟨bb, ys, rfl, .inl (sq_of (kn5.le _ _ y1)), ?_⟩
      have hS5 : G5 Sx = some (.lst [.int b]) := fr' _ _ nSx gS4
      refine ⟨Sx, _, _, rfl, rfl, kn5.le _ _ hS5, by omega, by omega, Nat.le_trans (show 1 * (ys.length : Int).toNat ≤ 1000 by omega) (by decide), fun pp hpp => ?_⟩
      have k6 := kn5.new (o := .lst (List.replicate (ys.length : Int).toNat [V.int b]).flatten) hpp
      have g6 := kn5.non hpp
      have e7 : Ex G5 (L2.upd G5 pp (.lst (List.replicate (ys.length : Int).toNat [V.int b]).flatten)) := fun b' u q => by rw [upd_ne (ne_of_none q g6)]; exact q
      have kp : ∀ x ∈ [s.a, s.dx, s.lg, s.lm, s.ln, s.dt], ∀ o, Gb x = some o → (L2.upd G5 pp (.lst (List.replicate (ys.length : Int).toNat [V.int b]).flatten)) x = some o := fun x hx o q => e7 _ _ (fr' _ _ (stb.nf x hx).1 (ebd _ _ q))
      have frg : Fr Ft Gb (L2.upd G5 pp (.lst (List.replicate (ys.length : Int).toNat [V.int b]).flatten)) := fun x o n q => e7 _ _ (fr' _ _ n (ebd _ _ q))
      have pt6 := pt'.mono e7
      have erep : (List.replicate (ys.length : Int).toNat [V.int b]).flatten = (List.replicate ys.length b).map V.int := by simp
      rw [erep] at k6 e7 kp pt6 frg ⊢
      have pnew : (L2.upd G5 pp (.lst ((List.replicate ys.length b).map V.int))) pp = some (.lst ((List.replicate ys.length b).map V.int)) := upd_same
      generalize L2.upd G5 pp (.lst ((List.replicate ys.length b).map V.int)) = G6 at *
      generalize L2.upd H5 pp (.lst ((List.replicate ys.length b).map V.int)) = H6 at *
      have hmg6 := kp s.lg (by simp) _ hmg
      refine ⟨s.lg, pp, _, _, rfl, rfl, k6.le _ _ hmg6, k6.le _ _ pnew, sz_of (by simp only [List.length_map, List.length_replicate]; omega), ?_⟩
      have nflg := stb.nf s.lg (by simp)
      have k7 := k6.upd (o' := .lst (mg.map V.int ++ (List.replicate ys.length b).map V.int)) nflg.2 hmg6
      obtain ⟨ms, hms, hmsl⟩ := stb.hm
      obtain ⟨mn, hmn, hmnl⟩ := stb.hn
      have nfln := stb.nf s.ln (by simp)
      have na : s.a ≠ s.lg ∧ s.a ≠ s.ln := ⟨fun q => by (have := stb.ins.o; rw [q, hmg] at this; cases this), fun q => by (have := stb.ins.o; rw [q, hmn] at this; cases this)⟩
      have nd : s.dx ≠ s.lg ∧ s.dx ≠ s.ln := ⟨fun q => by (have := stb.ins.d; rw [q, hmg] at this; cases this), fun q => by (have := stb.ins.d; rw [q, hmn] at this; cases this)⟩
      have nt' : s.dt ≠ s.lg ∧ s.dt ≠ s.ln := ⟨fun q => by (have := stb.hd; rw [q, hmg] at this; cases this), fun q => by (have := stb.hd; rw [q, hmn] at this; cases this)⟩
      have n1 := stb.n1
      have kp7 : ∀ x ∈ [s.a, s.dx, s.lm, s.ln, s.dt], x ≠ s.lg → ∀ o, Gb x = some o → (L2.upd G6 s.lg (.lst (mg.map V.int ++ (List.replicate ys.length b).map V.int))) x = some o := fun x hx n o q => by
        rw [upd_ne n]
        exact kp x (by simp only [List.mem_cons, List.mem_nil_iff, or_false] at hx ⊢; rcases hx with h | h | h | h | h <;> simp [h]) o q
      have nlF' : s.lg ∉ Ft' ∧ s.ln ∉ Ft' := by
        refine ⟨fun q => ?_, fun q => ?_⟩
        · rcases ftn' _ q with z | z
          · exact nflg.1 z
          · rw [ebd _ _ hmg] at z; cases z.1
        · rcases ftn' _ q with z | z
          · exact nfln.1 z
          · rw [ebd _ _ hmn] at z; cases z.1
      have pt7 := pt6.upd (o := .lst (mg.map V.int ++ (List.replicate ys.length b).map V.int)) nlF'.1 (fun xs q => by rw [hmg6] at q; cases q)
      have ins7 : Ins Cs (L2.upd G6 s.lg (.lst (mg.map V.int ++ (List.replicate ys.length b).map V.int))) s.a s.dx (sws s.lg s.lm s.ln s.dt) := ⟨stb.ins.ne, kp7 _ (by simp) na.1 _ stb.ins.o, kp7 _ (by simp) nd.1 _ stb.ins.d⟩
      have hlg7 : (L2.upd G6 s.lg (.lst (mg.map V.int ++ (List.replicate ys.length b).map V.int))) s.lg = some (.lst (mg.map V.int ++ (List.replicate ys.length b).map V.int)) := upd_same
      have fr7 : ∀ x o, x ∉ Ft → x ≠ s.lg → Gb x = some o → (L2.upd G6 s.lg (.lst (mg.map V.int ++ (List.replicate ys.length b).map V.int))) x = some o := fun x o h1 h2 q => by
        rw [upd_ne h2]
        exact frg x o h1 q
      generalize L2.upd G6 s.lg (.lst (mg.map V.int ++ (List.replicate ys.length b).map V.int)) = G7 at *
      have hln7 := kp7 s.ln (by simp) n1.2.2.symm _ hmn
      have hk := ok.k0
      refine q_append (xs := mn.map V.int) mo_is k7 nfln.2 hln7 (by rw [List.length_map]; omega) (ev_sl S.c tN ins7 (ev_var rfl) rfl) (ep_lenP (s := pOf s.ls s.k s.d (b + 1) thb L' lentb there' madeb) (ep_var (v := .ref s.p) rfl ⟨_, _, rfl, pt7⟩ mo_P) (by show there'.length ≤ 1000; omega)) fun v H8 G8 kn8 e8 p8 kn9 => ?_
      have hv := De.int' p8
      subst hv
      have frz : Fr (Obj' s Ft) Gb (L2.upd G8 s.ln (.lst (mn.map V.int ++ [V.int ((pOf s.ls s.k s.d (b + 1) thb L' lentb there' madeb).there.length : Nat)]))) := fun x o n q => by
        unfold Obj' at n
        simp only [List.mem_append, List.mem_cons, List.mem_nil_iff, or_false, not_or] at n
        obtain ⟨m1, m2, m3, m4, m5, m6, m7⟩ := n
        rw [upd_ne m6]
        exact e8 _ _ (fr7 x o m1 m4 q)
      have kp9 : ∀ x ∈ [s.a, s.dx, s.lm, s.ln, s.dt], x ≠ s.lg → x ≠ s.ln → ∀ o, Gb x = some o → (L2.upd G8 s.ln (.lst (mn.map V.int ++ [V.int ((pOf s.ls s.k s.d (b + 1) thb L' lentb there' madeb).there.length : Nat)]))) x = some o := fun x hx n n2 o q => by
        rw [upd_ne n2]
        exact e8 _ _ (kp7 x hx n o q)
      refine ⟨(lastE s.ls + s.k + 1 - (b + 1)).toNat, _, by omega, kn9, y3, y4, b + 1, Ft', T + mm, Fb, thb, L', lentb, there', madeb, rfl, rfl, fun t ht => ?_, by omega, ⟨sim', ?_, own', ⟨stb.ins.ne, kp9 _ (by simp) na.1 na.2 _ stb.ins.o, kp9 _ (by simp) nd.1 nd.2 _ stb.ins.d⟩, ⟨ms, kp9 _ (by simp) n1.1 n1.2.1 _ hms, hmsl⟩, kp9 _ (by simp) nt'.1 nt'.2 _ stb.hd, ⟨mg ++ List.replicate ys.length b, ?_, ?_⟩, ⟨mn ++ [(((pOf s.ls s.k s.d (b + 1) thb L' lentb there' madeb).there.length : Nat) : Int)], ?_, ?_⟩, by have := stb.b0; omega, hth', n1, fun x hx => ⟨fun q => ?_, (stb.nf x hx).2⟩⟩, Rb.step stb frz fun x hx => (ftn' x hx).imp id fun z => ⟨fresh_back ebd z.1, z.2⟩⟩
      · have := stb.sim.t1 t ht
        omega
      · exact (pt7.mono e8).upd nlF'.2 fun xs q => by rw [e8 _ _ hln7] at q; cases q
      · rw [upd_ne n1.2.2, List.map_append]
        exact e8 _ _ hlg7
      · rw [List.length_append, List.length_replicate]
        omega
      · rw [upd_same, List.map_append]
        rfl
      · rw [List.length_append, List.length_singleton]
        omega
      · rcases ftn' x q with z | z
        · exact (stb.nf x hx).1 z
        · obtain ⟨o, ho⟩ := stb.ex (x := x) (List.mem_append_right _ hx)
          rw [ebd _ _ ho] at z
          cases z.1
  · simp only [Bool.or_eq_false_iff, decide_eq_false_iff_not] at hgo
    have hT : T = s.ls.length := by
      have h1 := st.sim.tn
      by_cases hTn : T < s.ls.length
      · have h2 := le_lastE hTn
        have := st.sim.lt_of_end ok.V hTn (by omega)
        omega
      · omega
    subst hT
    have stw := st.mono ew
    exact hret' Hw Gw knw ⟨s.dx, s.lg, s.lm, s.ln, s.dt, F, th, made, stw.ins, stw.hm, stw.hd, stw.sim.h, stw.sim.gr⟩
end
end Q
/-! K75S3 -/
set_option Elab.async false
set_option linter.all false
set_option maxRecDepth 100000
set_option maxHeartbeats 4000000
/-! Things, makings, who hands on to whom. -/
namespace Q
open PySem PySem.Spec PyProof.Rows L2 Evl SlX
open M (Ln Fr)
abbrev SKD := List Ln × Int × Option Int
def SC (i : SKD) : Prop := M.Valid i.1 ∧ i.1.length ≤ 10 ∧ (0 ≤ i.2.1 ∧ i.2.1 ≤ 1000) ∧ (∀ l ∈ i.1, l.2 ≤ 1000) ∧ ∀ d, i.2.2 = some d → 0 ≤ d
def StAt (Cs : Addr) (th : List Int) (made : Int) (G : Hp) (a : Addr) : Prop := ∃ dx lg lm ln dt, Ins Cs G a dx (sws lg lm ln dt) ∧ (∃ ms : List Int, G lm = some (.lst (ms.map V.int)) ∧ (ms.length : Int) = made) ∧ G dt = some (.dK (kvS th))
theorem StAt.mono {Cs : Addr} {th : List Int} {made : Int} {G G' : Hp} {a : Addr} (e : Ex G G') (h : StAt Cs th made G a) : StAt Cs th made G' a := by
  obtain ⟨dx, lg, lm, ln, dt, h1, ⟨ms, h2, h3⟩, h4⟩ := h
  exact ⟨dx, lg, lm, ln, dt, h1.mono e, ⟨ms, e _ _ h2, h3⟩, e _ _ h4⟩
/-- what is told of a story -/
def Told (i : SKD) (F : List (Nat × Nat)) (th : List Int) (made : Int) : Prop := M.Hist i.1 i.2.1 i.1.length F th made ∧ (i.2.2.isNone = true → F = M.gr (M.living i.1 (some i.2.1) M.bare) (M.ed i.1) i.1.length)
def isS (Cs : Addr) (i : SKD) : PV := fun G v => ∃ a F th made, v = .ref a ∧ StAt Cs th made G a ∧ Told i F th made
theorem mo_S {Cs : Addr} {i : SKD} : Mo (isS Cs i) := fun _ _ _ e ⟨a, F, th, made, h1, h2, h3⟩ => ⟨a, F, th, made, h1, h2.mono e, h3⟩
abbrev SMk (P : Program) (w : World) (K : PySem.W.Frag) (mg : Str → Option Value) (base : Heap) (Cs Cp : Addr) : Prop := C8.Mak P w K mg base 4 "Story" Cs (spSInit Cs Cp) []
abbrev PMk (P : Program) (w : World) (K : PySem.W.Frag) (mg : Str → Option Value) (base : Heap) (Cp : Addr) : Prop := C8.Mak P w K mg base 1 "Pool" Cp (spPInit Cp) []
theorem dkv_of {G : Hp} {v : V} {d : Option Int} (h : De G v (dk d)) : v = dkv d := by
  cases d with
  | none => exact De.non' h
  | some i => exact De.int' h
/-- Story(loans, Pool(keep, depth)) -/
theorem ep_newS {σ : L2.St} {B : Hp} {ta tb tc : TE} {i : SKD} {Cs Cp : Addr} {E E' : XK} (hc : SC i) (ha : EvP ta σ B (is (dl i.1))) (hb : EvP tb σ B (is (.int i.2.1))) (hd : EvP tc σ B (is (dk i.2.2))) :
    EvP (tMake Cs (spSInit Cs Cp) [] E (tCons ta (tCons (tMake Cp (spPInit Cp) [] E' (tCons tb (tCons tc tNil))) tNil))) σ B (isS Cs i) := fun H1 e1 Q q =>
  ha H1 e1 _ fun vl H2 e2 dvl => hb H2 (e1.trans e2) _ fun vk H3 e3 dk' => hd H3 ((e1.trans e2).trans e3) _ fun vd H4 e4 dd x dx hx hdx ne => by
    cases De.int' dk'
    cases dkv_of dd
    have eB := e1.trans (e2.trans (e3.trans e4))
    have k0 : Kn (cut B H1 H2) H4 H4 (cut B H1 H2) := Kn.start (cut_le.trans (e3.trans e4))
    have k1 := k0.new (o := .own x) hdx
    have hx1 : (L2.upd H4 dx (.own x)) x = none := by rw [upd_ne ne.symm]; exact hx
    have k2 := k1.new (o := .ins Cp dx []) hx1
    refine ⟨⟨x, dx, i.2.1, i.2.2⟩, cut B H1 H2, H4, _, k2, ⟨rfl, ne, upd_same, by rw [upd_ne ne]; exact upd_same, k1.bnon hx1, k0.bnon hdx⟩, fun v H5 G5 k5 ⟨hv, Ft, pt, hFt, fr⟩ => ⟨hv, ?_⟩⟩
    intro y dy hy hdy ne2
    have hy1 : (L2.upd H5 dy (.own y)) y = none := by rw [upd_ne ne2.symm]; exact hy
    have k6 := k5.new (o := .own y) hdy
    have k7 := k6.new (o := .ins Cs dy []) hy1
    have e6 : Ex G5 (L2.upd G5 dy (.own y)) := fun b u q => by rw [upd_ne (ne_of_none q (k5.non hdy))]; exact q
    have e7 : Ex (L2.upd G5 dy (.own y)) (L2.upd (L2.upd G5 dy (.own y)) y (.ins Cs dy [])) := fun b u q => by rw [upd_ne (ne_of_none q (k6.non hy1))]; exact q
    refine ⟨⟨i.1, i.2.1, i.2.2, y, dy, x, Ft, vl⟩, cut B H1 H2, H4, _, k7, ⟨rfl, hc, ne2, upd_same, by rw [upd_ne ne2]; exact upd_same, k6.bnon hy1, k5.bnon hdy, pt.mono (e6.trans e7), fun b hb => ?_, dvl⟩, fun v H8 G8 k8 ⟨hv, st⟩ => ⟨hv, ?_⟩⟩
    · rcases hFt b hb with rfl | rfl | z
      · exact k1.bnon hx1
      · exact k0.bnon hdx
      · exact z.2
    · have e8 : Ex H1 H8 := (e2.trans (e3.trans e4)).trans k8.e
      refine q _ H8 e8 ?_
      obtain ⟨dx', lg, lm, ln, dt, F, th, made, s1, s2, s3, s4, s5⟩ := st
      have eg : Ex G8 (cut B H1 H8) := by
        rw [k8.g]
        intro b o hb
        have h1 : Ex (cut B H1 H2) (cut B H1 H8) := cut_mono ((e3.trans e4).trans k8.e)
        cases hq : (cut B H1 H2) b with
        | some w => 
          rw [cut_old hq] at hb
          have h2 := h1 _ _ hq
          rw [cut_le _ _ h2] at hb
          cases hb
          exact h2
        | none =>
          cases hh : H4 b with
          | some u => rw [cut_none hh hq] at hb; cases hb
          | none =>
            rw [cut_new hh] at hb
            rw [cut_new (fresh_back (e2.trans (e3.trans e4)) hh)]
            exact hb
      exact ⟨y, F, th, made, rfl, StAt.mono eg ⟨dx', lg, lm, ln, dt, s1, s2, s3⟩, s4, s5⟩
section
variable {P : Program} {w : World} {K : PySem.W.Frag} {mg : Str → Option Value} {base : Heap} {Cs Cp : Addr}
def AGot (Cs : Addr) (i : List Int × Int) : PVs := fun B vs => i.1.length ≤ 10 ∧ ∃ a, vs = [.ref a] ∧ StAt Cs i.1 i.2 B a
theorem AGot.len {i : List Int × Int} {B : Hp} {vs : List V} (h : AGot Cs i B vs) : vs.length = 1 := by obtain ⟨_, a, rfl, _⟩ := h; rfl
def spSGot (Cs : Addr) : Sp := spF (AGot Cs) fun i => is (.tuple (i.1.map .int))
abbrev dSGot (a : Fg → Addr) : Df := ⟨a, "got", "Story.got", sSGot, []⟩
theorem scSGot : FnScope ["self", "number"] ["self"] (defScope sSGot) := ⟨rfl, rfl, rfl, by decide +kernel, rfl, by decide +kernel, by decide +kernel⟩
/-- sorted(a dict with whole numbers as keys) -/
theorem ep_sortedDI {σ : L2.St} {B : Hp} {ta : TE} {D : Addr} {kvs : List (Key × V)} {ks zs : List Int} (ha : Ev ta σ B (.ref D)) (hD : B D = some (.dK kvs)) (hk : kvs.map (·.1) = ks.map Sum.inl) (h64 : ks.length < 64) (hz : ∀ ys : List Int, ys.Perm ks → ys.Pairwise (· ≤ ·) → ys = zs) :
    EvP (tCB (fun xs H Q => ∃ (a : Addr) (kvs : List (Key × V)) (ks : List Int), xs = [.ref a] ∧ Rd H a (.dK kvs) ∧ kvs.map (·.1) = ks.map Sum.inl ∧ ks.length < 64 ∧ ∀ (ys : List Int) (p : Addr), ys.Perm ks → ys.Pairwise (· ≤ ·) → H p = none → Q (.ref p) (upd H p (.lst (ys.map V.int)))) (tCons ta tNil)) σ B (is (dI zs)) := fun H1 e Q q =>
  ha H1 e _ fun H2 e2 => ⟨D, kvs, ks, rfl, .inl ((e.trans e2) _ _ hD), hk, h64, fun ys p h1 h2 hp => q _ _ (e2.trans (Ex.new hp)) (by
    rw [hz ys h1 h2]
    exact .lst (by rw [cut_new (fresh_back e2 hp), upd_same]) (DeA.ints zs))⟩
theorem ok_SGot {a : Fg → Addr} {f : Addr} {fd : FuncData} (F : At K (dSGot a) f fd) (T : Bt mg) (S : SF K Cs) : FR P w K mg base 1 f (spSGot Cs) := by
  refine raw0 (d := dSGot a) (fok F scSGot (fun i B vs h => h.len) fun cdv A' outer s H E hr => ?_) (F.bindsN fun _ _ _ _ _ _ us hl => match us, hl with | [_], _ => rfl)
  refine ⟨_, (pss_one (ps_ret (pe_callTy call_tuple_of (by rfl) T.tuple (by decide +kernel) (pa_cons ((pe_lc (own := [("number", 1)]) (g := gName 1) (tt := tYes) rfl scSGot.nd (pi_list (pe_callB (call_sortedDI rfl) (by rfl) T.sorted (by decide +kernel) (pa_cons (pe_sl (pv 0)) pa_nil))) (blkOk_by (N := ["self", "number"]) (sc := defScope sSGot) (by decide +kernel)) (fun _ _ _ _ _ => pg_name (i := 1) scSGot.nd rfl (by first | exact Or.inl rfl | exact Or.inr rfl)) (fun _ _ _ _ _ => pts_nil) (fun _ _ _ _ _ => pe_dget (hu_of hr) (kSl K (pv 0)) (pv 1) (by intro _ _; rfl)))) pa_nil)))), fun i B vs h => ?_⟩
  obtain ⟨hl, x, rfl, dx, lg, lm, ln, dt, ins, _, hd⟩ := h
  obtain ⟨pT, tT⟩ := S.things
  have hks : (kvS i.1).map (·.1) = ((List.range i.1.length).map fun t => ((t : Nat) : Int)).map Sum.inl := by
    unfold kvS
    rw [List.map_map, List.map_map]
    rfl
  have hlt : ((List.range i.1.length).map fun t => ((t : Nat) : Int)).Pairwise (· < ·) := by
    rw [List.pairwise_map]
    exact List.pairwise_lt_range.imp fun h => by omega
  have hso := ep_sortedDI (σ := start ["self", "number"] [.ref x]) (ev_sl S.c tT ins (ev_var (i := 0) rfl) rfl) hd hks (by simp; omega) (zs := (List.range i.1.length).map fun t => ((t : Nat) : Int)) fun ys h1 h2 =>
    asc_uniq ((h2.and (h1.nodup_iff.mpr (hlt.imp fun h => by omega))).imp fun h => by have := h.1; have := h.2; omega) hlt fun k => h1.mem_iff
  have hit : EvI _ (start ["self", "number"] [.ref x]) B ((List.range i.1.length).map nt) := wi_list (K := K) (by
    have e : dI ((List.range i.1.length).map fun t => ((t : Nat) : Int)) = .list ((List.range i.1.length).map nt) := by
      unfold dI
      rw [List.map_map]
      rfl
    rw [e] at hso
    exact hso)
  have e : i.1.map PyData.int = (List.range i.1.length).map fun t => .int (M.thA i.1 t) := by
    apply List.ext_getElem
    · simp
    · intro t h1 h2
      rw [List.length_map] at h1
      simp only [List.getElem_map, List.getElem_range]
      unfold M.thA
      rw [List.getD_eq_getElem?_getD, List.getElem?_eq_getElem h1]
      rfl
  rw [e]
  refine st_ret (ep_tupleOf (ep_lcm (fun t => .int (M.thA i.1 t)) hit (by simp; omega) fun t G ht e => tg_name fun y hy => ?_))
  rw [De.int' hy]
  rw [List.mem_range] at ht
  exact ⟨rfl, ep_dget (ev_sl S.c tT (ins.mono e) (ev_var (i := 0) rfl) rfl) (ep_d rfl (.int (t : Nat))) (e _ _ hd) (kvS_val ht)⟩
def spSMak (Cs : Addr) : Sp := spF (AGot Cs) fun i G v => ∃ ms : List Int, De G v (dI ms) ∧ (ms.length : Int) = i.2
abbrev dSMak (a : Fg → Addr) : Df := ⟨a, "makings", "Story.makings", sSMakings, []⟩
theorem scSMak : FnScope ["self"] ["self"] (defScope sSMakings) := ⟨rfl, rfl, rfl, by decide +kernel, rfl, by decide +kernel, by decide +kernel⟩
theorem ok_SMak {a : Fg → Addr} {f : Addr} {fd : FuncData} (F : At K (dSMak a) f fd) (T : Bt mg) (S : SF K Cs) : FR P w K mg base 1 f (spSMak Cs) := by
  refine raw0 (d := dSMak a) (fok F scSMak (fun i B vs h => h.len) fun cdv A' outer s H E hr => ?_) (F.bindsN fun _ _ _ _ _ _ us hl => match us, hl with | [_], _ => rfl)
  refine ⟨_, (pss_one (ps_ret (pe_callTy call_list_of (by rfl) T.list (by decide +kernel) (pa_cons (pe_sl (pv 0)) pa_nil)))), fun i B vs h => ?_⟩
  obtain ⟨hl, x, rfl, dx, lg, lm, ln, dt, ins, ⟨ms, hm, hml⟩, hd⟩ := h
  obtain ⟨pM, tM⟩ := S.made
  exact st_ret ((ep_listF (Ev.lst (ev_sl S.c tM ins (ev_var (i := 0) rfl) rfl) hm (DeA.ints ms))).imp fun _ _ _ h => ⟨ms, h.2, hml⟩)
theorem ep_sm {σ : L2.St} {B : Hp} {ta : TE} {E : XK} {i : SKD} {R : List Int × Int → PV} (hc : SC i) (ho : EvP ta σ B (isS Cs i)) : EvP (tMethSl Cs (spF (AGot Cs) R) E ta tNil) σ B (fun G v => ∃ F th made, Told i F th made ∧ R (th, made) G v) :=
  Co.bind (r := fun x H Q => ∃ a dx vs, x = .ref a ∧ Slt H a Cs dx vs ∧ tNil σ H fun ws H2 => spF (AGot Cs) R (x :: ws) H2 Q E) ho fun x G e p => fun H1 e1 Q q => by
    obtain ⟨a, F, th, made, rfl, h1, h2⟩ := p
    have h3 := h1
    obtain ⟨dx, lg, lm, ln, dt, ins, _, _⟩ := h3
    exact ⟨a, dx, _, rfl, (ins.mono e1).slt, (th, made), G, e1, ⟨by rw [h2.1.len]; exact hc.2.1, a, rfl, h1⟩, fun v H2 e2 r => q v H2 e2 ⟨F, th, made, h2, r⟩⟩
def AThings (i : SKD) : PVs := fun B vs => SC i ∧ DeA B vs [dl i.1, .int i.2.1, dk i.2.2]
theorem AThings.len {i : SKD} {B : Hp} {vs : List V} (h : AThings i B vs) : vs.length = 3 := by obtain ⟨_, h⟩ := h; exact h.len
def spThings : Sp := spF AThings fun i G v => ∃ F th made, Told i F th made ∧ De G v (.tuple (th.map .int))
abbrev dThings (a : Fg → Addr) : Df := ⟨a, "things", "things", sThings, []⟩
theorem scThings : FnScope ["loans", "keep", "depth"] ["loans", "keep", "depth"] (defScope sThings) := ⟨rfl, rfl, rfl, by decide +kernel, rfl, by decide +kernel, by decide +kernel⟩
theorem ok_things {a : Fg → Addr} {f : Addr} {fd : FuncData} (F : At K (dThings a) f fd) (T : Bt mg) (SN : SMk P w K mg base Cs Cp) (PN : PMk P w K mg base Cp) (SG : MR P w K mg base 1 Cs "got" (spSGot Cs)) : FnOk P w K mg base CX0 6 f fd ["loans", "keep", "depth"] spThings := by
  refine fok F scThings (fun i B vs h => h.len) fun cdv A' outer s H E hr => ?_
  refine ⟨_, (pss_one (ps_ret (pe_m0 SG hr (by omega) (C8.pe_mk SN hr (Nat.le_refl _) (by rfl) (pa_cons ((pv 0)) (pa_cons (C8.pe_mk PN hr (by omega) (by rfl) (pa_cons ((pv 1)) (pa_cons ((pv 2)) pa_nil))) pa_nil)))))), fun i B vs h => ?_⟩
  obtain ⟨hc, hd⟩ := h
  obtain ⟨vl, vk, vd, rfl, h1, h2, h3⟩ := hd.three
  exact st_ret (ep_sm hc (ep_newS hc (ep_d rfl h1) (ep_d rfl h2) (ep_d rfl h3)))
def spMade : Sp := spF AThings fun i G v => ∃ F th made, Told i F th made ∧ ∃ ms : List Int, De G v (dI ms) ∧ (ms.length : Int) = made
abbrev dMade (a : Fg → Addr) : Df := ⟨a, "made_at", "made_at", sMadeAt, []⟩
theorem scMade : FnScope ["loans", "keep", "depth"] ["loans", "keep", "depth"] (defScope sMadeAt) := ⟨rfl, rfl, rfl, by decide +kernel, rfl, by decide +kernel, by decide +kernel⟩
theorem ok_made {a : Fg → Addr} {f : Addr} {fd : FuncData} (F : At K (dMade a) f fd) (T : Bt mg) (SN : SMk P w K mg base Cs Cp) (PN : PMk P w K mg base Cp) (SG : MR P w K mg base 1 Cs "makings" (spSMak Cs)) : FnOk P w K mg base CX0 6 f fd ["loans", "keep", "depth"] spMade := by
  refine fok F scMade (fun i B vs h => h.len) fun cdv A' outer s H E hr => ?_
  refine ⟨_, (pss_one (ps_ret (pe_m0 SG hr (by omega) (C8.pe_mk SN hr (Nat.le_refl _) (by rfl) (pa_cons ((pv 0)) (pa_cons (C8.pe_mk PN hr (by omega) (by rfl) (pa_cons ((pv 1)) (pa_cons ((pv 2)) pa_nil))) pa_nil)))))), fun i B vs h => ?_⟩
  obtain ⟨hc, hd⟩ := h
  obtain ⟨vl, vk, vd, rfl, h1, h2, h3⟩ := hd.three
  exact st_ret (ep_sm hc (ep_newS hc (ep_d rfl h1) (ep_d rfl h2) (ep_d rfl h3)))
end
end Q
/-! K75S4 -/
set_option Elab.async false
set_option linter.all false
set_option maxRecDepth 100000
set_option maxHeartbeats 4000000
/-! Who hands on to whom. -/
namespace Q
open PySem PySem.Spec PyProof.Rows L2 Evl SlX
open M (Ln Fr)
section
variable {σ : L2.St} {B H1 H G : Hp} {ta tb : TE} {P : PV} {nx : L2.St → Hp → Prop} {rt : VK} {bk ct : L2.St → Hp → Prop}
/-- max of the pairs (bn g, g) -/
theorem ep_maxG {bn : Nat → Int} {l : List Nat} {g : Nat} (hm : g ∈ l) (hg : ∀ u ∈ l, u ≤ g ∧ bn u ≤ bn g) (ha : EvP ta σ B (is (.list (l.map fun g => pr (bn g, (g : Int)))))) : EvP (tCB rMaxP (tCons ta tNil)) σ B (is (pr (bn g, (g : Int)))) :=
  ep_cb1 ha mo_is fun x G e p => fun H1 e1 Q q => by
    obtain ⟨a, xs, rfl, h1, h2⟩ := De.lst' p
    have hl : l.map (fun g => pr (bn g, (g : Int))) = (l.map fun g => (bn g, (g : Int))).map pr := by rw [List.map_map]; rfl
    rw [hl] at h2
    cases hq : l.map fun g => (bn g, (g : Int)) with
    | nil =>
      rw [List.map_eq_nil_iff.mp hq] at hm
      cases hm
    | cons p0 r =>
      rw [hq] at h2
      refine ⟨a, xs, p0, r, rfl, e1 _ _ h1, h2.mono e1, fun v z j hj hz hm2 hmin => q v H1 (Ex.refl _) ?_⟩
      obtain ⟨d, k1, k2⟩ := h2.of hj
      rw [hz] at k1
      cases k1
      rw [← hq] at hm2 hmin
      obtain ⟨h, hh, rfl⟩ := List.mem_map.mp hm2
      have h3 := hmin _ (List.mem_map.mpr ⟨g, hm, rfl⟩)
      rw [prB_no] at h3
      have h4 := hg h hh
      have h3' : ¬ (bn h < bn g ∨ (bn h = bn g ∧ (h : Int) < (g : Int))) := h3
      have e3 : bn h = bn g ∧ h = g := by omega
      rw [← e3.1, ← e3.2]
      exact k2.mono (cut_base e1)
theorem q_parL {K : PySem.W.Frag} {i j : Nat} {o : HO} (m : MkE ta o) (kn : Kn B H1 H G) (h : ∀ (D : Addr) (G' : Hp), Ex G G' → EvP tb σ G' P) (mo : Mo P) (k : ∀ v D H' G', Kn B H1 H' G' → Ex G G' → P G' v → G' D = some o → B D = none → nx ((σ.set i (some (.ref D))).set j (some v)) H') : tAsg (tTup (tCons ta (tCons tb tNil))) (gTup K 2 (gCons (gName i) (gCons (gName j) gNil))) ⟨nx, rt, bk, ct⟩ σ H := m σ H _ fun D hD => by
  have k1 := kn.new (o := o) hD
  have e1 : Ex G (L2.upd G D o) := fun b u q => by rw [upd_ne (ne_of_none q (kn.non hD))]; exact q
  refine h D _ e1 _ k1.le _ fun v H2 e2 p => ?_
  obtain ⟨k2, e3⟩ := k1.pure e2
  refine ⟨by show 2 ≤ sizeLine; decide, fun pp hpp => ?_⟩
  have k3 := k2.new (o := .tup [.ref D, v]) hpp
  have e4 : Ex (cut (L2.upd G D o) (L2.upd H D o) H2) (L2.upd (cut (L2.upd G D o) (L2.upd H D o) H2) pp (.tup [.ref D, v])) := fun b u q => by rw [upd_ne (ne_of_none q (k2.non hpp))]; exact q
  exact ⟨pp, _, rfl, .of upd_same, rfl, _, _, rfl, _, _, rfl, rfl, k v D _ _ k3 (e1.trans (e3.trans e4)) (mo _ _ _ e4 p) (e4 _ _ (e3 _ _ upd_same)) (kn.bnon hD)⟩
end
def dnV : Option Nat → V
  | none => .non
  | some g => .int (g : Nat)
section
variable {P : Program} {w : World} {K : PySem.W.Frag} {mg : Str → Option Value} {base : Heap}
def spHandingOf : Sp := spF AThings fun i G v => ∃ F th made, Told i F th made ∧ De G v (.tuple ((M.hdOf i.1.length F).map dn))
abbrev dHandingOf (a : Fg → Addr) : Df := ⟨a, "handing_of", "handing_of", sHandingOf, []⟩
theorem scHandingOf : FnScope ["loans", "keep", "depth", "found", "some", "taker", "number", "ahead", "giver"] ["loans", "keep", "depth"] (defScope sHandingOf) := ⟨rfl, rfl, rfl, by decide +kernel, rfl, by decide +kernel, by decide +kernel⟩
theorem ok_handing {a : Fg → Addr} {f : Addr} {fd : FuncData} (F : At K (dHandingOf a) f fd) (T : Bt mg) (TH : C8.Cal P w K mg base 6 "things" spThings []) : FnOk P w K mg base CX0 7 f fd ["loans", "keep", "depth"] spHandingOf := by
  refine fok F scHandingOf (fun i B vs h => h.len) fun cdv A' outer s H E hr => ?_
  refine ⟨_, (pss_cons (ps_asg (pe_tup (pa_cons (pe_lst pa_nil) (pa_cons ((C8.pe_c TH hr (Nat.le_refl _) (by rfl) (pa_cons ((pv 0)) (pa_cons ((pv 1)) (pa_cons ((pv 2)) pa_nil))))) pa_nil))) ((pg_tup (n := 2) rfl (pgs_cons (pg_name (i := 3) scHandingOf.nd rfl (by first | exact Or.inl rfl | exact Or.inr rfl)) (pgs_cons (pg_name (i := 4) scHandingOf.nd rfl (by first | exact Or.inl rfl | exact Or.inr rfl)) pgs_nil))))) (pss_cons ((ps_for PassesOwn.never rfl (pi_enumT (by rfl) T.enumerate (pa_cons ((pv 4)) pa_nil)) (pg_tup (n := 2) rfl (pgs_cons (pg_name (i := 5) scHandingOf.nd rfl (by first | exact Or.inl rfl | exact Or.inr rfl)) (pgs_cons (pg_name (i := 6) scHandingOf.nd rfl (by first | exact Or.inl rfl | exact Or.inr rfl)) pgs_nil))) ((pss_cons ((ps_setLc (i := 7) (own := [("giver", 8)]) (g := gName 8) rfl scHandingOf.nd rfl rfl rfl (pi_range1 (by rfl) T.range (pa_cons ((pv 5)) pa_nil)) (blkOk_by (N := ["loans", "keep", "depth", "found", "some", "taker", "number", "ahead", "giver"]) (sc := defScope sHandingOf) (by decide +kernel)) (fun _ _ _ _ _ => pg_name (i := 8) scHandingOf.nd rfl (by first | exact Or.inl rfl | exact Or.inr rfl)) (fun _ _ _ _ _ => pts_one (pt_cmpR op_eq (kIxT K (pv 4) (pv 8)) (pv 6) rfl)) (fun _ _ _ _ _ => pe_tup (pa_cons (kIxT K (kIxT K (pv 0) (pv 8)) pe_int) (pa_cons ((pv 8)) pa_nil))))) (pss_one ((ps_expr (pe_bm PySem.F.plainAttrs_list PySem.F.slot_list_append PySem.F.type_list_append mt_append ((pv 3)) (pa_cons (pe_ifExp (pt_cmpR op_gt (pe_callB call_len_seq (by rfl) T.len (by decide +kernel) (pa_cons ((pv 7)) pa_nil)) pe_int rfl) (kIxT K (pe_callB (call_maxP rfl hr.units) (by rfl) T.max (by decide +kernel) (pa_cons ((pv 7)) pa_nil)) pe_int) pe_non) pa_nil))))))))) (pss_one (ps_ret (pe_callTy call_tuple_of (by rfl) T.tuple (by decide +kernel) (pa_cons ((pv 3)) pa_nil)))))), fun i B vs h => ?_⟩
  obtain ⟨hc, hd⟩ := h
  have hc2 := hc
  obtain ⟨Va, hn, _, _, _⟩ := hc2
  obtain ⟨vl, vk, vd, rfl, h1, h2, h3⟩ := hd.three
  refine ret_of fun H1 nx rt bk ct kn hret => ?_
  refine q_seq (q_parL mk_lst kn (fun D G' e => ep_call (ι := SKD) (A := AThings) (R := fun i G v => ∃ F th made, Told i F th made ∧ De G v (.tuple (th.map .int))) i (da_cons (ep_d rfl (h1.mono e)) (da_cons (ep_d rfl (h2.mono e)) (da_cons (ep_d rfl (h3.mono e)) da_nil))) fun G vs e2 p => ⟨hc, by rw [List.append_nil]; exact p⟩) (fun _ _ _ e ⟨F, th, made, a, b⟩ => ⟨F, th, made, a, b.mono e⟩) fun vs D Ha Ga kna ea hvs hDG hBD => ?_)
  obtain ⟨Fh, th, made, told, hvs⟩ := hvs
  have hlen : th.length = i.1.length := told.1.len
  have hvk : De (wo [D] Ga) vs (.tuple (th.map .int)) := by
    obtain ⟨b, xs, rfl, hb, hx⟩ := De.tup' hvs
    have n : b ∉ [D] := fun q => by
      rw [List.mem_singleton.mp q, hDG] at hb
      cases hb
    have := hx.ints'
    subst this
    exact .tup (by rw [wo_out n]; exact hb) (DeA.ints th)
  refine q_seq (q_for (α := Int × Nat) (l := th.zipIdx) (ι := enI PyData.int) (wo [D] Ga) kna wo_le (wi_enumT (ep_d (i := 4) rfl hvk)) (fun j σ G' => ∃ x5 x6 x7 x8, σ = [some vl, some vk, some vd, some (.ref D), some vs, x5, x6, x7, x8] ∧ G' D = some (.lst (((M.hdOf i.1.length Fh).take j).map dnV))) ⟨_, _, _, _, rfl, hDG⟩ ?_ ?_ ?_)
  · rintro j σ G1 G2 ⟨x5, x6, x7, x8, e, h⟩ e'
    exact ⟨x5, x6, x7, x8, e, e' _ _ h⟩
  · rintro j ⟨x, t⟩ Gw σ H' G' hj eGw frs eG kn' ⟨x5, x6, x7, x8, rfl, hL⟩
    obtain ⟨htj, hx⟩ : t = j ∧ th[j]? = some x := by
      rw [List.getElem?_zipIdx] at hj
      obtain ⟨l', hl', e⟩ := Option.map_eq_some_iff.mp hj
      cases e
      exact ⟨by omega, hl'⟩
    subst htj
    have htl : t < th.length := (List.getElem?_eq_some_iff.mp hx).1
    have hxt : x = M.thA th t := by
      unfold M.thA
      rw [List.getD_eq_getElem?_getD, hx]
      rfl
    have hDw : Gw D = none := frs D _ (kna.le _ _ hDG) (wo_in List.mem_cons_self)
    refine ⟨fun σ2 => σ2 = [some vl, some vk, some vd, some (.ref D), some vs, some (.int ((t : Nat) : Int)), some (.int x), x7, x8], tg_pair fun y z dy dz => by rw [De.int' dy, De.int' dz]; rfl, ?_⟩
    rintro σ2 rfl
    have hvg : De G' vs (.tuple (th.map .int)) := (hvk.mono eGw).mono eG
    have hlg : De G' vl (dl i.1) := h1.mono kn'.base
    refine q_seq (q_asg kn' (ep_lcF (l := List.range t) (ι := nt) (fun g => decide (M.thA th g = M.thA th t)) (fun g => pr (M.bg i.1 g, ((g : Nat) : Int))) (wi_range (da_cons (ep_d (i := 5) rfl (.int _)) da_nil) (by omega)) (by rw [List.length_range]; omega) fun g G2 hg e2 => tg_name fun y hy => ?_) fun va Hb Gb knb eb hva => ?_)
    · rw [De.int' hy]
      rw [List.mem_range] at hg
      have hgg : (th.map PyData.int)[g]? = some (.int (M.thA th g)) := by
        rw [List.getElem?_map, List.getElem?_eq_getElem (by omega)]
        unfold M.thA
        rw [List.getD_eq_getElem?_getD, List.getElem?_eq_getElem (by omega)]
        rfl
      have hlg2 : (i.1.map pr)[g]? = some (pr (M.bg i.1 g, M.ed i.1 g)) := by
        rw [List.getElem?_map, List.getElem?_eq_getElem (by omega)]
        unfold M.bg M.ed
        rw [M.getD_lt (by omega)]
        rfl
      refine ⟨rfl, ?_, fun _ => ep_tup (da_cons (ep_ixT (j := 0) (ep_ixT (j := g) (ep_d (i := 0) rfl (hlg.mono e2)) (ep_d (i := 8) rfl (.int (g : Nat))) rfl hlg2) ep_int rfl rfl) (da_cons (ep_d (i := 8) rfl (.int (g : Nat))) da_nil)) (by show 2 ≤ 100000; decide)⟩
      rw [← hxt]
      exact et_test' (ep_eqI (ep_ixT (j := g) (ep_d (i := 4) rfl (hvg.mono e2)) (ep_d (i := 8) rfl (.int (g : Nat))) rfl hgg) (ep_d (i := 6) rfl (.int x)))
    obtain ⟨⟨S2, rfl, hS2⟩, hva⟩ := hva
    have eah : ((List.range t).filter fun g => decide (M.thA th g = M.thA th t)) = M.aheadOf th t := rfl
    rw [eah] at hva
    have hLb := eb _ _ hL
    have hval : EvP (tIf (tTest (tOp (rI0 fun i j => .bl (decide (j < i))) (tCB (fun xs H Q => ∃ p ys, xs = [.ref p] ∧ (SqL K H p ys ∨ SqT K H p ys) ∧ Q (.int ys.length) H) (tCons (tVar 7) tNil)) (tC (.int 0)))) (tOp (rIxT K) (tCB rMaxP (tCons (tVar 7) tNil)) (tC (.int 1))) (tC .non)) [some vl, some vk, some vd, some (.ref D), some vs, some (.int ((t : Nat) : Int)), some (.int x), some (.ref S2), x8] Gb (fun _ v => v = dnV ((Fh.find? fun p => p.1 == t).map (·.2))) := by
      have hlc := ep_lenL (K := K) (σ := [some vl, some vk, some vd, some (.ref D), some vs, some (.int ((t : Nat) : Int)), some (.int x), some (.ref S2), x8]) (ep_d (i := 7) rfl hva)
      rw [List.length_map] at hlc
      rcases told.1.ahead (by omega : t < i.1.length) with ⟨h0, hf⟩ | ⟨g, hf, hg, hmx⟩
      · rw [h0] at hlc
        rw [hf]
        exact ep_if (b := false) (fun _ _ _ _ h => h) (et_test' (ep_gt hlc ep_int)) (fun z => by cases z) fun _ => ep_c (P := fun _ v => v = V.non) rfl (fun _ _ _ _ h => h)
      · rw [hf]
        have hpos : 0 < (M.aheadOf th t).length := List.length_pos_of_mem hg
        refine ep_if (b := true) (fun _ _ _ _ h => h) ?_ (fun _ => ?_) (fun z => by cases z)
        · have := et_test' (ep_gt hlc (ep_int (i := 0)))
          rw [decide_eq_true (show (0 : Int) < ((M.aheadOf th t).length : Nat) by omega)] at this
          exact this
        · refine (ep_ixT (j := 1) (ep_maxG (bn := M.bg i.1) hg (fun u hu => ⟨hmx u hu, M.bg_mono Va (hmx u hu) ?_⟩) (ep_d (i := 7) rfl hva)) ep_int rfl rfl).imp fun _ _ _ h => De.int' h
          have hgt : g < t := by
            unfold M.aheadOf at hg
            exact List.mem_range.mp (List.mem_filter.mp hg).1
          omega
    refine q_append (xs := ((M.hdOf i.1.length Fh).take t).map dnV) (fun _ _ _ _ h => h) knb hBD hLb (by rw [List.length_map, List.length_take]; omega) (ev_var (i := 3) rfl) hval fun v Hc Gc knc ec hv knd => ?_
    subst hv
    refine ⟨_, knd, fun b o q => ?_, _, _, _, _, rfl, ?_⟩
    · rw [upd_ne (ne_of_none q hDw)]
      exact ec _ _ (eb _ _ (eG _ _ q))
    · rw [upd_same, List.take_succ, M.hdOf_at (by omega)]
      simp only [Option.toList_some, List.map_append, List.map_cons, List.map_nil]
  · rintro σ Hz Gz Gw _ _ eG kz ⟨x5, x6, x7, x8, rfl, hL⟩
    rw [List.length_zipIdx, hlen, List.take_of_length_le (by unfold M.hdOf; simp)] at hL
    refine q_ret kz (ep_tupleOf (K := K) (ds := (M.hdOf i.1.length Fh).map dn) (Ev.lst (ev_var (i := 3) rfl) hL ?_)) fun v H' G' k' e' hv => hret v H' G' k' ⟨Fh, th, made, told, hv⟩
    generalize M.hdOf i.1.length Fh = l
    induction l with
    | nil => exact .nil
    | cons o l ih =>
      refine .cons ?_ ih
      cases o with
      | none => exact .non
      | some g => exact .int _
end
end Q
/-! K75W1 -/
set_option Elab.async false
set_option linter.all false
set_option maxRecDepth 100000
set_option maxHeartbeats 4000000
/-! The law's own helpers: gap, givers, dead, living. -/
namespace Q
open PySem PySem.Spec PyProof.Rows L2 Evl SlX
open M (Ln Fr)
section
variable {P : Program} {w : World} {K : PySem.W.Frag} {mg : Str → Option Value} {base : Heap}
theorem ln_at {ls : List Ln} {g : Nat} (h : g < ls.length) : (ls.map pr)[g]? = some (pr (M.bg ls g, M.ed ls g)) := by
  rw [List.getElem?_map, List.getElem?_eq_getElem h]
  unfold M.bg M.ed
  rw [M.getD_lt h]
  rfl
section
variable {σ : L2.St} {B : Hp} {ta tb : TE}
/-- a loan's part in the data -/
theorem ep_lb {ls : List Ln} {g : Nat} (h : g < ls.length) (ha : EvP ta σ B (is (dl ls))) (hb : EvP tb σ B (is (nt g))) : EvP (tOp (rIxT K) (tOp (rIxT K) ta tb) (tC (.int 0))) σ B (is (.int (M.bg ls g))) := ep_ixT (j := 0) (ep_ixT (j := g) ha hb rfl (ln_at h)) ep_int rfl rfl
theorem ep_le' {ls : List Ln} {g : Nat} (h : g < ls.length) (ha : EvP ta σ B (is (dl ls))) (hb : EvP tb σ B (is (nt g))) : EvP (tOp (rIxT K) (tOp (rIxT K) ta tb) (tC (.int 1))) σ B (is (.int (M.ed ls g))) := ep_ixT (j := 1) (ep_ixT (j := g) ha hb rfl (ln_at h)) ep_int rfl rfl
end
def AWGap (i : List Ln × Nat × Nat) : PVs := fun B vs => (i.2.1 < i.1.length ∧ i.2.2 < i.1.length) ∧ DeA B vs [dl i.1, nt i.2.1, nt i.2.2]
def spWGap : Sp := spF AWGap fun i => is (.int (M.bg i.1 i.2.2 - M.ed i.1 i.2.1))
abbrev dWGap (a : Fg → Addr) : Df := ⟨a, "_law_gap", "_law_gap", sGap, []⟩
theorem scWGap : FnScope ["_law_loans_so", "_law_i", "_law_j"] ["_law_loans_so", "_law_i", "_law_j"] (defScope sGap) := ⟨rfl, rfl, rfl, by decide +kernel, rfl, by decide +kernel, by decide +kernel⟩
theorem ok_WGap {a : Fg → Addr} {f : Addr} {fd : FuncData} (F : At K (dWGap a) f fd) : FnOk P w K mg base CX0 1 f fd ["_law_loans_so", "_law_i", "_law_j"] spWGap := by
  refine fok F scWGap (fun i B vs h => h.2.len) fun cdv A' outer s H E hr => ?_
  refine ⟨_, (pss_one (ps_ret (pe_op op_sub (kIxT K (kIxT K (pv 0) (pv 2)) pe_int) (kIxT K (kIxT K (pv 0) (pv 1)) pe_int)))), fun i B vs h => ?_⟩
  obtain ⟨⟨hi, hj⟩, hd⟩ := h
  obtain ⟨vl, vi, vj, rfl, h1, h2, h3⟩ := hd.three
  exact st_ret (ep_sub (ep_lb hj (ep_d rfl h1) (ep_d rfl h3)) (ep_le' hi (ep_d rfl h1) (ep_d rfl h2)))
def AWGiv (i : List Ln × Int × Nat) : PVs := fun B vs => (i.2.2 < i.1.length ∧ i.1.length ≤ 1000) ∧ DeA B vs [dl i.1, .int i.2.1, nt i.2.2]
def spWGiv : Sp := spF AWGiv fun i => is (dN (M.givers i.1 (some i.2.1) i.2.2))
abbrev dWGiv (a : Fg → Addr) : Df := ⟨a, "_law_givers", "_law_givers", sGivers, []⟩
theorem scWGiv : FnScope ["_law_loans_so", "_law_keep_so", "_law_j", "_law_i"] ["_law_loans_so", "_law_keep_so", "_law_j"] (defScope sGivers) := ⟨rfl, rfl, rfl, by decide +kernel, rfl, by decide +kernel, by decide +kernel⟩
theorem ok_WGiv {a : Fg → Addr} {f : Addr} {fd : FuncData} (F : At K (dWGiv a) f fd) (T : Bt mg) (G1 : C8.Cal P w K mg base 1 "_law_gap" spWGap []) : FnOk P w K mg base CX0 2 f fd ["_law_loans_so", "_law_keep_so", "_law_j"] spWGiv := by
  refine fok F scWGiv (fun i B vs h => h.2.len) fun cdv A' outer s H E hr => ?_
  refine ⟨_, (pss_one (ps_ret (pe_lc (own := [("_law_i", 3)]) (g := gName 3) rfl scWGiv.nd (pi_range1 (by rfl) T.range (pa_cons ((pe_callB call_len_seq (by rfl) T.len (by decide +kernel) (pa_cons ((pv 0)) pa_nil))) pa_nil)) (blkOk_by (N := ["_law_loans_so", "_law_keep_so", "_law_j", "_law_i"]) (sc := defScope sGivers) (by decide +kernel)) (fun _ _ _ _ _ => pg_name (i := 3) scWGiv.nd rfl (by first | exact Or.inl rfl | exact Or.inr rfl)) (fun _ _ _ _ _ => pts_one (pt_chain op_le op_le pe_int (C8.pe_c G1 hr (Nat.le_refl _) (by rfl) (pa_cons ((pv 0)) (pa_cons ((pv 3)) (pa_cons ((pv 2)) pa_nil)))) (pv 1))) (fun _ _ _ _ _ => (pv 3))))), fun i B vs h => ?_⟩
  obtain ⟨⟨hj, hz⟩, hd⟩ := h
  obtain ⟨vl, vk, vj, rfl, h1, h2, h3⟩ := hd.three
  refine st_ret ?_
  have hln := ep_lenT (K := K) (σ := start ["_law_loans_so", "_law_keep_so", "_law_j", "_law_i"] [vl, vk, vj]) (ep_d (i := 0) rfl h1)
  rw [List.length_map] at hln
  refine ep_lc (l := List.range i.1.length) (ι := nt) (fun g => M.can i.1 (some i.2.1) g i.2.2) nt (wi_range (da_cons hln da_nil) (by omega)) (by rw [List.length_range]; omega) fun g G hg e => tg_name fun y hy => ?_
  rw [De.int' hy]
  rw [List.mem_range] at hg
  refine ⟨rfl, ?_, fun _ => ep_d rfl (.int _)⟩
  exact et_test' (ep_LeLe (i := 0) (j := M.bg i.1 i.2.2 - M.ed i.1 g) (k := i.2.1) ep_int (ep_call (A := AWGap) (i.1, g, i.2.2) (da_cons (ep_d (i := 0) rfl (h1.mono e)) (da_cons (ep_d (i := 3) rfl (.int _)) (da_cons (ep_d (i := 2) rfl (h3.mono e)) da_nil))) fun G vs e p => ⟨⟨hg, hj⟩, by rw [List.append_nil]; exact p⟩) (ep_d (i := 1) rfl (h2.mono e)))
def AWDead (i : List Ln × M.Fr × Nat × Nat) : PVs := fun B vs => ((i.2.2.1 < i.1.length ∧ i.2.2.2 < i.1.length) ∧ i.2.1.2.length ≤ 1000) ∧ DeA B vs [dl i.1, dfar i.2.1, nt i.2.2.1, nt i.2.2.2]
def spWDead : Sp := spF AWDead fun i => is (.bool (M.dd i.1 i.2.1 i.2.2.1 i.2.2.2))
abbrev dWDead (a : Fg → Addr) : Df := ⟨a, "_law_is_dead", "_law_is_dead", sIsDead, []⟩
theorem scWDead : FnScope ["_law_loans_so", "_law_far_so", "_law_i", "_law_j", "_law_own"] ["_law_loans_so", "_law_far_so", "_law_i", "_law_j"] (defScope sIsDead) := ⟨rfl, rfl, rfl, by decide +kernel, rfl, by decide +kernel, by decide +kernel⟩
theorem DeA.four {G : Hp} {vs : List V} {d1 d2 d3 d4 : PyData} (h : DeA G vs [d1, d2, d3, d4]) : ∃ a b c d, vs = [a, b, c, d] ∧ De G a d1 ∧ De G b d2 ∧ De G c d3 ∧ De G d d4 := by
  cases h with
  | cons h1 h => cases h with
    | cons h2 h => cases h with
      | cons h3 h => cases h with
        | cons h4 h => cases h; exact ⟨_, _, _, _, rfl, h1, h2, h3, h4⟩
theorem ok_WDead {a : Fg → Addr} {f : Addr} {fd : FuncData} (F : At K (dWDead a) f fd) (T : Bt mg) (G1 : C8.Cal P w K mg base 1 "_law_gap" spWGap []) : FnOk P w K mg base CX0 2 f fd ["_law_loans_so", "_law_far_so", "_law_i", "_law_j"] spWDead := by
  refine fok F scWDead (fun i B vs h => h.2.len) fun cdv A' outer s H E hr => ?_
  refine ⟨_, (pss_cons (ps_if (PW.pt (pw_and (pt_cmp (pc_notN (kIxT K (pv 1) pe_int))) (pw_and1 (pt_cmpR op_ge ((C8.pe_c G1 hr (Nat.le_refl _) (by rfl) (pa_cons ((pv 0)) (pa_cons ((pv 2)) (pa_cons ((pv 3)) pa_nil))))) (kIxT K (pv 1) pe_int) rfl)))) (pss_one (ps_ret pe_bl)) pss_nil) (pss_one (ps_ret (pe_cmpR (op_neD hr.units) ((pe_lc (own := [("_law_own", 4)]) (g := gName 4) rfl scWDead.nd (kTup K (kIxT K (pv 1) pe_int)) (blkOk_by (N := ["_law_loans_so", "_law_far_so", "_law_i", "_law_j", "_law_own"]) (sc := defScope sIsDead) (by decide +kernel)) (fun _ _ _ _ _ => pg_name (i := 4) scWDead.nd rfl (by first | exact Or.inl rfl | exact Or.inr rfl)) (fun _ _ _ _ _ => pts_one (pt_chain op_lt op_le (kIxT K (kIxT K (pv 0) (pv 2)) pe_int) (pv 4) (kIxT K (kIxT K (pv 0) (pv 3)) pe_int))) (fun _ _ _ _ _ => (pv 4)))) (pe_lst pa_nil) rfl)))), fun i B vs h => ?_⟩
  obtain ⟨⟨⟨hi, hj⟩, hz⟩, hd⟩ := h
  obtain ⟨vl, vf, vi, vj, rfl, h1, h2, h3, h4⟩ := hd.four
  have hg : EvP (tCall spWGap [] E0 (tCons (tVar 0) (tCons (tVar 2) (tCons (tVar 3) tNil)))) (start ["_law_loans_so", "_law_far_so", "_law_i", "_law_j", "_law_own"] [vl, vf, vi, vj]) B (is (.int (M.bg i.1 i.2.2.2 - M.ed i.1 i.2.2.1))) := ep_call (A := AWGap) (i.1, i.2.2.1, i.2.2.2) (da_cons (ep_d (i := 0) rfl h1) (da_cons (ep_d (i := 2) rfl h3) (da_cons (ep_d (i := 3) rfl h4) da_nil))) fun G vs e p => ⟨⟨hi, hj⟩, by rw [List.append_nil]; exact p⟩
  have hs : EvP (tOp (rIxT K) (tVar 1) (tC (.int 0))) (start ["_law_loans_so", "_law_far_so", "_law_i", "_law_j", "_law_own"] [vl, vf, vi, vj]) B (is (dk i.2.1.1)) := ep_ixT (j := 0) (ep_d (i := 1) rfl h2) ep_int rfl rfl
  refine sq_if mo_is moF (b := M.shutB i.1 i.2.1.1 i.2.2.1 i.2.2.2) ?_ (fun hb => st_ret ?_) fun hb => st_ret ?_
  · unfold M.shutB
    cases hk : i.2.1.1 with
    | none =>
      rw [hk] at hs
      exact et_and (b := false) (et_B' (ep_notN hs)) fun z => by cases z
    | some k =>
      rw [hk] at hs
      exact et_and (a := true) (et_B' (ep_notN hs)) fun z => et_test' (ep_ge hg hs)
  · unfold M.dd
    rw [hb]
    exact ep_bl
  · unfold M.dd
    rw [hb, Bool.false_or]
    have hcomp := ep_lc (σ := start ["_law_loans_so", "_law_far_so", "_law_i", "_law_j", "_law_own"] [vl, vf, vi, vj]) (B := B) (te := tVar 4) (vs := [4]) (g := gName 4) (wi := iTup K (tOp (rIxT K) (tVar 1) (tC (.int 1)))) (l := i.2.1.2) (ι := .int) (fun x => decide (M.bg i.1 i.2.2.1 < x) && decide (x ≤ M.bg i.1 i.2.2.2)) .int (wi_tup (ep_ixT (j := 1) (ep_d (i := 1) rfl h2) ep_int rfl rfl)) (by omega) fun x G hx e => tg_name fun y hy => ⟨rfl, et_test' (ep_LtLe (ep_lb (K := K) hi (ep_d (i := 0) rfl (h1.mono e)) (ep_d (i := 2) rfl (h3.mono e))) (ep_d (i := 4) rfl hy) (ep_lb (K := K) hj (ep_d (i := 0) rfl (h1.mono e)) (ep_d (i := 3) rfl (h4.mono e)))), fun _ => ep_d (i := 4) rfl hy⟩
    have e : (i.2.1.2.any fun x => decide (M.bg i.1 i.2.2.1 < x) && decide (x ≤ M.bg i.1 i.2.2.2)) = !PyData.eqv (.list ((i.2.1.2.filter fun x => decide (M.bg i.1 i.2.2.1 < x) && decide (x ≤ M.bg i.1 i.2.2.2)).map .int)) (.list []) := by
      rw [Bool.eq_iff_iff, List.any_eq_true]
      cases hq : i.2.1.2.filter fun x => decide (M.bg i.1 i.2.2.1 < x) && decide (x ≤ M.bg i.1 i.2.2.2) with
      | nil =>
        rw [List.filter_eq_nil_iff] at hq
        constructor
        · rintro ⟨x, hx, h⟩
          exact absurd h (hq x hx)
        · intro h
          cases h
      | cons y l =>
        have : y ∈ i.2.1.2.filter fun x => decide (M.bg i.1 i.2.2.1 < x) && decide (x ≤ M.bg i.1 i.2.2.2) := by rw [hq]; exact List.mem_cons_self
        rw [List.mem_filter] at this
        exact ⟨fun _ => rfl, fun _ => ⟨y, this.1, this.2⟩⟩
    rw [e]
    exact ep_neD hcomp (ep_lst da_nil (by show 0 ≤ 100000; decide)) (PySem.W.ke_shaped_ints _) rfl
def AWLiv (i : List Ln × Int × M.Fr × Nat) : PVs := fun B vs => ((i.2.2.2 < i.1.length ∧ i.1.length ≤ 1000) ∧ i.2.2.1.2.length ≤ 1000) ∧ DeA B vs [dl i.1, .int i.2.1, dfar i.2.2.1, nt i.2.2.2]
def spWLiv : Sp := spF AWLiv fun i => is (dN (M.living i.1 (some i.2.1) i.2.2.1 i.2.2.2))
abbrev dWLiv (a : Fg → Addr) : Df := ⟨a, "_law_living", "_law_living", sLiving, []⟩
theorem scWLiv : FnScope ["_law_loans_so", "_law_keep_so", "_law_far_so", "_law_j", "_law_i"] ["_law_loans_so", "_law_keep_so", "_law_far_so", "_law_j"] (defScope sLiving) := ⟨rfl, rfl, rfl, by decide +kernel, rfl, by decide +kernel, by decide +kernel⟩
theorem ok_WLiv {a : Fg → Addr} {f : Addr} {fd : FuncData} (F : At K (dWLiv a) f fd) (T : Bt mg) (G1 : C8.Cal P w K mg base 2 "_law_givers" spWGiv []) (G2 : C8.Cal P w K mg base 2 "_law_is_dead" spWDead []) : FnOk P w K mg base CX0 3 f fd ["_law_loans_so", "_law_keep_so", "_law_far_so", "_law_j"] spWLiv := by
  refine fok F scWLiv (fun i B vs h => h.2.len) fun cdv A' outer s H E hr => ?_
  refine ⟨_, (pss_one (ps_ret (pe_lc (own := [("_law_i", 4)]) (g := gName 4) rfl scWLiv.nd (pi_list (C8.pe_c G1 hr (Nat.le_refl _) (by rfl) (pa_cons ((pv 0)) (pa_cons ((pv 1)) (pa_cons ((pv 3)) pa_nil))))) (blkOk_by (N := ["_law_loans_so", "_law_keep_so", "_law_far_so", "_law_j", "_law_i"]) (sc := defScope sLiving) (by decide +kernel)) (fun _ _ _ _ _ => pg_name (i := 4) scWLiv.nd rfl (by first | exact Or.inl rfl | exact Or.inr rfl)) (fun _ _ _ _ _ => pts_one (pt_not (pt_val (C8.pe_c G2 hr (Nat.le_refl _) (by rfl) (pa_cons ((pv 0)) (pa_cons ((pv 2)) (pa_cons ((pv 4)) (pa_cons ((pv 3)) pa_nil)))))))) (fun _ _ _ _ _ => (pv 4))))), fun i B vs h => ?_⟩
  obtain ⟨⟨⟨hj, hz⟩, hf⟩, hd⟩ := h
  obtain ⟨vl, vk, vf, vj, rfl, h1, h2, h3, h4⟩ := hd.four
  have hl := givers_len (ls := i.1) (k := some i.2.1) (t := i.2.2.2)
  refine st_ret (ep_lc (l := M.givers i.1 (some i.2.1) i.2.2.2) (ι := nt) (fun g => !M.dd i.1 i.2.2.1 g i.2.2.2) nt (wi_list (ep_call (A := AWGiv) (R := fun i => is (dN (M.givers i.1 (some i.2.1) i.2.2))) (i.1, i.2.1, i.2.2.2) (da_cons (ep_d (i := 0) rfl h1) (da_cons (ep_d (i := 1) rfl h2) (da_cons (ep_d (i := 3) rfl h4) da_nil))) fun G vs e p => ⟨⟨hj, hz⟩, by rw [List.append_nil]; exact p⟩)) (by omega) fun g G hg e => tg_name fun y hy => ?_)
  rw [De.int' hy]
  exact ⟨rfl, et_not (et_B' (ep_call (A := AWDead) (R := fun i => is (.bool (M.dd i.1 i.2.1 i.2.2.1 i.2.2.2))) (i.1, i.2.2.1, g, i.2.2.2) (da_cons (ep_d (i := 0) rfl (h1.mono e)) (da_cons (ep_d (i := 2) rfl (h3.mono e)) (da_cons (ep_d (i := 4) rfl (.int _)) (da_cons (ep_d (i := 3) rfl (h4.mono e)) da_nil)))) fun G vs e p => ⟨⟨⟨(M.mem_givers.mp hg).1, hj⟩, hf⟩, by rw [List.append_nil]; exact p⟩)), fun _ => ep_d rfl (.int _)⟩
end
end Q
/-! K75W2 -/
set_option Elab.async false
set_option linter.all false
set_option maxRecDepth 100000
set_option maxHeartbeats 4000000
/-! How many there are in set(a list). -/
namespace Q
open PySem PySem.Spec PyProof.Rows L2 Evl SlX
theorem fm_nodup (val : Nat → Int) : ∀ i, (firstMet val i).Nodup
  | 0 => .nil
  | i + 1 => by
    rw [firstMet_succ]
    unfold step_dedup
    split
    · exact fm_nodup val i
    · rename_i h
      rw [List.nodup_append]
      refine ⟨fm_nodup val i, by simp, fun a ha b hb e => h ?_⟩
      rw [List.mem_singleton] at hb
      exact List.any_eq_true.mpr ⟨a, ha, by simp [e, hb]⟩
theorem fm_mem (ns : List Int) (k : Int) : k ∈ firstMet (fun i => ns.getD i 0) ns.length ↔ k ∈ ns := by
  have h := firstMet_any (fun i => ns.getD i 0) ns.length k
  have e : (List.range ns.length).map (fun i => ns.getD i 0) = ns := by
    apply List.ext_getElem
    · simp
    · intro i h1 h2
      simp [List.getD, h2]
  rw [e] at h
  constructor
  · intro q
    have h1 : (firstMet (fun i => ns.getD i 0) ns.length).any (· == k) = true := List.any_eq_true.mpr ⟨k, q, by simp⟩
    rw [h] at h1
    obtain ⟨x, hx, e⟩ := List.any_eq_true.mp h1
    rw [← beq_iff_eq.mp e]
    exact hx
  · intro q
    have h1 : ns.any (· == k) = true := List.any_eq_true.mpr ⟨k, q, by simp⟩
    rw [← h] at h1
    obtain ⟨x, hx, e⟩ := List.any_eq_true.mp h1
    rw [← beq_iff_eq.mp e]
    exact hx
section
variable {X : Cx}
def tLenSetD (K : PySem.W.Frag) (ta : TE) : TE := fun σ H Q => ta σ H fun x H1 => ∃ (l : Addr) (ns : List Int), x = .ref l ∧ SqL K H1 l (ns.map V.int) ∧ ns.length ≤ 4000 ∧ ∀ m : List Int, m.Nodup → (∀ k, k ∈ m ↔ k ∈ ns) → Q (.int (m.length : Nat)) H1
theorem pe_lenSetD {a : Expr} {ta : TE} {p p2 q pos : Pos} (hg : Gl X "len") (hm : X.mg "len" = none) (hg2 : Gl X "set") (hm2 : X.mg "set" = none) (ha : PE X a ta) (hc : X.calm = true := by rfl)
    (na : starEach [a] X.env = (false, eval a X.env) :: starEach [] X.env := by rfl) : PE X (.Call (.Name "len" p) [.Call (.Name "set" p2) [a] [] q] [] pos) (tLenSetD X.K ta) := by
  refine ⟨fun pins s σ H Q I h => ?_⟩
  refine Call_ (ld_blt I hg hm boot_len ?_)
  refine PyProof.Rows.callWith_builtin1 (PyProof.Rows.args_cons ?_ rfl) rfl rfl
  refine Call_ (ld_blt I hg2 hm2 boot_set ?_)
  refine PyProof.Rows.callWith_type1 (PyProof.Rows.args_cons (thn (ha.run pins s σ H _ I h) fun v s1 ⟨x, H1, I1, r1, q1⟩ => PyProof.Rows.args_nil ?_) na) na rfl
  obtain ⟨l, ns, rfl, hq, hl, q1⟩ := q1
  cases r1
  obtain ⟨its, r, pl, hz⟩ := I1.list hq
  have hlen : its.toArray.size = ns.length := by rw [List.size_toArray, ← r.length, List.length_map]
  refine call_set_list (I1.ok.hd hc) pl.isList (by simpa using RZ.intsAre_vals r) (by rw [hlen]; unfold scanBound; omega) fun h' tk hS hk => ?_
  refine PyProof.Rows.args_nil ?_
  rw [hlen] at hS
  have hle := firstMet_length_le (fun i => ns.getD i 0) ns.length
  obtain ⟨o, es, ep, t, ho, hex, hd, _, _, _, hf, hn⟩ := hS
  have I2 : Inv X pins σ H1 { s1 with heap := h', toks := tk } := I1.kept fun b o e => hk b o (Heap.lt_size e) e
  exact call_len_set ho hex hd hf (by rw [hn] <;> omega) ⟨.int (firstMet (fun i => ns.getD i 0) ns.length).length, H1, I2.tok _, ⟨_, by rw [hn]⟩, q1 _ (fm_nodup _ _) (fm_mem ns)⟩
end
theorem ep_lenSetD {σ : L2.St} {B : Hp} {ta : TE} {K : PySem.W.Frag} {ns : List Int} {k : Nat} (ha : EvP ta σ B (is (dI ns))) (hl : ns.length ≤ 4000) (hk : ∀ m : List Int, m.Nodup → (∀ k, k ∈ m ↔ k ∈ ns) → m.length = k) : EvP (tLenSetD K ta) σ B (is (nt k)) := fun H1 e Q q => ha H1 e _ fun v H2 e2 p => by
  obtain ⟨a, xs, rfl, h1, h2⟩ := De.lst' p
  have := h2.ints'
  subst this
  exact ⟨a, ns, rfl, sq_of (cut_le _ _ h1), hl, fun m h3 h4 => q _ H2 e2 (by rw [hk m h3 h4]; exact .int _)⟩
end Q
/-! K75W3 -/
set_option Elab.async false
set_option linter.all false
set_option maxRecDepth 100000
set_option maxHeartbeats 4000000
/-! The law's excess and pieces. -/
namespace Q
open PySem PySem.Spec PyProof.Rows L2 Evl SlX
open M (Ln)
section
variable {P : Program} {w : World} {K : PySem.W.Frag} {mg : Str → Option Value} {base : Heap}
abbrev EK := List Ln × Int × M.Fr × List Nat
def AWExc (i : EK) : PVs := fun B vs => (i.1.length ≤ 10 ∧ i.2.2.1.2.length ≤ 1000 ∧ M.Conv (M.living i.1 (some i.2.1) i.2.2.1) (M.ed i.1) i.1.length ∧ M.Crowd (M.living i.1 (some i.2.1) i.2.2.1) (M.ed i.1) i.1.length i.2.2.2) ∧ DeA B vs [dl i.1, .int i.2.1, dfar i.2.2.1, .tuple (i.2.2.2.map nt)]
def spWExc : Sp := spF AWExc fun i => is (.int (M.U i.1 (some i.2.1) i.2.2.1 : Nat))
abbrev dWExc (a : Fg → Addr) : Df := ⟨a, "_law_excess", "_law_excess", sExcess, []⟩
theorem scWExc : FnScope ["_law_loans_so", "_law_keep_so", "_law_far_so", "_law_some", "_law_heads", "_law_j"] ["_law_loans_so", "_law_keep_so", "_law_far_so", "_law_some"] (defScope sExcess) := ⟨rfl, rfl, rfl, by decide +kernel, rfl, by decide +kernel, by decide +kernel⟩
theorem ok_WExc {a : Fg → Addr} {f : Addr} {fd : FuncData} (F : At K (dWExc a) f fd) (T : Bt mg) (G1 : C8.Cal P w K mg base 3 "_law_living" spWLiv []) : FnOk P w K mg base CX0 4 f fd ["_law_loans_so", "_law_keep_so", "_law_far_so", "_law_some"] spWExc := by
  refine fok F scWExc (fun i B vs h => h.2.len) fun cdv A' outer s H E hr => ?_
  refine ⟨_, (pss_cons ((ps_asg (pe_lst pa_nil) (pg_name (i := 4) scWExc.nd rfl (by first | exact Or.inl rfl | exact Or.inr rfl)))) (pss_cons ((ps_for PassesOwn.never rfl (kTup K (pv 3)) (pg_name (i := 5) scWExc.nd rfl (by first | exact Or.inl rfl | exact Or.inr rfl)) ((pss_one ((ps_asg ((pe_op op_cat ((pv 4)) ((C8.pe_c G1 hr (Nat.le_refl _) (by rfl) (pa_cons ((pv 0)) (pa_cons ((pv 1)) (pa_cons ((pv 2)) (pa_cons ((pv 5)) pa_nil)))))))) (pg_name (i := 4) scWExc.nd rfl (by first | exact Or.inl rfl | exact Or.inr rfl)))))))) (pss_one (ps_ret (pe_op op_sub ((pe_callB call_len_seq (by rfl) T.len (by decide +kernel) (pa_cons ((pv 3)) pa_nil))) (pe_lenSetD (by rfl) T.len (by rfl) T.set (pv 4))))))), fun i B vs h => ?_⟩
  obtain ⟨⟨hn, hf, hC, hcr⟩, hd⟩ := h
  obtain ⟨vl, vk, vf, vs, rfl, h1, h2, h3, h4⟩ := hd.four
  have hSn : i.2.2.2.length ≤ i.1.length := by
    have := M.len_le (A := i.2.2.2) (B := List.range i.1.length) hcr.nd fun t ht => List.mem_range.mpr (hcr.lt t ht)
    rwa [List.length_range] at this
  have hlv : ∀ t, (M.living i.1 (some i.2.1) i.2.2.1 t).length ≤ 10 := fun t => by
    have h1 := givers_len (ls := i.1) (k := some i.2.1) (t := t)
    have h2 : (M.living i.1 (some i.2.1) i.2.2.1 t).length ≤ _ := List.length_filter_le _ _
    omega
  have hfl : ∀ l : List Nat, (l.flatMap (M.living i.1 (some i.2.1) i.2.2.1)).length ≤ 10 * l.length := fun l => by
    induction l with
    | nil => simp
    | cons t l ih =>
      rw [List.flatMap_cons, List.length_append, List.length_cons]
      have := hlv t
      omega
  refine ret_of fun H1 nx rt bk ct kn hret => ?_
  refine q_seq (q_asg kn (ep_lst da_nil (by show 0 ≤ 100000; decide)) fun v0 Ha Ga kna ea hv0 => ?_)
  refine q_seq (q_for (α := Nat) (l := i.2.2.2) (ι := nt) Ga kna (Ex.refl _) (wi_tup (ep_d (i := 3) rfl (h4.mono ea))) (fun j σ G => ∃ vh y, σ = [some vl, some vk, some vf, some vs, some vh, y] ∧ De G vh (dN ((i.2.2.2.take j).flatMap (M.living i.1 (some i.2.1) i.2.2.1)))) ⟨v0, _, rfl, hv0⟩ ?_ ?_ ?_)
  · rintro j σ G1 G2 ⟨vh, y, e, h⟩ e'
    exact ⟨vh, y, e, h.mono e'⟩
  · rintro j t Gw σ H' G' hj eGw frs eG kn' ⟨vh, y, rfl, hh⟩
    have ht : t ∈ i.2.2.2 := List.mem_of_getElem? hj
    have eB : Ex B G' := kn'.base
    refine ⟨fun σ2 => σ2 = [some vl, some vk, some vf, some vs, some vh, some (.int ((t : Nat) : Int))], tg_name fun y hy => by rw [De.int' hy]; rfl, ?_⟩
    rintro σ2 rfl
    have hlen := hfl (i.2.2.2.take j)
    have htk := List.length_take_le j i.2.2.2
    have hl2 := List.length_take_le' j i.2.2.2
    have hlt := hlv t
    refine q_asg kn' (ep_cat (ds := ((i.2.2.2.take j).flatMap (M.living i.1 (some i.2.1) i.2.2.1)).map nt) (es := (M.living i.1 (some i.2.1) i.2.2.1 t).map nt) (ep_d (i := 4) rfl hh) (ep_call (A := AWLiv) (R := fun i => is (dN (M.living i.1 (some i.2.1) i.2.2.1 i.2.2.2))) (i.1, i.2.1, i.2.2.1, t) (da_cons (ep_d (i := 0) rfl (h1.mono eB)) (da_cons (ep_d (i := 1) rfl (h2.mono eB)) (da_cons (ep_d (i := 2) rfl (h3.mono eB)) (da_cons (ep_d (i := 5) rfl (.int _)) da_nil)))) fun G vs e p => ⟨⟨⟨hcr.lt t ht, by show i.1.length ≤ 1000; omega⟩, hf⟩, by rw [List.append_nil]; exact p⟩) (by rw [List.length_map, List.length_map]; omega)) fun v H2 G2 k2 e2 hv => ⟨G2, k2, eG.trans e2, v, _, rfl, ?_⟩
    rw [List.take_succ, hj, List.flatMap_append]
    rw [← List.map_append] at hv
    simpa [dN] using hv
  · rintro σ Hz Gz Gw _ _ eG kz ⟨vh, y, rfl, hh⟩
    rw [List.take_length] at hh
    have hl := hfl i.2.2.2
    have hlenT := ep_lenT (K := K) (σ := [some vl, some vk, some vf, some vs, some vh, y]) (ep_d (i := 3) rfl (h4.mono kz.base))
    rw [List.length_map] at hlenT
    generalize hq : i.2.2.2.flatMap (M.living i.1 (some i.2.1) i.2.2.1) = hs at hh hl
    have htell : ∀ m : List Int, m.Nodup → (∀ k, k ∈ m ↔ k ∈ cI hs) → m.length = i.2.2.2.length - M.U i.1 (some i.2.1) i.2.2.1 ∧ M.U i.1 (some i.2.1) i.2.2.1 ≤ i.2.2.2.length := fun m hm hk => by
      obtain ⟨m', rfl⟩ := to_nats (ns := m) fun k hk' => by
        obtain ⟨u, hu, rfl⟩ := List.mem_map.mp ((hk k).mp hk')
        exact ⟨u, rfl⟩
      have := M.crowd_tells hC hcr (heads := m') (by
        unfold cI at hm
        exact (List.pairwise_map.mp hm).imp fun h e => h (by rw [e])) fun g => by
        rw [← mem_cI, hk, mem_cI, ← hq, List.mem_flatMap]
      rw [List.length_map]
      unfold M.U
      omega
    have hle : M.U i.1 (some i.2.1) i.2.2.1 ≤ i.2.2.2.length := (htell (firstMet (fun j => (cI hs).getD j 0) (cI hs).length) (fm_nodup _ _) (fm_mem _)).2
    refine q_ret kz (ep_sub hlenT (ep_lenSetD (ns := cI hs) (k := i.2.2.2.length - M.U i.1 (some i.2.1) i.2.2.1) (ep_d (i := 4) rfl (by rw [dI_cI]; exact hh)) (by rw [List.length_map]; omega) fun m hm hk => (htell m hm hk).1)) fun v H' G' k' e' hv => hret v H' G' k' ?_
    have e : ((i.2.2.2.length : Nat) : Int) - ((i.2.2.2.length - M.U i.1 (some i.2.1) i.2.2.1 : Nat) : Int) = (M.U i.1 (some i.2.1) i.2.2.1 : Nat) := by omega
    rw [e] at hv
    exact hv
theorem q_parR {B H1 H G : Hp} {σ : L2.St} {ta tb : TE} {P : PV} {nx : L2.St → Hp → Prop} {rt : VK} {bk ct : L2.St → Hp → Prop} {i j : Nat} {o : HO} (m : MkE tb o) (mo : Mo P) (kn : Kn B H1 H G) (h : EvP ta σ G P) (k : ∀ v D H' G', Kn B H1 H' G' → Ex G G' → P G' v → G' D = some o → B D = none → nx ((σ.set i (some v)).set j (some (.ref D))) H') : tAsg (tTup (tCons ta (tCons tb tNil))) (gTup K 2 (gCons (gName i) (gCons (gName j) gNil))) ⟨nx, rt, bk, ct⟩ σ H := h H kn.le _ fun v H2 e2 p => m σ H2 _ fun D hD => by
  obtain ⟨k2, e3⟩ := kn.pure e2
  have k1 := k2.new (o := o) hD
  have e1 : Ex (cut G H H2) (L2.upd (cut G H H2) D o) := fun b u q => by rw [upd_ne (ne_of_none q (k2.non hD))]; exact q
  refine ⟨by show 2 ≤ sizeLine; decide, fun pp hpp => ?_⟩
  have k3 := k1.new (o := .tup [v, .ref D]) hpp
  have e4 : Ex (L2.upd (cut G H H2) D o) (L2.upd (L2.upd (cut G H H2) D o) pp (.tup [v, .ref D])) := fun b u q => by rw [upd_ne (ne_of_none q (k1.non hpp))]; exact q
  exact ⟨pp, _, rfl, .of upd_same, rfl, _, _, rfl, _, _, rfl, rfl, k v D _ _ k3 (e3.trans (e1.trans e4)) (mo _ _ _ (e1.trans e4) p) (e4 _ _ upd_same) (k2.bnon hD)⟩
theorem dl_chg {G G' : Hp} (t : Tp G G') {v : V} {ls : List Ln} (h : De G v (dl ls)) : De G' v (dl ls) := by
  obtain ⟨b, xs, rfl, h1, h2⟩ := De.tup' h
  exact .tup (t _ _ h1) (prs_chg t h2)
theorem dls_chg {G G' : Hp} (t : Tp G G') : ∀ {vs : List V} {l : List (List Ln)}, DeA G vs (l.map dl) → DeA G' vs (l.map dl)
  | _, [], .nil => .nil
  | _, _ :: _, .cons a b => .cons (dl_chg t a) (dls_chg t b)
def edgesOf (bs : List Int) : List Int := 0 :: (bs ++ [1000])
def pcs (ls : List Ln) (bs : List Int) : List (List Ln) := (List.range (bs.length + 1)).map fun k => ls.filter fun l => decide ((edgesOf bs).getD k 0 ≤ l.1) && decide (l.1 < (edgesOf bs).getD (k + 1) 0)
def AWPcs (i : List Ln × List Int) : PVs := fun B vs => (i.1.length ≤ 10 ∧ i.2.length ≤ 100) ∧ DeA B vs [dl i.1, dI i.2]
def spWPcs : Sp := spF AWPcs fun i => is (.list ((pcs i.1 i.2).map dl))
abbrev dWPcs (a : Fg → Addr) : Df := ⟨a, "_law_pieces", "_law_pieces", sPieces, []⟩
theorem scWPcs : FnScope ["_law_line_here", "_law_beats", "_law_edges", "_law_found", "_law_k", "_law_own"] ["_law_line_here", "_law_beats"] (defScope sPieces) := ⟨rfl, rfl, rfl, by decide +kernel, rfl, by decide +kernel, by decide +kernel⟩
theorem ok_WPcs {a : Fg → Addr} {f : Addr} {fd : FuncData} (F : At K (dWPcs a) f fd) (T : Bt mg) : FnOk P w K mg base CX0 1 f fd ["_law_line_here", "_law_beats"] spWPcs := by
  refine fok F scWPcs (fun i B vs h => h.2.len) fun cdv A' outer s H E hr => ?_
  refine ⟨_, (pss_cons (ps_asg (pe_tup (pa_cons ((pe_op op_cat ((pe_op op_cat (pe_lst (pa_cons (pe_int) pa_nil)) ((pe_callTy call_list_of (by rfl) T.list (by decide +kernel) (pa_cons ((pv 1)) pa_nil))))) (pe_lst (pa_cons (pe_int) pa_nil)))) (pa_cons (pe_lst pa_nil) pa_nil))) ((pg_tup (n := 2) rfl (pgs_cons (pg_name (i := 2) scWPcs.nd rfl (by first | exact Or.inl rfl | exact Or.inr rfl)) (pgs_cons (pg_name (i := 3) scWPcs.nd rfl (by first | exact Or.inl rfl | exact Or.inr rfl)) pgs_nil))))) (pss_cons ((ps_for PassesOwn.never rfl (pi_range1 (by rfl) T.range (pa_cons ((pe_op op_sub ((pe_callB call_len_seq (by rfl) T.len (by decide +kernel) (pa_cons ((pv 2)) pa_nil))) (pe_int))) pa_nil)) (pg_name (i := 4) scWPcs.nd rfl (by first | exact Or.inl rfl | exact Or.inr rfl)) ((pss_one ((ps_expr (pe_bm PySem.F.plainAttrs_list PySem.F.slot_list_append PySem.F.type_list_append mt_append ((pv 3)) (pa_cons ((pe_callTy call_tuple_of (by rfl) T.tuple (by decide +kernel) (pa_cons ((pe_lc (own := [("_law_own", 5)]) (g := gName 5) rfl scWPcs.nd (kTup K (pv 0)) (blkOk_by (N := ["_law_line_here", "_law_beats", "_law_edges", "_law_found", "_law_k", "_law_own"]) (sc := defScope sPieces) (by decide +kernel)) (fun _ _ _ _ _ => pg_name (i := 5) scWPcs.nd rfl (by first | exact Or.inl rfl | exact Or.inr rfl)) (fun _ _ _ _ _ => pts_one (pt_chain op_le op_lt (kIxL K (pv 2) (pv 4)) (kIxT K (pv 5) pe_int) (kIxL K (pv 2) (pe_op op_add ((pv 4)) (pe_int))))) (fun _ _ _ _ _ => (pv 5)))) pa_nil))) pa_nil)))))))) (pss_one (ps_ret (pv 3))))), fun i B vs h => ?_⟩
  obtain ⟨⟨hn, hb⟩, hd⟩ := h
  obtain ⟨vl, vb, rfl, h1, h2⟩ := hd.two
  refine ret_of fun H1 nx rt bk ct kn hret => ?_
  refine q_seq (q_parR mk_lst mo_is kn (ep_cat (ds := PyData.int 0 :: i.2.map .int) (es := [.int 1000]) (ep_cat (ds := [.int 0]) (es := i.2.map .int) (ep_lst (da_cons ep_int da_nil) (by show 1 ≤ 100000; decide)) (ep_listOf ((ep_d (i := 1) rfl h2).imp fun _ _ _ h => .inl h)) (by simp; omega)) (ep_lst (da_cons ep_int da_nil) (by show 1 ≤ 100000; decide)) (by simp; omega)) fun ve D Ha Ga kna ea hve hDG hBD => ?_)
  have eE : (PyData.int 0 :: i.2.map .int) ++ [.int 1000] = (edgesOf i.2).map .int := by unfold edgesOf; simp
  rw [eE] at hve
  have hlE : (edgesOf i.2).length = i.2.length + 2 := by unfold edgesOf; simp
  have hvk : De (wo [D] Ga) ve (dI (edgesOf i.2)) := by
    obtain ⟨b, xs, rfl, hb1, hx⟩ := De.lst' hve
    have hxl := hx.len
    have n : b ∉ [D] := fun q => by
      rw [List.mem_singleton.mp q, hDG] at hb1
      cases hb1
      rw [List.length_map, hlE] at hxl
      simp at hxl
    have := hx.ints'
    subst this
    exact .lst (by rw [wo_out n]; exact hb1) (DeA.ints _)
  have hlen := ep_lenL (K := K) (σ := [some vl, some vb, some ve, some (.ref D), none, none]) (ep_d (i := 2) rfl hvk)
  rw [List.length_map, hlE] at hlen
  have hsub : EvP (tOp (rI0 fun i j => .int (i - j)) (tCB (fun xs H Q => ∃ p ys, xs = [.ref p] ∧ (SqL K H p ys ∨ SqT K H p ys) ∧ Q (.int ys.length) H) (tCons (tVar 2) tNil)) (tC (.int 1))) [some vl, some vb, some ve, some (.ref D), none, none] (wo [D] Ga) (is (.int ((i.2.length + 1 : Nat) : Int))) := by
    have := ep_sub hlen (ep_int (i := 1))
    rw [show ((i.2.length + 2 : Nat) : Int) - 1 = ((i.2.length + 1 : Nat) : Int) by omega] at this
    exact this
  refine q_seq (q_for (α := Nat) (l := List.range (i.2.length + 1)) (ι := nt) (wo [D] Ga) kna wo_le (wi_range (da_cons hsub da_nil) (by omega)) (fun j σ G => ∃ y z xs, σ = [some vl, some vb, some ve, some (.ref D), y, z] ∧ G D = some (.lst xs) ∧ DeA G xs (((pcs i.1 i.2).take j).map dl)) ⟨_, _, [], rfl, hDG, .nil⟩ ?_ ?_ ?_)
  · rintro j σ G1 G2 ⟨y, z, xs, e, h, h'⟩ e'
    exact ⟨y, z, xs, e, e' _ _ h, h'.mono e'⟩
  · rintro j t Gw σ H' G' hj eGw frs eG kn' ⟨y, z, xs, rfl, hG, hxs⟩
    obtain ⟨rfl, hjn⟩ := range_at hj
    have hDw : Gw D = none := frs D _ (kna.le _ _ hDG) (wo_in List.mem_cons_self)
    have hvg : De G' ve (dI (edgesOf i.2)) := (hvk.mono eGw).mono eG
    have hlg : De G' vl (dl i.1) := h1.mono kn'.base
    refine ⟨fun σ2 => σ2 = [some vl, some vb, some ve, some (.ref D), some (.int ((t : Nat) : Int)), z], tg_name fun y hy => by rw [De.int' hy]; rfl, ?_⟩
    rintro σ2 rfl
    have hxl := hxs.len
    rw [List.length_map] at hxl
    have htk := List.length_take_le t (pcs i.1 i.2)
    have hed : ∀ k, k < i.2.length + 2 → ((edgesOf i.2).map PyData.int)[k]? = some (.int ((edgesOf i.2).getD k 0)) := fun k hk => by
      rw [List.getElem?_map, List.getElem?_eq_getElem (by omega), List.getD_eq_getElem?_getD, List.getElem?_eq_getElem (by omega)]
      rfl
    refine q_append (P := is (dl (i.1.filter fun l => decide ((edgesOf i.2).getD t 0 ≤ l.1) && decide (l.1 < (edgesOf i.2).getD (t + 1) 0)))) (xs := xs) mo_is kn' hBD hG (by omega) (ev_var (i := 3) rfl) (ep_tupleOf (ep_lc (l := i.1) (ι := pr) (fun l => decide ((edgesOf i.2).getD t 0 ≤ l.1) && decide (l.1 < (edgesOf i.2).getD (t + 1) 0)) pr (wi_tup (ep_d (i := 0) rfl hlg)) (by omega) fun l G2 hl e2 => tg_name fun y hy => ⟨rfl, et_test' (ep_LeLt (ep_ixL (j := t) (ep_d (i := 2) rfl (hvg.mono e2)) (ep_d (i := 4) rfl (.int _)) rfl (hed t (by omega))) (ep_ixT (j := 0) (ep_d (i := 5) rfl hy) ep_int rfl rfl) (ep_ixL (j := t + 1) (ep_d (i := 2) rfl (hvg.mono e2)) (ep_add (ep_d (i := 4) rfl (.int (t : Nat))) ep_int) (by omega) (hed (t + 1) (by omega)))), fun _ => ep_d (i := 5) rfl hy⟩)) fun v H4 G4 kn4 e4 hv kn5 => ⟨_, kn5, fun b o q => ?_, _, _, xs ++ [v], rfl, upd_same, ?_⟩
    · rw [upd_ne (ne_of_none q hDw)]
      exact e4 _ _ (eG _ _ q)
    · have hD4 := e4 _ _ hG
      have tp : Tp G4 (L2.upd G4 D (.lst (xs ++ [v]))) := fun b ys q => by
        rw [upd_ne (fun z => by rw [z, hD4] at q; cases q)]
        exact q
      have hp : (pcs i.1 i.2)[t]? = some (i.1.filter fun l => decide ((edgesOf i.2).getD t 0 ≤ l.1) && decide (l.1 < (edgesOf i.2).getD (t + 1) 0)) := by
        unfold pcs
        rw [List.getElem?_map, List.getElem?_range (by omega)]
        rfl
      rw [List.take_succ, hp, Option.toList_some, List.map_append]
      exact (dls_chg tp (hxs.mono e4)).app (.cons (dl_chg tp hv) .nil)
  · rintro σ Hz Gz Gw _ _ eG kz ⟨y, z, xs, rfl, hG, hxs⟩
    have hlp : (pcs i.1 i.2).length = i.2.length + 1 := by unfold pcs; simp
    rw [List.length_range, List.take_of_length_le (by omega)] at hxs
    exact q_ret kz (Ev.lst (ev_var (i := 3) rfl) hG hxs) fun v H' G' k' e' hv => hret v H' G' k' hv
end
end Q
/-! K75W4 -/
set_option Elab.async false
set_option linter.all false
set_option maxRecDepth 100000
set_option maxHeartbeats 4000000
/-! The law's draws. -/
namespace Q
open PySem PySem.Spec PyProof.Rows L2 Evl SlX
open M (Ln)
section
variable {B H1 H G : Hp} {σ : L2.St} {te ta tb : TE} {P : PV} {nx : L2.St → Hp → Prop} {rt : VK} {bk ct : L2.St → Hp → Prop}
theorem ep_IC {C : Int → Int → Prop} {g : Int → Int → Int} {i j : Int} (ha : EvP ta σ G (is (.int i))) (hb : EvP tb σ G (is (.int j))) (hc : C i j) : EvP (tOp (rI C fun i j => .int (g i j)) ta tb) σ G (is (.int (g i j))) :=
  ep_op ha mo_is hb mo_is fun G x y e p1 p2 => fun H1 e1 Q q => ⟨i, j, De.int' p1, De.int' p2, hc, q _ H1 (Ex.refl _) (.int _)⟩
theorem ep_int1 {i : Int} (ha : EvP ta σ G (is (.int i))) : EvP (tCB (fun xs H Q => (∃ i, xs = [.int i] ∧ Q (.int i) H) ∨ ∃ k, xs = [.bl k] ∧ Q (.int (if k then 1 else 0)) H) (tCons ta tNil)) σ G (is (.int i)) :=
  ep_cb1 ha mo_is fun x G e p => fun H1 e1 Q q => .inl ⟨i, by rw [De.int' p], q _ H1 (Ex.refl _) (.int _)⟩
/-- b[j] = e -/
theorem q_setL {D : Addr} {xs : List V} {j : Int} {k : Nat} (mo : Mo P) (kn : Kn B H1 H G) (hB : B D = none) (hG : G D = some (.lst xs)) (h : EvP te σ G P) (ho : Ev ta σ G (.ref D)) (hj : ixN xs.length j = some k)
    (ck : ∀ v H' G', Kn B H1 H' G' → Ex G G' → P G' v → Kn B H1 (upd H' D (.lst (xs.set k v))) (upd G' D (.lst (xs.set k v))) → nx σ (upd H' D (.lst (xs.set k v)))) : tAsg te (gSub ta (tC (.int j)) rSetL) ⟨nx, rt, bk, ct⟩ σ H :=
  h H kn.le _ fun v H2 e2 p => ho H2 (kn.le.trans e2) _ fun H3 e3 => by
    have e := e2.trans e3
    obtain ⟨k2, e4⟩ := kn.pure e
    exact ⟨D, xs, j, k, rfl, rfl, e _ _ (kn.le _ _ hG), hj, ck v H3 _ k2 e4 (mo _ _ _ (cut_mono e3) p) (k2.upd hB (e4 _ _ hG))⟩
end
section
variable {P : Program} {w : World} {K : PySem.W.Frag} {mg : Str → Option Value} {base : Heap}
/-- a box at A, after at most c draws -/
def BoxAt (G : Hp) (A : Addr) (c : Int) : Prop := ∃ x y z : Int, G A = some (.lst [.int x, .int y, .int z]) ∧ 0 ≤ x ∧ (0 ≤ y ∧ y < 2 ^ 62) ∧ 0 ≤ z ∧ z ≤ c
structure TkI where
  A : Addr
  c : Int
  m : Int
def ATk (i : TkI) : Hp → Hp → List V → Prop := fun B G vs => vs = [.ref i.A, .int i.m] ∧ (0 < i.m ∧ i.m < 1000000) ∧ (0 ≤ i.c ∧ i.c ≤ 1000000) ∧ BoxAt G i.A i.c ∧ B i.A = none
def spTk : Sp := spR ATk fun i B G G' v => (∃ r : Int, v = .int r ∧ 0 ≤ r ∧ r < i.m) ∧ BoxAt G' i.A (i.c + 1) ∧ Fr [i.A] G G'
abbrev dTk (a : Fg → Addr) : Df := ⟨a, "_law_take", "_law_take", sTake, []⟩
theorem scTk : FnScope ["_law_box_here", "_law_below", "_law_drawn_here", "_law_once", "_law_odd", "_law_twice"] ["_law_box_here", "_law_below"] (defScope sTake) := ⟨rfl, rfl, rfl, by decide +kernel, rfl, by decide +kernel, by decide +kernel⟩
theorem ok_Tk {a : Fg → Addr} {f : Addr} {fd : FuncData} (F : At K (dTk a) f fd) (T : Bt mg) : FnOk P w K mg base CX0 1 f fd ["_law_box_here", "_law_below"] spTk := by
  refine fokR F scTk (fun i B G vs h => by rw [h.1]; rfl) fun cdv A' outer s H E hr => ?_
  refine ⟨_, (pss_cons (ps_if (pt_cmpR op_gt (kIxL K (pv 0) pe_int) pe_int rfl) (pss_cons ((ps_asg ((pe_op op_mod ((pe_callTy call_int1 (by rfl) T.int (by decide +kernel) (pa_cons (kIxL K (pv 0) pe_int) pa_nil))) ((pv 1)))) (pg_name (i := 2) scTk.nd rfl (by first | exact Or.inl rfl | exact Or.inr rfl)))) (pss_cons (ps_asg (pe_op op_fdiv (kIxL K (pv 0) pe_int) ((pv 1))) (pg_sub (pv 0) pe_int set_list)) (pss_one (ps_ret (pv 2))))) pss_nil) (pss_cons (ps_asg (pe_op op_add (kIxL K (pv 0) pe_int) (pe_int)) (pg_sub (pv 0) pe_int set_list)) (pss_cons ((ps_asg ((pe_op op_mod ((pe_callTy call_int1 (by rfl) T.int (by decide +kernel) (pa_cons ((pe_op op_mul ((pe_op op_add (kIxL K (pv 0) pe_int) ((pe_op op_mul (pe_int) (kIxL K (pv 0) pe_int))))) ((pe_op op_add (pe_int) (kIxL K (pv 0) pe_int))))) pa_nil))) (pe_int))) (pg_name (i := 3) scTk.nd rfl (by first | exact Or.inl rfl | exact Or.inr rfl)))) (pss_cons ((ps_asg ((pe_op op_add ((pe_op op_mod ((pe_callTy call_int1 (by rfl) T.int (by decide +kernel) (pa_cons ((pv 3)) pa_nil))) (pe_int))) (pe_int))) (pg_name (i := 4) scTk.nd rfl (by first | exact Or.inl rfl | exact Or.inr rfl)))) (pss_cons ((ps_asg ((pe_op op_mod ((pe_callTy call_int1 (by rfl) T.int (by decide +kernel) (pa_cons ((pe_op op_mul ((pe_op op_add ((pe_op op_add ((pv 3)) (kIxL K (pv 0) pe_int))) ((pe_op op_fdiv (kIxL K (pv 0) pe_int) (pe_int))))) ((pv 4)))) pa_nil))) (pe_int))) (pg_name (i := 5) scTk.nd rfl (by first | exact Or.inl rfl | exact Or.inr rfl)))) (pss_one (ps_ret (pe_op op_mod ((pe_callTy call_int1 (by rfl) T.int (by decide +kernel) (pa_cons ((pe_op op_fdiv ((pe_op op_mod ((pe_callTy call_int1 (by rfl) T.int (by decide +kernel) (pa_cons ((pe_op op_add ((pe_op op_mul ((pv 5)) (pe_int))) ((pv 3)))) pa_nil))) (pe_int))) (pe_int))) pa_nil))) ((pv 1)))))))))), fun i B H1 H G vs rt h kn hret => ?_⟩
  obtain ⟨rfl, hm, hc, ⟨x, y, z, hG, hx, hy, hz, hzc⟩, hB⟩ := h
  have bx : ∀ {σ' : L2.St} {G' : Hp} {x y z : Int}, σ'[0]? = some (some (V.ref i.A)) → G' i.A = some (.lst [.int x, .int y, .int z]) → EvP (tVar 0) σ' G' (is (.list [.int x, .int y, .int z])) := fun {σ'} {G'} {x} {y} {z} h1 h2 => Ev.lst (ev_var h1) h2 (DeA.ints [x, y, z])
  refine q_seq (q_if kn (b := decide (0 < x)) (et_test' (ep_gt (ep_ixL (j := 0) (bx rfl hG) ep_int rfl rfl) ep_int)) (fun hb H2 G2 k2 e2 => ?_) (fun hb H2 G2 k2 e2 => ?_))
  · refine q_seq (q_asg k2 (ep_IC (C := fun _ j => 0 < j) (g := fun i j => i % j) (ep_int1 (ep_ixL (j := 0) (bx rfl (e2 _ _ hG)) ep_int rfl rfl)) (ep_d (i := 1) rfl (.int _)) hm.1) fun v H3 G3 k3 e3 hv => ?_)
    have hG3 := e3 _ _ (e2 _ _ hG)
    refine q_seq (q_setL (j := 0) (k := 0) mo_is k3 hB hG3 (ep_IC (C := CDiv) (g := fun i j => i / j) (ep_ixL (j := 0) (bx rfl hG3) ep_int rfl rfl) (ep_d (i := 1) rfl (.int _)) ⟨hm.1, by omega⟩) (ev_var (i := 0) rfl) rfl fun v4 H4 G4 k4 e4 hv4 k5 => ?_)
    cases De.int' hv
    cases De.int' hv4
    refine q_ret k5 (ep_d (i := 2) rfl (.int _)) fun v5 H5 G5 k6 e5 hv5 => hret _ _ _ k6 ⟨⟨_, De.int' hv5, Int.emod_nonneg _ (by omega), Int.emod_lt_of_pos _ hm.1⟩, ⟨x / i.m, y, z, e5 _ _ upd_same, Int.ediv_nonneg hx (by omega), hy, hz, by omega⟩, fun b o n q => e5 _ _ ?_⟩
    rw [upd_ne (by simpa using n)]
    exact e4 _ _ (e3 _ _ (e2 _ _ q))
  · refine q_seq (q_setL (j := 2) (k := 2) mo_is k2 hB (e2 _ _ hG) (ep_add (ep_ixL (j := 2) (bx rfl (e2 _ _ hG)) ep_int rfl rfl) ep_int) (ev_var (i := 0) rfl) rfl fun v3 H3 G3 k3 e3 hv3 k4 => ?_)
    cases De.int' hv3
    have hG4 : (L2.upd G3 i.A (.lst ([V.int x, .int y, .int z].set 2 (.int (z + 1))))) i.A = some (.lst [.int x, .int y, .int (z + 1)]) := upd_same
    have fr : Fr [i.A] G (L2.upd G3 i.A (.lst ([V.int x, .int y, .int z].set 2 (.int (z + 1))))) := fun b o n q => by
      rw [upd_ne (by simpa using n)]
      exact e3 _ _ (e2 _ _ q)
    generalize L2.upd G3 i.A (.lst ([V.int x, .int y, .int z].set 2 (.int (z + 1)))) = G4 at k4 hG4 fr
    refine q_seq (q_asg k4 (ep_IC (C := fun _ j => 0 < j) (g := fun i j => i % j) (ep_int1 (ep_IC (C := CMul) (g := fun i j => i * j) (ep_add (ep_ixL (j := 1) (bx rfl hG4) ep_int rfl rfl) (ep_IC (C := CMul) (g := fun i j => i * j) ep_int (ep_ixL (j := 2) (bx rfl hG4) ep_int rfl rfl) (.inl (by omega)))) (ep_add ep_int (ep_ixL (j := 2) (bx rfl hG4) ep_int rfl rfl)) (.inr (by omega)))) ep_int (by decide)) fun v5 H5 G5 k5 e5 hv5 => ?_)
    have hG5 := e5 _ _ hG4
    cases De.int' hv5
    generalize ho : ((y + 48271 * (z + 1)) * (39373 + (z + 1))) % 2147483647 = once
    refine q_seq (q_asg k5 (ep_add (ep_IC (C := fun _ j => 0 < j) (g := fun i j => i % j) (ep_int1 (ep_d (i := 3) rfl (.int once))) ep_int (by decide)) ep_int) fun v6 H6 G6 k6 e6 hv6 => ?_)
    cases De.int' hv6
    have hG6 := e6 _ _ hG5
    have hodd : 0 ≤ once % 40009 + 7 ∧ once % 40009 + 7 < 50000 := by omega
    generalize once % 40009 + 7 = odd at hodd
    refine q_seq (q_asg k6 (ep_IC (C := fun _ j => 0 < j) (g := fun i j => i % j) (ep_int1 (ep_IC (C := CMul) (g := fun i j => i * j) (ep_add (ep_add (ep_d (i := 3) rfl (.int once)) (ep_ixL (j := 2) (bx rfl hG6) ep_int rfl rfl)) (ep_IC (C := CDiv) (g := fun i j => i / j) (ep_ixL (j := 1) (bx rfl hG6) ep_int rfl rfl) ep_int ⟨by decide, by decide⟩)) (ep_d (i := 4) rfl (.int odd)) (.inr (by omega)))) ep_int (by decide)) fun v7 H7 G7 k7 e7 hv7 => ?_)
    cases De.int' hv7
    generalize ((once + (z + 1) + y / 1000003) * odd) % 2147483629 = twice
    refine q_ret k7 (ep_IC (C := fun _ j => 0 < j) (g := fun i j => i % j) (ep_int1 (ep_IC (C := CDiv) (g := fun i j => i / j) (ep_IC (C := fun _ j => 0 < j) (g := fun i j => i % j) (ep_int1 (ep_add (ep_IC (C := CMul) (g := fun i j => i * j) (ep_d (i := 5) rfl (.int twice)) ep_int (.inr (by omega))) (ep_d (i := 3) rfl (.int once)))) ep_int (by decide)) ep_int ⟨by decide, by decide⟩)) (ep_d (i := 1) rfl (.int _)) hm.1) fun v8 H8 G8 k8 e8 hv8 => hret _ _ _ k8 ⟨⟨_, De.int' hv8, Int.emod_nonneg _ (by omega), Int.emod_lt_of_pos _ hm.1⟩, ⟨x, y, z + 1, e8 _ _ (e7 _ _ hG6), hx, hy, by omega, by omega⟩, fun b o n q => e8 _ _ (e7 _ _ (e6 _ _ (e5 _ _ (fr b o n q))))⟩
end
end Q
/-! K75W5 -/
set_option Elab.async false
set_option linter.all false
set_option maxRecDepth 100000
set_option maxHeartbeats 4000000
/-! The law's draws: one of some, the keeping. -/
namespace Q
open PySem PySem.Spec PyProof.Rows L2 Evl SlX
open M (Ln)
section
variable {P : Program} {w : World} {K : PySem.W.Frag} {mg : Str → Option Value} {base : Heap}
structure OfI where
  A : Addr
  c : Int
  v : V
  ds : List PyData
def AOf (i : OfI) : Hp → Hp → List V → Prop := fun B G vs => vs = [.ref i.A, i.v] ∧ (0 < i.ds.length ∧ i.ds.length < 100000) ∧ (0 ≤ i.c ∧ i.c ≤ 1000000) ∧ BoxAt G i.A i.c ∧ B i.A = none ∧ De (wo [i.A] G) i.v (.list i.ds)
def spOf : Sp := spR AOf fun i B G G' v => (∃ d ∈ i.ds, De (wo [i.A] G) v d) ∧ BoxAt G' i.A (i.c + 1) ∧ Fr [i.A] G G'
abbrev dOf (a : Fg → Addr) : Df := ⟨a, "_law_of", "_law_of", sOf, []⟩
theorem scOf : FnScope ["_law_box_here", "_law_some"] ["_law_box_here", "_law_some"] (defScope sOf) := ⟨rfl, rfl, rfl, by decide +kernel, rfl, by decide +kernel, by decide +kernel⟩
theorem ok_Of {a : Fg → Addr} {f : Addr} {fd : FuncData} (F : At K (dOf a) f fd) (T : Bt mg) (TK : C8.Cal P w K mg base 1 "_law_take" spTk []) : FnOk P w K mg base CX0 2 f fd ["_law_box_here", "_law_some"] spOf := by
  refine fokR F scOf (fun i B G vs h => by rw [h.1]; rfl) fun cdv A' outer s H E hr => ?_
  refine ⟨_, (pss_one (ps_ret (kIxL K (pv 1) (C8.pe_c TK hr (Nat.le_refl _) (by rfl) (pa_cons ((pv 0)) (pa_cons ((pe_callB call_len_seq (by rfl) T.len (by decide +kernel) (pa_cons ((pv 1)) pa_nil))) pa_nil)))))), fun i B H1 H G vs rt h kn hret => ?_⟩
  obtain ⟨rfl, hl, hc, hbox, hB, hv⟩ := h
  obtain ⟨b, xs, eb, hb, hx⟩ := De.lst' hv
  have n : b ∉ [i.A] := fun q => by rw [wo_in q] at hb; cases hb
  have hbG : G b = some (.lst xs) := wo_le _ _ hb
  have hxl := hx.len
  rw [eb]
  refine ⟨.ref b, rfl, .ref i.A, rfl, .ref b, rfl, b, xs, rfl, .inl (sq_of (kn.le _ _ hbG)), ⟨⟨i.A, i.c, (xs.length : Nat)⟩, B, H1, G, kn, ⟨rfl, ⟨by show (0 : Int) < (xs.length : Nat); omega, by show ((xs.length : Nat) : Int) < 1000000; omega⟩, hc, hbox, hB⟩, fun v H' G' kn' ⟨⟨r, er, h0, hlt⟩, bx, fr⟩ => ?_⟩⟩
  have hlt : r < ((xs.length : Nat) : Int) := hlt
  obtain ⟨m, rfl⟩ : ∃ m : Nat, r = (m : Int) := ⟨r.toNat, by omega⟩
  have hm : m < i.ds.length := by omega
  obtain ⟨y, hy, dy⟩ := hx.at (List.getElem?_eq_getElem hm)
  refine ⟨b, xs, m, y, rfl, er, sq_of (kn'.le _ _ (fr _ _ n hbG)), atI_nat hy, hret y H' G' kn' ⟨⟨_, List.getElem_mem hm, dy⟩, bx, fr⟩⟩
theorem cut_wo {A : Addr} {G H H2 : Hp} {o : HO} (hA : H A = some o) : Ex (cut (wo [A] G) H H2) (wo [A] (cut G H H2)) := fun b u hb => by
  by_cases q : b = A
  · subst q
    rw [cut_none hA (wo_in List.mem_cons_self)] at hb
    cases hb
  · have n : b ∉ [A] := by simpa using q
    rw [wo_out n]
    cases hG : G b with
    | some w =>
      rw [cut_old (show wo [A] G b = some w by rw [wo_out n]; exact hG)] at hb
      rw [cut_old hG]
      exact hb
    | none =>
      cases hH : H b with
      | some w =>
        rw [cut_none hH (show wo [A] G b = none by rw [wo_out n]; exact hG)] at hb
        cases hb
      | none =>
        rw [cut_new hH] at hb ⊢
        exact hb
theorem em_draw {σ : L2.St} {B G : Hp} {j : Nat} {A : Addr} {c : Int} {tl : TE} {ds : List PyData} {E : XK} (hs : σ[j]? = some (some (.ref A))) (hbox : BoxAt G A c) (hc : 0 ≤ c ∧ c ≤ 1000000) (hB : B A = none) (hl : 0 < ds.length ∧ ds.length < 100000) (h : EvP tl σ (wo [A] G) (is (.list ds))) :
    Em (tCall spOf [] E (tCons (tVar j) (tCons tl tNil))) σ B G (fun G' v => (∃ d ∈ ds, De G' v d) ∧ BoxAt G' A (c + 1) ∧ Fr [A] G G') := fun H1 H kn Q q =>
  ⟨.ref A, hs, h H (wo_le.trans kn.le) _ fun v H2 e2 p => by
    obtain ⟨x, y, z, hG, r⟩ := id hbox
    obtain ⟨k2, e3⟩ := kn.pure e2
    refine ⟨⟨A, c, v, ds⟩, B, H1, _, k2, ⟨rfl, hl, hc, ⟨x, y, z, e3 _ _ hG, r⟩, hB, De.mono (cut_wo (kn.le _ _ hG)) p⟩, fun w H' G' k' ⟨⟨d, hd, hw⟩, bx, fr⟩ => q w H' G' k' ⟨⟨d, hd, hw.mono fun b o hb => ?_⟩, bx, fun b o n hb => fr b o n (e3 _ _ hb)⟩⟩
    have n : b ∉ [A] := fun z => by rw [wo_in z] at hb; cases hb
    exact fr b o n (wo_le _ _ hb)⟩
structure KpI where
  A : Addr
  c : Int
def AKp (i : KpI) : Hp → Hp → List V → Prop := fun B G vs => vs = [.ref i.A] ∧ (0 ≤ i.c ∧ i.c ≤ 1000000) ∧ BoxAt G i.A i.c ∧ B i.A = none
def spKp : Sp := spR AKp fun i B G G' v => (∃ k : Int, v = .int k ∧ k ∈ ([0, 0, 1, 1, 2, 3, 4, 6, 9, 40] : List Int)) ∧ BoxAt G' i.A (i.c + 1) ∧ Fr [i.A] G G'
abbrev dKp (a : Fg → Addr) : Df := ⟨a, "_law_keep", "_law_keep", sKeep, []⟩
theorem scKp : FnScope ["_law_box_here"] ["_law_box_here"] (defScope sKeep) := ⟨rfl, rfl, rfl, by decide +kernel, rfl, by decide +kernel, by decide +kernel⟩
theorem ok_Kp {a : Fg → Addr} {f : Addr} {fd : FuncData} (F : At K (dKp a) f fd) (OF : C8.Cal P w K mg base 2 "_law_of" spOf []) : FnOk P w K mg base CX0 3 f fd ["_law_box_here"] spKp := by
  refine fokR F scKp (fun i B G vs h => by rw [h.1]; rfl) fun cdv A' outer s H E hr => ?_
  refine ⟨_, (pss_one (ps_ret (C8.pe_c OF hr (Nat.le_refl _) (by rfl) (pa_cons ((pv 0)) (pa_cons (pe_lst (pa_cons (pe_int) (pa_cons (pe_int) (pa_cons (pe_int) (pa_cons (pe_int) (pa_cons (pe_int) (pa_cons (pe_int) (pa_cons (pe_int) (pa_cons (pe_int) (pa_cons (pe_int) (pa_cons (pe_int) pa_nil))))))))))) pa_nil))))), fun i B H1 H G vs rt h kn hret => ?_⟩
  obtain ⟨rfl, hc, hbox, hB⟩ := h
  refine q_retM kn (em_draw (ds := ([0, 0, 1, 1, 2, 3, 4, 6, 9, 40] : List Int).map .int) rfl hbox hc hB ⟨by decide, by decide⟩ (ep_lst (da_cons ep_int (da_cons ep_int (da_cons ep_int (da_cons ep_int (da_cons ep_int (da_cons ep_int (da_cons ep_int (da_cons ep_int (da_cons ep_int (da_cons ep_int da_nil)))))))))) (by decide))) fun v H' G' k' ⟨⟨d, hd, hv⟩, bx, fr⟩ => hret v H' G' k' ⟨?_, bx, fr⟩
  obtain ⟨k, hk, rfl⟩ := List.mem_map.mp hd
  exact ⟨k, De.int' hv, hk⟩
end
end Q
/-! K75W6 -/
set_option Elab.async false
set_option linter.all false
set_option maxRecDepth 100000
set_option maxHeartbeats 4000000
/-! A comprehension whose element changes what is new. -/
namespace Q
open PySem PySem.Spec PyProof.Rows L2 Evl SlX
open M (Ln)
section
variable {σ : L2.St} {B Gk G : Hp}
/-- [e for .. in ..], e changing what is new, from where the iterator stands; Iv keeps under what is made and under changes at a list that was not there -/
theorem em_lcW {α : Type} {J : It} {g : TG} {te : TE} {vs : List Nat} {l : List α} {ι : α → PyData} {H1 H : Hp} {Q : VK} (kn : Kn B H1 H G) (ek : Ex Gk G) (wl : Wl J Gk (l.map ι)) (hl : l.length ≤ 40000)
    (Iv : Nat → Hp → List V → Prop) (h0 : Iv 0 G []) (hm : ∀ i G1 G2 xs D, G D = none → (G1 D = none ∨ ∃ ys, G1 D = some (.lst ys)) → (∀ b o, b ≠ D → G1 b = some o → G2 b = some o) → Iv i G1 xs → Iv i G2 xs) (hlen : ∀ i G xs, Iv i G xs → xs.length = i)
    (hs : ∀ (i : Nat) (a : α) (D : Addr) (G1 : Hp) (xs : List V), l[i]? = some a → G D = none → Ex Gk G1 → Gk D = none → G1 D = some (.lst xs) → Iv i G1 xs →
      TgP g (ι a) (wipe σ vs) G1 fun σ2 => wipe σ2 vs = wipe σ vs ∧ Em te σ2 B G1 (fun G2 v => Ex Gk G2 ∧ G2 D = some (.lst xs) ∧ Iv (i + 1) G2 (xs ++ [v])))
    (q : ∀ D xs H' G', Kn B H1 H' G' → G D = none → Ex Gk G' → G' D = some (.lst xs) → Iv l.length G' xs → Q (.ref D) H') :
    ∀ D, H D = none → ∃ W : Nat → Nat → Hp → Prop, (∃ m, W 0 m (upd H D (.lst []))) ∧ ∀ i m H, W i m H →
      (J.stop i H ∧ Q (.ref D) H) ∨ (J.go i H ∧ ∃ Nx : Hp → Prop, (∀ H', Nx H' → ∃ m', m' < m ∧ W (i + 1) m' H') ∧ ∀ x H', J.yld i H x H' → g x (wipe σ vs) H' fun σ2 H2 => wipe σ2 vs = wipe σ vs ∧ tYes σ2 H2 fun b H3 =>
        if b = true then te σ2 H3 fun y H4 => ∃ acc, H4 D = some (.lst acc) ∧ acc.length < sizeLine ∧ Nx (upd H4 D (.lst (acc ++ [y]))) else Nx H3) := fun D hD => by
  have gD : G D = none := kn.non hD
  have bD : B D = none := kn.bnon hD
  have kD : Gk D = none := fresh_back ek gD
  refine lc_it wl (fun i H => ∃ G1 xs, Kn B H1 H G1 ∧ Ex Gk G1 ∧ G1 D = some (.lst xs) ∧ Iv i G1 xs) ?_ ?_ ?_ ?_
  · refine ⟨_, [], kn.new hD, fun b o h => ?_, upd_same, hm 0 G _ [] D gD (.inl gD) (fun b o n h => by rw [upd_ne n]; exact h) h0⟩
    rw [upd_ne (ne_of_none h kD)]
    exact ek _ _ h
  · rintro i H hi ⟨G1, xs, k1, ex, _⟩
    exact ex.trans k1.le
  · rintro i x H H' hi ⟨G1, xs, k1, ex, hD1, iv⟩ ⟨y1, d, y2, y3⟩
    obtain ⟨a, ha, rfl⟩ : ∃ a, l[i]? = some a ∧ ι a = d := by
      rw [List.getElem?_map] at y2
      exact Option.map_eq_some_iff.mp y2
    obtain ⟨k4, e6⟩ := k1.pure y1
    refine hs i a D _ xs ha gD (ex.trans e6) kD (e6 _ _ hD1) (hm i _ _ xs D gD (.inr ⟨_, hD1⟩) (fun b o _ h => e6 _ _ h) iv) x (y3.mono (cut_grow ex)) H' k4.le _ fun σ2 ⟨m1, m2⟩ => ⟨m1, ?_⟩
    refine m2 H1 H' k4 _ fun v H4 G4 k5 ⟨ex4, hD4, iv4⟩ => ⟨xs, k5.le _ _ hD4, sz_lt (by rw [hlen _ _ _ iv]; rw [List.length_map] at hi; omega), _, xs ++ [v], k5.upd bD hD4, fun b o h => ?_, upd_same, hm (i + 1) G4 _ _ D gD (.inr ⟨_, hD4⟩) (fun b o n h => by rw [upd_ne n]; exact h) iv4⟩
    rw [upd_ne (ne_of_none h kD)]
    exact ex4 _ _ h
  · rintro H ⟨G1, xs, k1, ex, hD1, iv⟩
    rw [List.length_map] at iv
    exact q D xs H G1 k1 gD ex hD1 iv
end
end Q
/-! K75W7 -/
set_option Elab.async false
set_option linter.all false
set_option maxRecDepth 100000
set_option maxHeartbeats 4000000
/-! set(a list of ints), sorted. -/
namespace Q
open PySem PySem.Spec PyProof.Rows L2 Evl SlX
open M (Ln)
section
variable {P : Program} {w : World} {A : Around} {E : Value → Shared → Prop} {s : Shared}
/-- an object of set() -/
abbrev oS (w : World) : Obj := { cls := .type "set", dict := none, data := .set #[] 0 (.fresh 0 0 (!w.params.followText "set-order")) }
abbrev hpS (w : World) (h : Heap) : Heap := h.push (oS w)
set_option maxHeartbeats 3200000 in
theorem call_setOfL {l : Addr} {zs : Array Value} (ns : List Int) {Q : Value → Shared → Prop} (hh : A.handled = none) (hl : s.heap.IsList l zs) (hi : IntsAre zs.toList ns) (hb : ns.length + 1 < scanBound)
    (k : ∀ (h2 : Heap) (tk c : Nat), SetR w h2 s.heap.objs.size (fun j => decide (j ∈ ns)) c → c ≤ ns.length → (∀ b o, s.heap.get? b = some o → h2.get? b = some o) → Q (.ref s.heap.objs.size) { s with heap := h2, toks := tk }) :
    wpAny (model P w) A (call (.type "set") [.ref l]) Q E s := by
  have hz : zs.size = ns.length := by
    have q := IntsAre.length hi
    rwa [Array.length_toList] at q
  obtain ⟨cc, tl, hmro⟩ := F.called_set.mro
  have m1 := F.called_set.made
  have m2 := F.called_set.sub
  refine wpAny_call (codeAny_of_tree ?_)
  show wpAny _ _ (callAny (.type "set") _) _ _ _
  refine wpAny_pure ⟨Code.quiet_builtin _ (by decide +kernel), codeAny_builtin F.entry_type_call ?_⟩
  rw [Around.under_plain (weight_type_call_type "set" [.ref l] []) rfl]
  have m3 := F.called_set.notType
  have m4 := F.called_set.canCreate
  have m5 := F.typeCall_set_1 (.ref l)
  repeat (any_goals (first | assumption | wp_step))
  refine codeAny_mono (code_set_led1 (.ref l) (E := E) (Q₁ := fun ob s1 => ob = .ref s.heap.objs.size ∧ s1 = { s with heap := hpS w s.heap }) ⟨rfl, rfl⟩) fun r s1 hr => ?_
  match r, hr with
  | .error e, hr => exact hr
  | .ok .next, hr => exact hr.elim
  | .ok .brk, hr => exact hr.elim
  | .ok .cont, hr => exact hr.elim
  | .ok (.ret ob), hr =>
    obtain ⟨rfl, rfl⟩ := hr
    have hS : (hpS w s.heap).get? s.heap.objs.size = some (oS w) := Heap.get?_push_size _ rfl
    have hT : Shared.TypeIs { s with heap := hpS w s.heap } (.ref s.heap.objs.size) "set" := ⟨_, hS, rfl⟩
    have m6 := F.called_set.init.lookup
    have m7 := F.called_set.init.bind (.ref s.heap.objs.size)
    repeat (any_goals (first | assumption | wp_step))
    refine codeAny_mono (codeAny_call_builtin (R := wants (fun r s2 => r = .none ∧ ∃ h2 tk c, s2 = { s with heap := h2, toks := tk } ∧ SetR w h2 s.heap.objs.size (fun j => decide (j ∈ ns)) c ∧ c ≤ ns.length ∧
        (∀ b o, s.heap.get? b = some o → h2.get? b = some o)) E) F.called_set.init.plain F.entry_set_init (check_set_init_1 hT ?_)) fun r2 s2 hr2 => ?_
    · obtain ⟨⟨oc, od, odt, osl⟩, hol, hcl, nl, hdl⟩ := hl
      simp only at hcl hdl
      subst hcl hdl
      have hol2 : (hpS w s.heap).get? l = some { cls := .type "list", dict := od, data := .seq zs nl, slots := osl } := Heap.get?_push_of_some _ hol
      have b1 := F.sub_list_set
      have b2 := F.sub_list_frozenset
      have b3 : (Value.type "list" == Value.type "dict") = false := by decide
      have hl2 : (hpS w s.heap).IsList l zs := ⟨_, hol2, rfl, nl, rfl⟩
      unfold Builtin.«set.__init__» noKeywords Builtin.Frozenset.updateFrom
      generalize hPI : pyIter = PI
      wp_walk
      subst hPI
      refine wpAny_pyIter_list hl2 (wpAny_bind (wpAny_runValue ?_))
      have hlS : l < s.heap.objs.size := Heap.lt_size hol
      have h3 : A.in1.in1.in1.handled = none := by simp [hh]
      have hsz : (hpS w s.heap).objs.size = s.heap.objs.size + 1 := Heap.size_push ..
      have n1 : l ≠ (hpS w s.heap).objs.size := by rw [hsz]; exact Nat.ne_of_lt (Nat.lt_succ_of_lt hlS)
      have n2 : s.heap.objs.size ∉ [(hpS w s.heap).objs.size, l] := by
        rw [hsz]
        simp only [List.mem_cons, List.not_mem_nil, or_false, not_or]
        exact ⟨Nat.ne_of_lt (Nat.lt_succ_self _), Nat.ne_of_gt hlS⟩
      have hv : ∀ (i : Nat) (v : Value), zs[i]? = some v → ∃ k t, ns[i]? = some k ∧ v = .int k t := fun i v q => by
        have hlt : i < ns.length := by rw [← hz]; exact (Array.getElem?_eq_some_iff.mp q).1
        obtain ⟨t, e⟩ := IntsAre.int_at hi i v (by rw [Array.getElem?_toList]; exact q)
        refine ⟨ns[i], t, List.getElem?_eq_getElem hlt, ?_⟩
        rw [e, List.getD_eq_getElem?_getD, List.getElem?_eq_getElem hlt] <;> rfl
      refine set_update_ints ((Walks.list h3 _ l n1 zs).toS) s.heap.objs.size n2 ns hz hb hv (zs.size - 0) 0 _ (by omega) (Nat.zero_le _)
        ⟨⟨_, Heap.get?_push_size _ rfl, rfl, rfl⟩, (hl2.push _)⟩ ?_ ?_
      · exact ⟨0, Nat.le_refl 0, setR_new_at (Heap.get?_push_of_some _ hS)⟩
      · intro s3 c3 hm hc3 hS3
        obtain ⟨h3', g3, d3, t3, o3⟩ := s3
        have e1 : g3 = s.gens := hm.gens
        have e2 : d3 = s.drawn := hm.drawn
        have e3 : o3 = s.os := hm.os
        subst e1 e2 e3
        show wpAny _ _ _ _ _ _
        refine wpAny_pure ?_
        show wpAny _ _ (ret Value.none) _ _ _
        rw [hz] at hc3
        refine wpAny_pure ⟨rfl, h3', t3, c3, rfl, hS3, hc3, fun b o e => ?_⟩
        have hb0 : b < s.heap.objs.size := Heap.lt_size e
        refine hm.heap b o ?_ (Heap.get?_push_of_some _ (Heap.get?_push_of_some _ e))
        rw [hsz]
        simp only [List.mem_cons, List.not_mem_nil, or_false, not_or]
        exact ⟨Nat.ne_of_lt hb0, Nat.ne_of_lt (Nat.lt_succ_of_lt hb0)⟩
    · match r2, hr2 with
      | .error e, hr2 => exact hr2
      | .ok .next, hr2 => exact hr2.elim
      | .ok .brk, hr2 => exact hr2.elim
      | .ok .cont, hr2 => exact hr2.elim
      | .ok (.ret r), hr2 =>
        obtain ⟨rfl, h2, tk, c, rfl, a1, a2, a3⟩ := hr2
        repeat (any_goals (first | assumption | wp_step))
        exact k _ _ _ a1 a2 a3
end
/-- set(a list of ints) -/
def rSetOfL (K : PySem.W.Frag) (w : World) : List V → Hp → VK → Prop := fun vs H Q => ∃ (a : Addr) (ns : List Int), vs = [.ref a] ∧ SqL K H a (ns.map V.int) ∧ ns.length ≤ 1000 ∧ ∀ (p : Addr) (c : Nat), H p = none → c ≤ ns.length → Q (.ref p) (upd H p (SetO w p (fun j => decide (j ∈ ns)) c))
theorem call_setL {X : Cx} (hc : X.calm = true) : CallR X (.type "set") (rSetOfL X.K X.w) := by
  intro pins s σ H xs us Q I r h
  obtain ⟨a, ns, rfl, hq, hn, q⟩ := h
  obtain ⟨u, rfl, ru⟩ := vals1 r
  cases (show u = Value.ref a from ru)
  obtain ⟨its, rv, pl, hz⟩ := I.list hq
  refine call_setOfL (s := s) ns (I.ok.hd hc) pl.isList (by simpa using ints_of_vals rv) (by unfold scanBound; omega) fun h2 tk c R hcn kp => ?_
  exact ⟨.ref _, upd H s.heap.objs.size (SetO X.w s.heap.objs.size (fun j => decide (j ∈ ns)) c), I.laid (t' := tk) kp (Nat.le_refl _) (setO_new R), rfl, q _ c (I.hok.fresh (Nat.le_refl _)) hcn⟩
/-- sorted(set(a list of ints)) -/
theorem ep_sortedSetL {σ : L2.St} {B : Hp} {K : PySem.W.Frag} {w0 : World} {ta : TE} {ns : List Int} (hn : ns.length < 64) (ha : EvP ta σ B (is (dI ns))) :
    EvP (tCB (rSortedSet w0) (tCons (tCB (rSetOfL K w0) (tCons ta tNil)) tNil)) σ B (fun G v => ∃ ms : List Int, De G v (dI ms) ∧ ms.Pairwise (· < ·) ∧ ms.length ≤ ns.length ∧ ∀ k, k ∈ ms ↔ k ∈ ns) :=
  ep_cb1 (P := fun G u => ∃ D c, u = .ref D ∧ G D = some (SetO w0 D (fun j => decide (j ∈ ns)) c) ∧ c ≤ ns.length) (ep_cb1 ha mo_is fun x G e p => fun H1 e1 Q q => by
    obtain ⟨a, xs, rfl, h1, h2⟩ := De.lst' p
    rw [h2.ints'] at h1
    exact ⟨a, ns, rfl, sq_of (e1 _ _ h1), by omega, fun p c hp hc => q _ _ (Ex.new hp) ⟨p, c, rfl, by rw [cut_new hp, upd_same], hc⟩⟩) (fun _ _ _ e ⟨D, c, h1, h2, h3⟩ => ⟨D, c, h1, e _ _ h2, h3⟩) fun x G e ⟨D, c, h1, h2, h3⟩ => fun H1 e1 Q q =>
      ⟨D, _, c, by rw [h1], e1 _ _ h2, by omega, fun ms p p1 p2 p3 hp => q _ _ (Ex.new hp) ⟨ms, .lst (by rw [cut_new hp, upd_same]) (DeA.ints ms), p1, by omega, fun k => (p2 k).trans (by simp)⟩⟩
end Q
/-! K75W8 -/
set_option Elab.async false
set_option linter.all false
set_option maxRecDepth 100000
set_option maxHeartbeats 4000000
/-! The law's far end; tuples stay; calls and comprehensions that draw. -/
namespace Q
open PySem PySem.Spec PyProof.Rows L2 Evl SlX
open M (Ln)
/-! ### data without lists -/
mutual
def tO : PyData → Bool
  | .none => true
  | .bool _ => true
  | .int _ => true
  | .tuple ds => tOs ds
  | _ => false
def tOs : List PyData → Bool
  | [] => true
  | d :: ds => tO d && tOs ds
end
mutual
theorem De.tp {G G' : Hp} (t : Tp G G') : ∀ {v : V} {d : PyData}, De G v d → tO d = true → De G' v d
  | _, _, .non, _ => .non
  | _, _, .bl b, _ => .bl b
  | _, _, .int i, _ => .int i
  | _, _, .lst h a, q => by simp [tO] at q
  | _, _, .tup h a, q => .tup (t _ _ h) (DeA.tp t a (by simpa [tO] using q))
theorem DeA.tp {G G' : Hp} (t : Tp G G') : ∀ {vs : List V} {ds : List PyData}, DeA G vs ds → tOs ds = true → DeA G' vs ds
  | _, _, .nil, _ => .nil
  | _, d :: ds, .cons a b, q => by
    have q' : tO d = true ∧ tOs ds = true := by simpa [tOs] using q
    exact .cons (De.tp t a q'.1) (DeA.tp t b q'.2)
end
theorem tO_ints (ns : List Int) : tOs (ns.map .int) = true := by
  induction ns with
  | nil => rfl
  | cons n ns ih => simp [tOs, tO, ih]
theorem tO_prs (ls : List Ln) : tOs (ls.map pr) = true := by
  induction ls with
  | nil => rfl
  | cons n ns ih => simp [tOs, tO, pr, ih]
theorem tO_dl (ls : List Ln) : tO (dl ls) = true := by
  show tO (.tuple (ls.map pr)) = true
  rw [tO]
  exact tO_prs ls
theorem tO_dns (hd : List (Option Nat)) : tOs (hd.map dn) = true := by
  induction hd with
  | nil => rfl
  | cons n ns ih =>
    cases n <;> simp [tOs, tO, dn, ih]
theorem tO_dh (hd : List (Option Nat)) : tO (dh hd) = true := by
  show tO (.tuple (hd.map dn)) = true
  rw [tO]
  exact tO_dns hd
theorem tO_dk (k : Option Int) : tO (dk k) = true := by cases k <;> rfl
theorem tO_dfar (f : M.Fr) : tO (dfar f) = true := by
  show tO (.tuple [dk f.1, .tuple (f.2.map .int)]) = true
  simp [tO, tOs, tO_dk, tO_ints]
section
variable {G G' G2 : Hp} {A : Addr} {c : Int}
theorem BoxAt.le {c' : Int} (h : BoxAt G A c) (q : c ≤ c') : BoxAt G A c' := by
  obtain ⟨x, y, z, hG, h1, h2, h3, h4⟩ := h
  exact ⟨x, y, z, hG, h1, h2, h3, by omega⟩
theorem BoxAt.no_tup (h : BoxAt G A c) (xs : List V) : G A ≠ some (.tup xs) := by
  obtain ⟨x, y, z, hG, _⟩ := h
  rw [hG]
  intro q
  cases q
theorem BoxAt.mono (h : BoxAt G A c) (e : ∀ o, G A = some o → G' A = some o) : BoxAt G' A c := by
  obtain ⟨x, y, z, hG, r⟩ := h
  exact ⟨x, y, z, e _ hG, r⟩
theorem BoxAt.tp (h : BoxAt G A c) (f : Fr [A] G G') : Tp G G' := fun b xs q => f b _ (fun z => by
  rw [List.mem_singleton.mp z] at q
  exact h.no_tup xs q) q
theorem BoxAt.tpw (h : BoxAt G A c) : Tp G (wo [A] G) := fun b xs q => by
  rw [wo_out]
  · exact q
  · intro z
    rw [List.mem_singleton.mp z] at q
    exact h.no_tup xs q
theorem BoxAt.dm (h : BoxAt G A c) : ∃ o, G A = some o := by
  obtain ⟨x, y, z, hG, _⟩ := h
  exact ⟨_, hG⟩
theorem frA_trans (h : Fr [A] G G') (h2 : Fr [A] G' G2) : Fr [A] G G2 := fun b o n q => h2 b o n (h b o n q)
theorem frA_wo (h : Fr [A] G G') : Ex (wo [A] G) G' := fun b o q => by
  have n : b ∉ [A] := fun z => by rw [wo_in z] at q; cases q
  exact h b o n (wo_le _ _ q)
theorem frA_of (h : Ex (wo [A] G) G') : Fr [A] G G' := fun b o n q => h b o (by rw [wo_out n]; exact q)
end
section
variable {σ : L2.St} {B G : Hp} {E : XK}
theorem em_callR {ι : Type} {Aι : ι → Hp → Hp → List V → Prop} {R : ι → Hp → Hp → Hp → V → Prop} {dvs : List V} {tr : TA} {Ps : PVs} (i : ι) (h : EvA' tr σ G Ps) (hA : ∀ G' vs, Ex G G' → Ps G' vs → Aι i B G' (vs ++ dvs)) :
    Em (tCall (spR Aι R) dvs E tr) σ B G (fun G' v => ∃ G1, Ex G G1 ∧ R i B G1 G' v) := fun H1 H kn Q q => h H kn.le _ fun vs H2 e2 p => by
  obtain ⟨k2, e3⟩ := kn.pure e2
  exact ⟨i, B, H1, _, k2, hA _ vs e3 p, fun v H' G' k' r => q v H' G' k' ⟨_, e3, r⟩⟩
theorem em_take {A : Addr} {c m : Int} {j : Nat} {tm : TE} (hs : σ[j]? = some (some (.ref A))) (hbox : BoxAt G A c) (hc : 0 ≤ c ∧ c ≤ 1000000) (hB : B A = none) (hm : 0 < m ∧ m < 1000000) (h : EvP tm σ G (is (.int m))) :
    Em (tCall spTk [] E (tCons (tVar j) (tCons tm tNil))) σ B G (fun G' v => (∃ r : Int, v = .int r ∧ 0 ≤ r ∧ r < m) ∧ BoxAt G' A (c + 1) ∧ Fr [A] G G') := fun H1 H kn Q q =>
  ⟨.ref A, hs, h H kn.le _ fun v H2 e2 p => by
    obtain ⟨k2, e3⟩ := kn.pure e2
    cases De.int' p
    exact ⟨⟨A, c, m⟩, B, H1, _, k2, ⟨rfl, hm, hc, hbox.mono fun o => e3 _ o, hB⟩, fun w H' G' k' ⟨hw, bx, fr⟩ => q w H' G' k' ⟨hw, bx, fun b o n hb => fr b o n (e3 _ _ hb)⟩⟩⟩
/-- a comprehension over a range whose element draws -/
theorem em_lcBox {H1 H : Hp} {g : TG} {te : TE} {vs : List Nat} {n : Nat} {A : Addr} {c m : Int} {El : PV} {Q : VK} (kn : Kn B H1 H G) (hB : B A = none) (hbox : BoxAt G A c) (hn : n ≤ 40000) (hE : ∀ G1 G2 v, Tp G1 G2 → El G1 v → El G2 v)
    (hs : ∀ (i : Nat) (G1 : Hp), i < n → Ex (wo [A] G) G1 → BoxAt G1 A (c + m * i) → TgP g (nt i) (wipe σ vs) G1 fun σ2 => wipe σ2 vs = wipe σ vs ∧ Em te σ2 B G1 (fun G2 v => El G2 v ∧ BoxAt G2 A (c + m * i + m) ∧ Fr [A] G1 G2))
    (q : ∀ D xs H' G', Kn B H1 H' G' → G D = none → G' D = some (.lst xs) → BoxAt G' A (c + m * n) → Fr [A] G G' → xs.length = n → (∀ x ∈ xs, El G' x) → Q (.ref D) H') :
    ∀ D, H D = none → ∃ W : Nat → Nat → Hp → Prop, (∃ m, W 0 m (upd H D (.lst []))) ∧ ∀ i m H, W i m H →
      ((Itr 0 n).stop i H ∧ Q (.ref D) H) ∨ ((Itr 0 n).go i H ∧ ∃ Nx : Hp → Prop, (∀ H', Nx H' → ∃ m', m' < m ∧ W (i + 1) m' H') ∧ ∀ x H', (Itr 0 n).yld i H x H' → g x (wipe σ vs) H' fun σ2 H2 => wipe σ2 vs = wipe σ vs ∧ tYes σ2 H2 fun b H3 =>
        if b = true then te σ2 H3 fun y H4 => ∃ acc, H4 D = some (.lst acc) ∧ acc.length < sizeLine ∧ Nx (upd H4 D (.lst (acc ++ [y]))) else Nx H3) := by
  refine em_lcW (l := List.range n) (ι := nt) kn (wo_le (Ds := [A])) wl_range (by rw [List.length_range]; exact hn) (fun i G1 xs => BoxAt G1 A (c + m * i) ∧ Fr [A] G G1 ∧ xs.length = i ∧ ∀ x ∈ xs, El G1 x) ⟨by simpa using hbox, Fr.refl, rfl, fun x hx => by cases hx⟩ ?_ (fun i G1 xs h => h.2.2.1) ?_ ?_
  · rintro i G1 G2 xs D hD hL e ⟨h1, h2, h3, h4⟩
    obtain ⟨o, hA⟩ := hbox.dm
    have nA : A ≠ D := fun z => by rw [z, hD] at hA; cases hA
    have tp : Tp G1 G2 := fun b ys hb => e b _ (fun z => by
      rw [z] at hb
      rcases hL with hL | ⟨zs, hL⟩
      · rw [hL] at hb; cases hb
      · rw [hL] at hb; cases hb) hb
    exact ⟨h1.mono fun o => e A o nA, fun b o n hb => e b o (ne_of_none hb hD) (h2 b o n hb), h3, fun x hx => hE _ _ _ tp (h4 x hx)⟩
  · rintro i a D G1 xs ha hD ex hkD hD1 ⟨h1, h2, h3, h4⟩
    obtain ⟨rfl, hi⟩ := range_at ha
    obtain ⟨o, hA⟩ := hbox.dm
    have nA : D ∉ [A] := fun z => by rw [List.mem_singleton.mp z, hA] at hD; cases hD
    intro v hv H0 e0 Q0 q0
    refine hs a G1 hi ex h1 v hv H0 e0 Q0 fun σ2 ⟨m1, m2⟩ => q0 σ2 ⟨m1, m2.imp fun G2 w ⟨r1, r2, r3⟩ => ⟨fun b o hb => ?_, r3 _ _ nA hD1, ?_, frA_trans h2 r3, by rw [List.length_append, h3]; rfl, fun x hx => ?_⟩⟩
    · have n : b ∉ [A] := fun z => by rw [wo_in z] at hb; cases hb
      exact r3 _ _ n (ex _ _ hb)
    · have e : c + m * ((a + 1 : Nat) : Int) = c + m * a + m := by
        rw [show ((a + 1 : Nat) : Int) = (a : Int) + 1 by omega, Int.mul_add, Int.mul_one]
        omega
      rw [e]
      exact r2
    · rcases List.mem_append.mp hx with hx | hx
      · exact hE _ _ _ (h1.tp r3) (h4 x hx)
      · rw [List.mem_singleton.mp hx]
        exact r1
  · rintro D xs H' G' kn' hD _ hD' ⟨h1, h2, h3, h4⟩
    rw [List.length_range] at h1 h3
    exact q D xs H' G' kn' hD hD' h1 h2 h3 h4
end
section
variable {σ : L2.St} {B : Hp} {ta tb : TE} {P : PV} {d : PyData} {K : PySem.W.Frag}
theorem ep_tupleOfE {α : Type} (f : α → List PyData) (C : α → Prop) (ha : EvP ta σ B (fun G v => ∃ m : α, De G v (.list (f m)) ∧ C m)) : EvP (tCB (fun xs H Q => ∃ a ys, xs = [.ref a] ∧ ((SqL K H a ys ∧ ∀ l, H l = none → Q (.ref l) (upd H l (.tup ys))) ∨ (SqT K H a ys ∧ Q (.ref a) H))) (tCons ta tNil)) σ B (fun G v => ∃ m : α, De G v (.tuple (f m)) ∧ C m) :=
  ep_cb1 ha (fun _ _ _ e ⟨ms, h1, h2⟩ => ⟨ms, h1.mono e, h2⟩) fun x G e ⟨ms, p, c⟩ => fun H1 e1 Q q => by
    obtain ⟨a, xs, rfl, h1, h2⟩ := De.lst' p
    exact ⟨a, xs, rfl, .inl ⟨sq_of (e1 _ _ h1), (Co.new (P := fun G v => ∃ m : α, De G v (.tuple (f m)) ∧ C m) fun G' a e2 h => ⟨ms, .tup h (h2.mono e2), c⟩) H1 e1 Q q⟩⟩
theorem ep_tup2E (mo : Mo P) (ha : EvP ta σ B (is d)) (hb : EvP tb σ B P) : EvP (tTup (tCons ta (tCons tb tNil))) σ B (fun G v => ∃ p x y, v = .ref p ∧ G p = some (.tup [x, y]) ∧ De G x d ∧ P G y) := fun H1 e Q q =>
  ha H1 e _ fun x H2 e2 p1 => hb H2 (e.trans e2) _ fun y H3 e3 p2 => ⟨by show 2 ≤ sizeLine; decide, fun p hp => q _ _ (e2.trans (e3.trans (Ex.new hp))) ⟨p, x, y, rfl, by rw [cut_new (fresh_back (e2.trans e3) hp), upd_same], De.mono (cut_mono (e3.trans (Ex.new hp))) p1, mo _ _ _ ((cut_later e2).trans (cut_mono (Ex.new hp))) p2⟩⟩
end
def FarOk (f : M.Fr) : Prop := (∀ s, f.1 = some s → 1 ≤ s ∧ s ≤ 6) ∧ f.2.Pairwise (· < ·) ∧ f.2.length ≤ 4 ∧ ∀ x ∈ f.2, 0 ≤ x ∧ x < 24
section
variable {P : Program} {w : World} {K : PySem.W.Frag} {mg : Str → Option Value} {base : Heap}
def AFr (i : KpI) : Hp → Hp → List V → Prop := fun B G vs => vs = [.ref i.A] ∧ (0 ≤ i.c ∧ i.c ≤ 900000) ∧ BoxAt G i.A i.c ∧ B i.A = none
def spFar : Sp := spR AFr fun i B G G' v => (∃ f, De G' v (dfar f) ∧ FarOk f) ∧ BoxAt G' i.A (i.c + 6) ∧ Fr [i.A] G G'
abbrev dFar (a : Fg → Addr) : Df := ⟨a, "_law_far", "_law_far", sFar, []⟩
theorem scFar : FnScope ["_law_box_here", "_law_shut_so", "_law_some", "_law_turn"] ["_law_box_here"] (defScope sFar) := ⟨rfl, rfl, rfl, by decide +kernel, rfl, by decide +kernel, by decide +kernel⟩
theorem ok_Far {a : Fg → Addr} {f : Addr} {fd : FuncData} (F : At K (dFar a) f fd) (T : Bt mg) (TK : C8.Cal P w K mg base 1 "_law_take" spTk []) (OF : C8.Cal P w K mg base 2 "_law_of" spOf []) : FnOk P w K mg base CX0 3 f fd ["_law_box_here"] spFar := by
  refine fokR F scFar (fun i B G vs h => by rw [h.1]; rfl) fun cdv A' outer s H E hr => ?_
  refine ⟨_, (pss_cons ((ps_asg ((C8.pe_c OF hr (Nat.le_refl _) (by rfl) (pa_cons ((pv 0)) (pa_cons (pe_lst (pa_cons (pe_non) (pa_cons (pe_non) (pa_cons (pe_int) (pa_cons (pe_int) (pa_cons (pe_int) (pa_cons (pe_int) (pa_cons (pe_int) pa_nil)))))))) pa_nil)))) (pg_name (i := 1) scFar.nd rfl (by first | exact Or.inl rfl | exact Or.inr rfl)))) (pss_cons ((ps_setLc (i := 2) (own := [("_law_turn", 3)]) (g := gName 3) (tt := tYes) rfl scFar.nd rfl rfl rfl (pi_range1 (by rfl) T.range (pa_cons ((C8.pe_c OF hr (Nat.le_refl _) (by rfl) (pa_cons ((pv 0)) (pa_cons (pe_lst (pa_cons (pe_int) (pa_cons (pe_int) (pa_cons (pe_int) (pa_cons (pe_int) (pa_cons (pe_int) pa_nil)))))) pa_nil)))) pa_nil)) (blkOk_by (N := ["_law_box_here", "_law_shut_so", "_law_some", "_law_turn"]) (sc := defScope sFar) (by decide +kernel)) (fun _ _ _ _ _ => pg_name (i := 3) scFar.nd rfl (by first | exact Or.inl rfl | exact Or.inr rfl)) (fun _ _ _ _ _ => pts_nil) (fun _ _ _ _ _ => (C8.pe_c TK hr (by omega) (by rfl) (pa_cons ((pv 0)) (pa_cons (pe_int) pa_nil)))))) (pss_one (ps_ret (pe_tup (pa_cons ((pv 1)) (pa_cons ((pe_callTy call_tuple_of (by rfl) T.tuple (by decide +kernel) (pa_cons ((pe_callB (cr_sortedSet rfl) (by rfl) T.sorted (by decide +kernel) (pa_cons ((pe_callTy (call_setL rfl) (by rfl) T.set (by decide +kernel) (pa_cons ((pv 2)) pa_nil))) pa_nil))) pa_nil))) pa_nil))))))), fun i B H1 H G vs rt h kn hret => ?_⟩
  obtain ⟨rfl, hc, hbox, hB⟩ := h
  refine q_seq (q_asgM kn (em_draw (ds := ([none, none, some 1, some 2, some 3, some 4, some 6] : List (Option Int)).map dk) rfl hbox ⟨hc.1, by omega⟩ hB ⟨by decide, by decide⟩ (ep_lst (da_cons ep_non (da_cons ep_non (da_cons ep_int (da_cons ep_int (da_cons ep_int (da_cons ep_int (da_cons ep_int da_nil))))))) (by decide))) fun v1 H2 G2 k2 ⟨⟨d1, hd1, hv1⟩, bx2, fr2⟩ => ?_)
  obtain ⟨sh, hsh, rfl⟩ := List.mem_map.mp hd1
  have hsh' : ∀ s, sh = some s → 1 ≤ s ∧ s ≤ 6 := fun s e => by
    subst e
    simp only [List.mem_cons, Option.some.injEq, List.not_mem_nil, or_false, reduceCtorEq, false_or] at hsh
    omega
  refine q_seq (q_asgM k2 (P := fun G' v => ∃ ns : List Int, De G' v (dI ns) ∧ ns.length ≤ 4 ∧ (∀ x ∈ ns, 0 ≤ x ∧ x < 24) ∧ BoxAt G' i.A (i.c + 6) ∧ Fr [i.A] G2 G') ?_ fun v2 H4 G4 k4 ⟨ns, hv2, hn, hr', bx4, fr4⟩ => ?_)
  · intro H1' H' kn' Q q
    refine em_draw (ds := ([0, 0, 1, 2, 4] : List Int).map .int) (j := 0) rfl bx2 ⟨by omega, by omega⟩ hB ⟨by decide, by decide⟩ (ep_lst (da_cons ep_int (da_cons ep_int (da_cons ep_int (da_cons ep_int (da_cons ep_int da_nil))))) (by decide)) H1' H' kn' _ fun v3 H3 G3 k3 ⟨⟨d3, hd3, hv3⟩, bx3, fr3⟩ => ?_
    obtain ⟨nI, hnI, rfl⟩ := List.mem_map.mp hd3
    obtain ⟨n, rfl, hn4⟩ : ∃ n : Nat, nI = n ∧ n ≤ 4 := by
      simp only [List.mem_cons, List.not_mem_nil, or_false] at hnI
      exact ⟨nI.toNat, by omega, by omega⟩
    cases De.int' hv3
    refine ⟨(n : Nat), rfl, by omega, by omega, ?_⟩
    rw [show ((n : Int)).toNat = n by simp]
    refine em_lcBox (A := i.A) (c := i.c + 1 + 1) (m := 1) (El := fun _ v => ∃ r : Int, v = .int r ∧ 0 ≤ r ∧ r < 24) k3 hB bx3 (by omega) (fun _ _ _ _ h => h) (fun j G5 hj e5 bx5 => tg_name fun y hy => ⟨rfl, em_take (m := 24) rfl bx5 ⟨by omega, by omega⟩ hB ⟨by decide, by decide⟩ ep_int⟩) fun D xs H6 G6 k6 hD hD6 bx6 fr6 hl hx => q _ _ _ k6 ?_
    obtain ⟨ns, rfl, hns⟩ : ∃ ns : List Int, xs = ns.map V.int ∧ ∀ x ∈ ns, 0 ≤ x ∧ x < 24 := by
      clear hD6 hl
      induction xs with
      | nil => exact ⟨[], rfl, fun x hx => by cases hx⟩
      | cons y ys ih =>
        obtain ⟨r, rfl, h1, h2⟩ := hx y List.mem_cons_self
        obtain ⟨ns, rfl, h3⟩ := ih fun x hx' => hx x (List.mem_cons_of_mem _ hx')
        exact ⟨r :: ns, rfl, fun x hx => by
          rcases List.mem_cons.mp hx with rfl | hx
          · exact ⟨h1, h2⟩
          · exact h3 x hx⟩
    rw [List.length_map] at hl
    exact ⟨ns, .lst hD6 (DeA.ints ns), by omega, hns, bx6.le (by omega), frA_trans fr3 fr6⟩
  · have hv1' : De G4 v1 (dk sh) := hv1.tp (bx2.tp fr4) (tO_dk sh)
    have es := ep_sortedSetL (σ := [some (V.ref i.A), some v1, some v2, none]) (K := K) (w0 := w) (by omega) (ep_d (i := 2) rfl hv2)
    refine q_ret k4 (P := fun G v => ∃ ms : List Int, De G v (.tuple [dk sh, .tuple (ms.map .int)]) ∧ ms.Pairwise (· < ·) ∧ ms.length ≤ ns.length ∧ ∀ k, k ∈ ms ↔ k ∈ ns) ?_ fun v5 H5 G5 k5 e5 ⟨ms, hv5, p1, p2, p3⟩ => hret v5 H5 G5 k5 ⟨⟨(sh, ms), hv5, hsh', p1, by show ms.length ≤ 4; omega, fun x hx => hr' x ((p3 x).mp hx)⟩, bx4.mono fun o => e5 _ o, frA_trans (frA_trans fr2 fr4) (Fr.of e5)⟩
    refine (ep_tup2E (fun _ _ _ e ⟨ms, h1, h2⟩ => ⟨ms, h1.mono e, h2⟩) (ep_d (i := 1) rfl hv1') (ep_tupleOfE (fun ms : List Int => ms.map .int) _ es)).imp fun G v _ ⟨p, x, y, h1, h2, h3, ms, h4, h5⟩ => ?_
    rw [h1]
    exact ⟨ms, .tup h2 (.cons h3 (.cons h4 .nil)), h5⟩
end
end Q
/-! K75W9 -/
set_option Elab.async false
set_option linter.all false
set_option maxRecDepth 100000
set_option maxHeartbeats 4000000
/-! The law's drawn loans. -/
namespace Q
open PySem PySem.Spec PyProof.Rows L2 Evl SlX
open M (Ln)
section
variable {σ : L2.St} {B G : Hp} {A : Addr} {c ka kb k : Int} {φ ψ : Int → Prop} {te ta tb : TE} {tr : TA} {n : Nat} {E : XK} {K : PySem.W.Frag}
theorem frW {G' : Hp} (h : Fr [A] G G') : Ex (wo [A] G) (wo [A] G') := fun b o q => by
  have m : b ∉ [A] := fun z => by rw [wo_in z] at q; cases q
  rw [wo_out m]
  exact h b o m (wo_le _ _ q)
theorem exW {Ds : List Addr} {G' : Hp} (h : Ex G G') : Ex (wo Ds G) (wo Ds G') := fun b o q => by
  have m : b ∉ Ds := fun z => by rw [wo_in z] at q; cases q
  rw [wo_out m]
  exact h b o (wo_le _ _ q)
/-- a whole number that is drawn, and what comes of it -/
abbrev Dr (te : TE) (σ : L2.St) (B G : Hp) (A : Addr) (c k : Int) (φ : Int → Prop) : Prop := Em te σ B G (fun G' v => (∃ r : Int, v = .int r ∧ φ r) ∧ BoxAt G' A (c + k) ∧ Fr [A] G G')
def DrA (tr : TA) (σ : L2.St) (B G : Hp) (A : Addr) (c k : Int) (φ : Int → Prop) (n : Nat) : Prop := ∀ H1 H, Kn B H1 H G → ∀ Q : List V → Hp → Prop, (∀ (ns : List Int) H' G', Kn B H1 H' G' → ns.length = n → (∀ r ∈ ns, φ r) → BoxAt G' A (c + k) → Fr [A] G G' → Q (ns.map V.int) H') → tr σ H Q
theorem dr_pure {i : Int} (hbox : BoxAt G A c) (h : EvP te σ G (is (.int i))) (hi : φ i) : Dr te σ B G A c 0 φ := (em_of h).imp fun G' v ⟨e, p⟩ => ⟨⟨i, De.int' p, hi⟩, by rw [Int.add_zero]; exact hbox.mono fun o => e _ o, Fr.of e⟩
theorem Dr.weak (h : Dr te σ B G A c k φ) (i : ∀ r, φ r → ψ r) : Dr te σ B G A c k ψ := Em.imp h fun G' v ⟨⟨r, e, p⟩, b, f⟩ => ⟨⟨r, e, i r p⟩, b, f⟩
theorem dr_add (ha : Dr ta σ B G A c ka φ) (hb : ∀ G', BoxAt G' A (c + ka) → Fr [A] G G' → Dr tb σ B G' A (c + ka) kb ψ) : Dr (tOp (rI0 fun i j => .int (i + j)) ta tb) σ B G A c (ka + kb) (fun r => ∃ i j, φ i ∧ ψ j ∧ r = i + j) := fun H1 H kn Q q =>
  ha H1 H kn _ fun x H2 G2 k2 ⟨⟨i, ei, hi⟩, bx, fr⟩ => hb G2 bx fr H1 H2 k2 _ fun y H3 G3 k3 ⟨⟨j, ej, hj⟩, bx3, fr3⟩ => ⟨i, j, ei, ej, q _ _ _ k3 ⟨⟨_, rfl, i, j, hi, hj, rfl⟩, by rw [← Int.add_assoc]; exact bx3, frA_trans fr fr3⟩⟩
theorem drA_nil (hbox : BoxAt G A c) : DrA tNil σ B G A c 0 φ 0 := fun H1 H kn Q q => q [] H G kn rfl (fun r h => by cases h) (by rw [Int.add_zero]; exact hbox) Fr.refl
theorem drA_cons (ha : Dr te σ B G A c ka φ) (hr : ∀ G', BoxAt G' A (c + ka) → Fr [A] G G' → DrA tr σ B G' A (c + ka) kb φ n) : DrA (tCons te tr) σ B G A c (ka + kb) φ (n + 1) := fun H1 H kn Q q =>
  ha H1 H kn _ fun x H2 G2 k2 ⟨⟨i, ei, hi⟩, bx, fr⟩ => hr G2 bx fr H1 H2 k2 _ fun ns H3 G3 k3 hl hn bx3 fr3 => by
    rw [ei]
    exact q (i :: ns) H3 G3 k3 (by rw [List.length_cons, hl]) (fun r h => by
      rcases List.mem_cons.mp h with rfl | h
      · exact hi
      · exact hn r h) (by rw [← Int.add_assoc]; exact bx3) (frA_trans fr fr3)
theorem new_ex {D : Addr} {o : HO} (h : G D = none) : Ex G (L2.upd G D o) := fun b u q => by rw [upd_ne (ne_of_none q h)]; exact q
theorem dr_ix {w : Nat} {j : Int} (hA : DrA tr σ B G A c k φ n) (hw : σ[w]? = some (some (.int j))) (hj : 0 ≤ j ∧ j < n) (hn : n ≤ 1000) : Dr (tOp (rIxL K) (tLst tr) (tVar w)) σ B G A c k φ := fun H1 H kn Q q =>
  hA H1 H kn _ fun ns H2 G2 k2 hl hφ bx fr => ⟨sz_of (by rw [List.length_map]; omega), fun p hp => by
    obtain ⟨m, rfl⟩ : ∃ m : Nat, j = (m : Int) := ⟨j.toNat, by omega⟩
    have hm : m < ns.length := by omega
    have e := new_ex (o := .lst (ns.map V.int)) (k2.non hp)
    refine ⟨_, hw, p, ns.map V.int, m, .int ns[m], rfl, rfl, sq_of upd_same, atI_nat ?_, q _ _ _ (k2.new hp) ⟨⟨_, rfl, hφ _ (List.getElem_mem hm)⟩, bx.mono fun o => e _ o, frA_trans fr (Fr.of e)⟩⟩
    rw [List.getElem?_map, List.getElem?_eq_getElem hm]
    rfl⟩
theorem dr_of {ns : List Int} {tl : TE} {j : Nat} (hs : σ[j]? = some (some (.ref A))) (hbox : BoxAt G A c) (hc : 0 ≤ c ∧ c ≤ 1000000) (hB : B A = none) (hl : 0 < ns.length ∧ ns.length < 100000) (hφ : ∀ r ∈ ns, φ r) (h : EvP tl σ (wo [A] G) (is (dI ns))) :
    Dr (tCall spOf [] E (tCons (tVar j) (tCons tl tNil))) σ B G A c 1 φ := (em_draw (ds := ns.map .int) hs hbox hc hB (by rwa [List.length_map]) h).imp fun G' v ⟨⟨d, hd, hv⟩, bx, fr⟩ => by
  obtain ⟨r, hr, rfl⟩ := List.mem_map.mp hd
  exact ⟨⟨r, De.int' hv, hφ r hr⟩, bx, fr⟩
theorem dr_min {i : Int} (hbox : BoxAt G A c) (ha : EvP ta σ G (is (.int i))) (hb : ∀ G', BoxAt G' A c → Fr [A] G G' → Dr tb σ B G' A c k φ) :
    Dr (tCB (fun xs H Q => ∃ i j, xs = [.int i, .int j] ∧ Q (.int (if j < i then j else i)) H) (tCons ta (tCons tb tNil))) σ B G A c k (fun r => ∃ j, φ j ∧ r = min i j) := fun H1 H kn Q q =>
  ha H kn.le _ fun x H2 e2 p => by
    obtain ⟨k2, e3⟩ := kn.pure e2
    exact hb _ (hbox.mono fun o => e3 _ o) (Fr.of e3) H1 H2 k2 _ fun y H3 G3 k3 ⟨⟨j, ej, hj⟩, bx3, fr3⟩ => ⟨i, j, by rw [De.int' p, ej], by
      have hm : (if j < i then j else i) = min i j := by
        by_cases h : j < i
        · rw [if_pos h]; omega
        · rw [if_neg h]; omega
      rw [hm]
      exact q _ _ _ k3 ⟨⟨_, rfl, j, hj, rfl⟩, bx3, frA_trans (Fr.of e3) fr3⟩⟩
theorem ep_orL {ns ms : List Int} (ha : EvP ta σ B (is (dI ns))) (hb : ns = [] → EvP tb σ B (is (dI ms))) : EvP (tOrT K ta tb) σ B (is (dI (if ns = [] then ms else ns))) := fun H1 e Q q => ha H1 e _ fun x H2 e2 p => by
  obtain ⟨a, xs, rfl, h1, h2⟩ := De.lst' p
  have := h2.ints'
  subst this
  refine ⟨!(ns.map V.int).isEmpty, .inl ⟨_, sq_of (cut_le _ _ h1), rfl⟩, ?_⟩
  cases ns with
  | nil => exact hb rfl H2 (e.trans e2) Q fun v H3 e3 p3 => q v H3 (e2.trans e3) (mo_is _ _ _ (cut_later e2) p3)
  | cons y ys => exact q _ H2 e2 p
section
variable {H : Hp} {te1 te2 te3 : TE} {nx : L2.St → Hp → Prop} {rt : VK} {bk ct : L2.St → Hp → Prop} {i j l : Nat}
theorem q_p3 (h : te1 σ H fun x H1 => te2 σ H1 fun y H2 => te3 σ H2 fun z H3 => ∃ u v w, [x, y, z] = [u, v, w] ∧ nx (((σ.set i (some u)).set j (some v)).set l (some w)) H3) : tPar3 i j l (tCons te1 (tCons te2 (tCons te3 tNil))) ⟨nx, rt, bk, ct⟩ σ H := h
theorem q_p2 (h : te1 σ H fun x H1 => te2 σ H1 fun y H2 => ∃ u v, [x, y] = [u, v] ∧ nx ((σ.set i (some u)).set j (some v)) H2) : tPar i j (tCons te1 (tCons te2 tNil)) ⟨nx, rt, bk, ct⟩ σ H := h
end
/-- the pair that a value tells -/
def pairAt (H : Hp) (v : V) : Int × Int := match v with
  | .ref t => (match H t with
    | some (.tup [.int a, .int b]) => (a, b)
    | _ => (0, 0))
  | _ => (0, 0)
theorem pairAt_of {H : Hp} {v : V} {l : Ln} (h : De H v (pr l)) : pairAt H v = l ∧ ∃ t, v = .ref t ∧ H t = some (.tup [.int l.1, .int l.2]) := by
  have h' : De H v (.tuple ([l.1, l.2].map PyData.int)) := h
  obtain ⟨t, xs, rfl, h1, h2⟩ := De.tup' h'
  have := h2.ints'
  subst this
  refine ⟨?_, t, rfl, h1⟩
  unfold pairAt
  simp only [h1, List.map_cons, List.map_nil]
theorem pairs_of {H : Hp} : ∀ {xs : List V} {ls : List Ln}, DeA H xs (ls.map pr) → xs.map (pairAt H) = ls ∧ ∀ x ∈ xs, De H x (pr (pairAt H x))
  | _, [], .nil => ⟨rfl, fun x h => by cases h⟩
  | _, l :: ls, .cons a b => by
    obtain ⟨h1, h2⟩ := pairs_of b
    have h3 := (pairAt_of a).1
    refine ⟨by rw [List.map_cons, h1, h3], fun x hx => ?_⟩
    rcases List.mem_cons.mp hx with rfl | hx
    · rw [h3]; exact a
    · exact h2 x hx
theorem des_map {H : Hp} {f : V → PyData} : ∀ {ys : List V}, (∀ x ∈ ys, De H x (f x)) → DeA H ys (ys.map f)
  | [], _ => .nil
  | y :: ys, h => .cons (h y List.mem_cons_self) (des_map fun x hx => h x (List.mem_cons_of_mem _ hx))
/-- sorted(a list of pairs) -/
theorem ep_sortedP {ls : List Ln} (ha : EvP ta σ B (is (.list (ls.map pr)))) : EvP (tCB (rSortedPO K) (tCons ta tNil)) σ B (fun G v => ∃ ms : List Ln, De G v (.list (ms.map pr)) ∧ ms.Perm ls ∧ ms.Pairwise fun a b => a.1 ≤ b.1) :=
  ep_cb1 ha mo_is fun x G e p => fun H1 e1 Q q => by
    obtain ⟨a, xs, rfl, h1, h2⟩ := De.lst' p
    obtain ⟨p1, p2⟩ := pairs_of h2
    refine ⟨a, xs, pairAt G, rfl, sq_of (e1 _ _ h1), fun y hy => ?_, fun ys D s1 s2 hD => ?_⟩
    · obtain ⟨_, t, e2, e3⟩ := pairAt_of (p2 y hy)
      exact ⟨t, e2, e1 _ _ e3⟩
    · have hys : ∀ y ∈ ys, De G y (pr (pairAt G y)) := fun y hy => p2 y (s2.perm.mem_iff.mp hy)
      refine q _ _ (Ex.new hD) ⟨ys.map (pairAt G), .lst (by rw [cut_new hD, upd_same]) ?_, ?_, ?_⟩
      · rw [List.map_map]
        exact DeA.mono (cut_base (e1.trans (Ex.new hD))) (des_map hys)
      · rw [← p1]
        exact s2.perm.map _
      · rw [List.pairwise_map]
        refine List.Pairwise.imp (fun {u v} h => ?_) s1
        have := SrtO.lexB_no.mp h
        omega
end
theorem woA_upd {G : Hp} {A D : Addr} {o : HO} (n : D ≠ A) : wo [A] (L2.upd G D o) = L2.upd (wo [A] G) D o := by
  funext b
  by_cases q : b = D
  · subst q
    rw [upd_same, wo_out (by simpa using n), upd_same]
  · rw [upd_ne q]
    by_cases z : b ∈ [A]
    · rw [wo_in z, wo_in z]
    · rw [wo_out z, wo_out z, upd_ne q]
structure LoI where
  A : Addr
  c : Int
  n : Nat
def LnOk (ls : List Ln) (n : Nat) : Prop := ls.length = n ∧ M.Valid ls ∧ ∀ l ∈ ls, l.1 ≤ 16 ∧ l.2 ≤ 23
section
variable {P : Program} {w : World} {K : PySem.W.Frag} {mg : Str → Option Value} {base : Heap}
def ALo (i : LoI) : Hp → Hp → List V → Prop := fun B G vs => vs = [.ref i.A, .int (i.n : Nat), .int 16] ∧ i.n ≤ 10 ∧ (0 ≤ i.c ∧ i.c ≤ 900000) ∧ BoxAt G i.A i.c ∧ B i.A = none
def spLo : Sp := spR ALo fun i B G G' v => (∃ ls, De G' v (dl ls) ∧ LnOk ls i.n) ∧ BoxAt G' i.A (i.c + 100) ∧ Fr [i.A] G G'
abbrev dLo (a : Fg → Addr) : Df := ⟨a, "_law_loans", "_law_loans", sLoans, []⟩
theorem scLo : FnScope ["_law_box_here", "_law_size_all", "_law_wide_so", "_law_way_so", "_law_rows", "_law_here", "_law_turn", "_law_size_so", "_law_ends", "_law_from_so", "_law_row"] ["_law_box_here", "_law_size_all", "_law_wide_so"] (defScope sLoans) := ⟨rfl, rfl, rfl, by decide +kernel, rfl, by decide +kernel, by decide +kernel⟩
theorem ok_Lo {a : Fg → Addr} {f : Addr} {fd : FuncData} (F : At K (dLo a) f fd) (T : Bt mg) (TK : C8.Cal P w K mg base 1 "_law_take" spTk []) (OF : C8.Cal P w K mg base 2 "_law_of" spOf []) : FnOk P w K mg base CX0 3 f fd ["_law_box_here", "_law_size_all", "_law_wide_so"] spLo := by
  refine fokR F scLo (fun i B G vs h => by rw [h.1]; rfl) fun cdv A' outer s H E hr => ?_
  refine ⟨_, (pss_cons (ps_par3 (i := 3) (j := 4) (l := 5) rfl scLo.nd rfl rfl rfl (by decide) (by decide) (by decide) rfl rfl rfl (pa_cons ((C8.pe_c TK hr (by omega) (by rfl) (pa_cons ((pv 0)) (pa_cons (pe_int) pa_nil)))) (pa_cons (pe_lst pa_nil) (pa_cons ((C8.pe_c TK hr (by omega) (by rfl) (pa_cons ((pv 0)) (pa_cons (pe_int) pa_nil)))) pa_nil))) rfl) (pss_cons ((ps_for PassesOwn.never rfl (pi_range1 (by rfl) T.range (pa_cons ((pv 1)) pa_nil)) (pg_name (i := 6) scLo.nd rfl (by first | exact Or.inl rfl | exact Or.inr rfl)) ((pss_cons (ps_par (i := 7) (j := 8) rfl scLo.nd rfl rfl (by decide) rfl rfl (pa_cons ((pe_op op_add (pe_int) ((C8.pe_c OF hr (Nat.le_refl _) (by rfl) (pa_cons ((pv 0)) (pa_cons (pe_lst (pa_cons (pe_int) (pa_cons (pe_int) (pa_cons (pe_int) (pa_cons (pe_int) (pa_cons (pe_int) (pa_cons (pe_int) (pa_cons (pe_int) pa_nil)))))))) pa_nil)))))) (pa_cons (pe_orT (pe_lc (own := [("_law_row", 10)]) (g := gName 10) (tt := tYes) rfl scLo.nd (pi_list (pv 4)) (blkOk_by (N := ["_law_box_here", "_law_size_all", "_law_wide_so", "_law_way_so", "_law_rows", "_law_here", "_law_turn", "_law_size_so", "_law_ends", "_law_from_so", "_law_row"]) (sc := defScope sLoans) (by decide +kernel)) (fun _ _ _ _ _ => pg_name (i := 10) scLo.nd rfl (by first | exact Or.inl rfl | exact Or.inr rfl)) (fun _ _ _ _ _ => pts_nil) (fun _ _ _ _ _ => kIxT K (pv 10) pe_int)) (pe_one (pe_lst (pa_cons ((pv 5)) pa_nil)))) pa_nil)) rfl) (pss_cons ((ps_asg (kIxL K (pe_lst (pa_cons ((C8.pe_c TK hr (by omega) (by rfl) (pa_cons ((pv 0)) (pa_cons ((pv 2)) pa_nil)))) (pa_cons ((pv 5)) (pa_cons ((C8.pe_c OF hr (Nat.le_refl _) (by rfl) (pa_cons ((pv 0)) (pa_cons ((pv 8)) pa_nil)))) (pa_cons ((pe_op op_add ((pv 5)) ((C8.pe_c TK hr (by omega) (by rfl) (pa_cons ((pv 0)) (pa_cons (pe_int) pa_nil)))))) pa_nil))))) (pv 3)) (pg_name (i := 9) scLo.nd rfl (by first | exact Or.inl rfl | exact Or.inr rfl)))) (pss_cons ((ps_expr (pe_bm PySem.F.plainAttrs_list PySem.F.slot_list_append PySem.F.type_list_append mt_append ((pv 4)) (pa_cons (pe_tup (pa_cons ((pe_callB (call_min2 rfl) (by rfl) T.min (by decide +kernel) (pa_cons ((pv 9)) (pa_cons ((pv 2)) pa_nil)))) (pa_cons ((pe_op op_add ((pe_callB (call_min2 rfl) (by rfl) T.min (by decide +kernel) (pa_cons ((pv 9)) (pa_cons ((pv 2)) pa_nil)))) ((pv 7)))) pa_nil))) pa_nil)))) (pss_one ((ps_asg ((pe_callB (call_min2 rfl) (by rfl) T.min (by decide +kernel) (pa_cons ((pv 2)) (pa_cons ((pe_op op_add ((pv 5)) (kIxL K (pe_lst (pa_cons (pe_int) (pa_cons ((C8.pe_c OF hr (Nat.le_refl _) (by rfl) (pa_cons ((pv 0)) (pa_cons (pe_lst (pa_cons (pe_int) (pa_cons (pe_int) (pa_cons (pe_int) (pa_cons (pe_int) (pa_cons (pe_int) pa_nil)))))) pa_nil)))) (pa_cons (pe_int) (pa_cons ((pe_op op_add (pe_int) ((C8.pe_c TK hr (by omega) (by rfl) (pa_cons ((pv 0)) (pa_cons (pe_int) pa_nil)))))) pa_nil))))) (pv 3)))) pa_nil)))) (pg_name (i := 5) scLo.nd rfl (by first | exact Or.inl rfl | exact Or.inr rfl))))))))))) (pss_one (ps_ret (pe_callTy call_tuple_of (by rfl) T.tuple (by decide +kernel) (pa_cons ((pe_callB cr_sortedPO (by rfl) T.sorted (by decide +kernel) (pa_cons ((pv 4)) pa_nil))) pa_nil)))))), fun i B H1 H G vs rt h kn hret => ?_⟩
  obtain ⟨rfl, hn, hc, hbox, hB⟩ := h
  refine q_seq (q_p3 (em_take (m := 4) rfl hbox ⟨hc.1, by omega⟩ hB ⟨by decide, by decide⟩ ep_int H1 H kn _ fun v1 H2 G2 k2 ⟨⟨way, e1, hway⟩, bx2, fr2⟩ => ?_))
  subst e1
  refine mk_lst _ _ _ fun D hD => ?_
  have k3 := k2.new (o := .lst []) hD
  have eD := new_ex (o := .lst []) (k2.non hD)
  have hBD : B D = none := k2.bnon hD
  have nDA : D ≠ i.A := fun z => by
    obtain ⟨o, q⟩ := bx2.dm
    rw [← z, k2.non hD] at q
    cases q
  have nD : D ∉ [i.A] := by simpa using nDA
  refine em_take (m := 3) rfl (bx2.mono fun o => eD _ o) ⟨by omega, by omega⟩ hB ⟨by decide, by decide⟩ ep_int H1 _ k3 _ fun v4 H4 G4 k4 ⟨⟨here, e4, hhere⟩, bx4, fr4⟩ => ⟨_, _, _, rfl, ?_⟩
  subst e4
  have hGD : (wo [i.A] G4) D = some (.lst []) := by
    rw [wo_out nD]
    exact fr4 D _ nD upd_same
  have fr0 : Fr [i.A] G G4 := frA_trans (frA_trans fr2 (Fr.of eD)) fr4
  refine q_seq (q_for (α := Nat) (l := List.range i.n) (ι := nt) (wo [i.A, D] G4) k4 wo_le (wi_range (da_cons (ep_d (i := 1) rfl (.int _)) da_nil) (by omega)) (fun j σ G' => ∃ hr' x6 x7 x8 x9 x10 xs ls, σ = [some (.ref i.A), some (.int (i.n : Nat)), some (.int 16), some (.int way), some (.ref D), some (.int hr'), x6, x7, x8, x9, x10] ∧ (0 ≤ hr' ∧ hr' ≤ 16) ∧ BoxAt G' i.A (i.c + 2 + 6 * (j : Nat)) ∧ Fr [i.A] G G' ∧ (wo [i.A] G') D = some (.lst xs) ∧ DeA (wo [i.A] G') xs (ls.map pr) ∧ ls.length = j ∧ ∀ l ∈ ls, (0 ≤ l.1 ∧ l.1 ≤ 16) ∧ l.1 < l.2 ∧ l.2 ≤ l.1 + 7) ⟨here, _, _, _, _, _, [], [], rfl, by omega, bx4.le (by omega), fr0, hGD, .nil, rfl, fun l h => by cases h⟩ ?_ ?_ ?_)
  · rintro j σ G1 G2 ⟨hr', x6, x7, x8, x9, x10, xs, ls, e, h1, h2, h3, h4, h5, h6, h7⟩ e'
    exact ⟨hr', x6, x7, x8, x9, x10, xs, ls, e, h1, h2.mono fun o => e' _ o, frA_trans h3 (Fr.of e'), exW e' _ _ h4, h5.mono (exW e'), h6, h7⟩
  · rintro j t Gw σ H' G' hj eGw frs eG kn' ⟨hr', x6, x7, x8, x9, x10, xs, ls, rfl, h1, bx, fr, hD', hxs, hl, hls⟩
    obtain ⟨rfl, hjn⟩ := range_at hj
    have gA : Gw i.A = none := by
      obtain ⟨o, q⟩ := bx4.dm
      exact frs i.A _ (k4.le _ _ q) (wo_in List.mem_cons_self)
    have gD : Gw D = none := frs D _ (k4.le _ _ (wo_le _ _ hGD)) (wo_in (by simp))
    refine ⟨fun σ2 => σ2 = [some (.ref i.A), some (.int (i.n : Nat)), some (.int 16), some (.int way), some (.ref D), some (.int hr'), some (.int ((t : Nat) : Int)), x7, x8, x9, x10], tg_name fun y hy => by rw [De.int' hy]; rfl, ?_⟩
    rintro σ2 rfl
    refine q_seq (q_p2 (dr_add (dr_pure (φ := fun r => r = 1) bx ep_int rfl) (fun G5 b5 f5 => dr_of (ns := [0, 0, 1, 1, 2, 3, 6]) (φ := fun r => 0 ≤ r ∧ r ≤ 6) rfl b5 ⟨by omega, by omega⟩ hB ⟨by decide, by decide⟩ (by decide) (ep_lst (da_cons ep_int (da_cons ep_int (da_cons ep_int (da_cons ep_int (da_cons ep_int (da_cons ep_int (da_cons ep_int da_nil))))))) (by decide))) H1 H' kn' _ fun v5 H5 G5 k5 ⟨⟨sz, e5, one, sz0, e51, hsz, e52⟩, bx5, fr5⟩ => ?_))
    subst e51 e52 e5
    have w5 := frW fr5
    have hlc := ep_lcm (σ := [some (.ref i.A), some (.int (i.n : Nat)), some (.int 16), some (.int way), some (.ref D), some (.int hr'), some (.int ((t : Nat) : Int)), x7, x8, x9, x10]) (te := tOp (rIxT K) (tVar 10) (tC (.int 1))) (vs := [10]) (g := gName 10) (l := ls) (ι := pr) (fun l => .int l.2) (wi_list (K := K) (Ev.lst (ev_var (i := 4) rfl) (w5 _ _ hD') (hxs.mono w5))) (by omega) fun l G hl e => tg_name fun y hy => ⟨rfl, ep_ixT (j := 1) (ep_d (i := 10) rfl hy) ep_int rfl rfl⟩
    have ee : PyData.list (ls.map fun l => .int l.2) = dI (ls.map (·.2)) := by
      unfold dI
      rw [List.map_map]
      rfl
    rw [ee] at hlc
    refine (ep_orL (ms := [hr']) hlc fun _ => ep_lst (da_cons (ep_d (i := 5) rfl (.int _)) da_nil) (by show 1 ≤ 100000; decide)) H5 (wo_le.trans k5.le) _ fun v6 H6 e6 p6 => ⟨_, _, rfl, ?_⟩
    obtain ⟨k6, ex6⟩ := k5.pure e6
    obtain ⟨o5, hA5⟩ := bx5.dm
    have hends := De.mono (cut_wo (k5.le _ _ hA5)) p6
    have bx6 := bx5.mono fun o => ex6 _ o
    have w6 := w5.trans (exW ex6)
    generalize cut G5 H5 H6 = G6 at k6 ex6 hends bx6 w6
    generalize hen : (if ls.map (·.2) = [] then [hr'] else ls.map (·.2)) = ends at hends
    have hel : 0 < ends.length ∧ ends.length < 100000 ∧ ∀ r ∈ ends, 0 ≤ r := by
      rw [← hen]
      split
      · exact ⟨by show 0 < 1; decide, by show 1 < 100000; decide, fun r hr => by rw [List.mem_singleton.mp hr]; exact h1.1⟩
      · rename_i hne
        refine ⟨List.length_pos_iff.mpr hne, by rw [List.length_map]; omega, fun r hr => ?_⟩
        obtain ⟨l, hl', rfl⟩ := List.mem_map.mp hr
        have := hls l hl'
        omega
    refine q_seq (q_asgM k6 (dr_ix (n := 4) (K := K) (w := 3) (j := way) (φ := fun r => 0 ≤ r)
      (drA_cons (Dr.weak (φ := fun r => 0 ≤ r ∧ r < 16) (em_take (m := 16) rfl bx6 ⟨by omega, by omega⟩ hB ⟨by decide, by decide⟩ (ep_d (i := 2) rfl (.int _))) fun r h => h.1) fun G7 b7 f7 =>
       drA_cons (dr_pure b7 (ep_d (i := 5) rfl (.int _)) h1.1) fun G8 b8 f8 =>
       drA_cons (dr_of (ns := ends) rfl b8 ⟨by omega, by omega⟩ hB ⟨hel.1, hel.2.1⟩ hel.2.2 (ep_d (i := 8) rfl (hends.mono ((frW f7).trans (frW f8))))) fun G9 b9 f9 =>
       drA_cons (Dr.weak (dr_add (dr_pure (φ := fun r => r = hr') b9 (ep_d (i := 5) rfl (.int _)) rfl) fun G10 b10 f10 => em_take (m := 3) rfl b10 ⟨by omega, by omega⟩ hB ⟨by decide, by decide⟩ ep_int) fun r ⟨i, j, h1, h2, h3⟩ => by omega) fun G11 b11 f11 => drA_nil b11) rfl (by omega) (by omega)) fun v7 H7 G7 k7 ⟨⟨frm, e7, hfrm⟩, bx7, fr7⟩ => ?_)
    subst e7
    have w7 := w6.trans (frW fr7)
    have hxl := hxs.len
    rw [List.length_map] at hxl
    refine q_seq (q_append (P := is (pr (min frm 16, min frm 16 + (1 + sz0)))) (xs := xs) mo_is k7 hBD (wo_le _ _ (w7 _ _ hD')) (by omega) (ev_var (i := 4) rfl) (ep_tup (da_cons (ep_min2 (ep_d (i := 9) rfl (.int _)) (ep_d (i := 2) rfl (.int _))) (da_cons (ep_add (ep_min2 (ep_d (i := 9) rfl (.int _)) (ep_d (i := 2) rfl (.int _))) (ep_d (i := 7) rfl (.int _))) da_nil)) (by show 2 ≤ 100000; decide)) fun v8 H8 G8 k8 e8 hv8 k9 => ?_)
    have w8 := w7.trans (exW e8)
    have hD8 := w8 _ _ hD'
    have bx8 := bx7.mono fun o => e8 _ o
    have bx9 : BoxAt (L2.upd G8 D (.lst (xs ++ [v8]))) i.A _ := bx8.mono fun o q => by rw [upd_ne nDA.symm]; exact q
    have wD : wo [i.A] (L2.upd G8 D (.lst (xs ++ [v8]))) = L2.upd (wo [i.A] G8) D (.lst (xs ++ [v8])) := woA_upd nDA
    have tp9 : Tp (wo [i.A] G8) (wo [i.A] (L2.upd G8 D (.lst (xs ++ [v8])))) := by rw [wD]; exact tp_upd fun ys q => by rw [hD8] at q; cases q
    have hx9 : DeA (wo [i.A] (L2.upd G8 D (.lst (xs ++ [v8])))) (xs ++ [v8]) ((ls ++ [(min frm 16, min frm 16 + (1 + sz0))]).map pr) := by
      rw [List.map_append]
      exact (prs_chg tp9 (hxs.mono w8)).app (.cons (De.tp tp9 (De.tp bx8.tpw hv8 rfl) rfl) .nil)
    have hD9 : (wo [i.A] (L2.upd G8 D (.lst (xs ++ [v8])))) D = some (.lst (xs ++ [v8])) := by rw [wD, upd_same]
    have fr9 : Fr [i.A, D] G' (L2.upd G8 D (.lst (xs ++ [v8]))) := fun b o n q => by
      have n1 : b ∉ [i.A] := fun z => n (by simp at z; simp [z])
      have n2 : b ≠ D := fun z => n (by simp [z])
      rw [upd_ne n2]
      exact e8 _ _ (fr7 b o n1 (ex6 _ _ (fr5 b o n1 q)))
    generalize L2.upd G8 D (.lst (xs ++ [v8])) = G9 at k9 bx9 hx9 hD9 fr9 ⊢
    refine q_asgM k9 (dr_min (φ := fun r => 0 ≤ r) bx9 (ep_d (i := 2) rfl (.int _)) fun G10 b10 f10 => Dr.weak (dr_add (dr_pure (φ := fun r => r = hr') b10 (ep_d (i := 5) rfl (.int _)) rfl) fun G11 b11 f11 => dr_ix (n := 4) (K := K) (w := 3) (j := way) (φ := fun r => 0 ≤ r)
      (drA_cons (dr_pure b11 ep_int (by decide)) fun G12 b12 f12 =>
       drA_cons (dr_of (ns := [0, 0, 0, 2, 5]) rfl b12 ⟨by omega, by omega⟩ hB ⟨by decide, by decide⟩ (by decide) (ep_lst (da_cons ep_int (da_cons ep_int (da_cons ep_int (da_cons ep_int (da_cons ep_int da_nil))))) (by decide))) fun G13 b13 f13 =>
       drA_cons (dr_pure b13 ep_int (by decide)) fun G14 b14 f14 =>
       drA_cons (Dr.weak (dr_add (dr_pure (φ := fun r => r = 1) b14 ep_int rfl) fun G15 b15 f15 => em_take (m := 8) rfl b15 ⟨by omega, by omega⟩ hB ⟨by decide, by decide⟩ ep_int) fun r ⟨i, j, h1, h2, h3⟩ => by omega) fun G16 b16 f16 => drA_nil b16) rfl (by omega) (by omega)) fun r ⟨i, j, h1, h2, h3⟩ => by omega) fun v10 H10 G10 k10 ⟨⟨hr2, e10, jj, hjj, ej⟩, bx10, fr10⟩ => ⟨G10, k10, fun b o q => ?_, hr2, some (.int ((t : Nat) : Int)), some (.int (1 + sz0)), some v6, some (.int frm), x10, xs ++ [v8], ls ++ [(min frm 16, min frm 16 + (1 + sz0))], ?_, ?_, bx10.le ?_, ?_, frW fr10 _ _ hD9, hx9.mono (frW fr10), ?_, ?_⟩
    · have n : b ∉ [i.A, D] := fun z => by
        simp only [List.mem_cons, List.not_mem_nil, or_false] at z
        rcases z with rfl | rfl
        · rw [gA] at q; cases q
        · rw [gD] at q; cases q
      exact fr10 b o (fun z => n (by simp at z; simp [z])) (fr9 b o n (eG _ _ q))
    · rw [e10]
      rfl
    · omega
    · omega
    · refine frA_trans (G' := G9) (fun b o n q => fr9 b o (fun z => ?_) (fr b o n q)) fr10
      simp only [List.mem_cons, List.not_mem_nil, or_false] at z n
      rcases z with z | rfl
      · exact n z
      · have := fr2 _ _ nD q
        rw [k2.non hD] at this
        cases this
    · rw [List.length_append, hl]; rfl
    · intro l hl'
      rcases List.mem_append.mp hl' with h | h
      · exact hls l h
      · rw [List.mem_singleton.mp h]
        show (0 ≤ min frm 16 ∧ min frm 16 ≤ 16) ∧ min frm 16 < min frm 16 + (1 + sz0) ∧ min frm 16 + (1 + sz0) ≤ min frm 16 + 7
        omega
  · rintro σ Hz Gz Gw _ _ eG kz ⟨hr', x6, x7, x8, x9, x10, xs, ls, rfl, h1, bx, fr, hD', hxs, hl, hls⟩
    rw [List.length_range] at bx hl
    refine q_ret kz (ep_tupleOfE (fun ls : List Ln => ls.map pr) _ (ep_sortedP (K := K) (ls := ls) (Ev.lst (ev_var (i := 4) rfl) (wo_le _ _ hD') (hxs.mono wo_le)))) fun v H6 G6 k6 e6 ⟨ms, hv, hp, hpw⟩ => hret v H6 G6 k6 ⟨⟨ms, hv, by rw [hp.length_eq, hl], ⟨fun l h => ?_, hpw⟩, fun l h => ?_⟩, (bx.mono fun o => e6 _ o).le (by omega), frA_trans fr (Fr.of e6)⟩
    · have := hls l (hp.mem_iff.mp h)
      omega
    · have := hls l (hp.mem_iff.mp h)
      omega
end
end Q
/-! K75W10 -/
set_option Elab.async false
set_option linter.all false
set_option maxRecDepth 100000
set_option maxHeartbeats 4000000
/-! The law's line and drawn handings. -/
namespace Q
open PySem PySem.Spec PyProof.Rows L2 Evl SlX
open M (Ln)
theorem inV_opt {i : Nat} : ∀ {hd : List (Option Nat)}, inV (.int (i : Nat)) (hd.map dnV) = decide (some i ∈ hd)
  | [] => rfl
  | o :: hd => by
    have ih := inV_opt (i := i) (hd := hd)
    unfold inV at ih ⊢
    rw [List.map_cons, List.any_cons, ih]
    cases o with
    | none => simp [dnV, eqV]
    | some g =>
      simp only [dnV, eqV, List.mem_cons, Option.some.injEq]
      rw [Bool.eq_iff_iff]
      simp
      constructor
      · rintro (h | h)
        · exact .inl (by omega)
        · exact .inr h
      · rintro (h | h)
        · exact .inl (by omega)
        · exact .inr h
theorem flat_opts (hd : List (Option Nat)) : (hd.map dnV).all flatV = true := List.all_eq_true.mpr fun x hx => by
  obtain ⟨o, _, rfl⟩ := List.mem_map.mp hx
  cases o <;> rfl
section
variable {σ : L2.St} {B H1 H G : Hp} {ta tb te : TE} {K : PySem.W.Frag} {P : PV} {nx : L2.St → Hp → Prop} {rt : VK} {bk ct : L2.St → Hp → Prop}
theorem ep_ninO {D : Addr} {i : Nat} {hd : List (Option Nat)} (ha : EvP ta σ G (is (nt i))) (hb : Ev tb σ G (.ref D)) (hD : G D = some (.lst (hd.map dnV))) : EvP (tOp (rIn K true) ta tb) σ G (is (.bool (!decide (some i ∈ hd)))) := fun H1 e Q q =>
  ha H1 e _ fun x H2 e2 p => hb H2 (e.trans e2) _ fun H3 e3 => by
    cases De.int' p
    refine ⟨D, _, rfl, .inl (sq_of ((e.trans (e2.trans e3)) _ _ hD)), rfl, flat_opts _, ?_⟩
    rw [inV_opt]
    exact q _ H3 (e2.trans e3) (.bl _)
/-- l.append(what changes) -/
theorem q_appendM {D : Addr} {xs : List V} (kn : Kn B H1 H G) (hB : B D = none) (hG : G D = some (.lst xs)) (hz : xs.length < 100000) (ho : Ev ta σ G (.ref D)) (h : ∀ G', Ex G G' → Em te σ B G' P) (hk : ∀ G' v, P G' v → G' D = some (.lst xs))
    (k : ∀ v H' G', Kn B H1 H' G' → P G' v → Kn B H1 (L2.upd H' D (.lst (xs ++ [v]))) (L2.upd G' D (.lst (xs ++ [v]))) → nx σ (L2.upd H' D (.lst (xs ++ [v])))) : tDrop (tBM K "list" rAppend ta (tCons te tNil)) ⟨nx, rt, bk, ct⟩ σ H :=
  ho H kn.le _ fun H2 e2 => ⟨Or.inl ⟨rfl, xs, sq_of (e2 D _ (kn.le _ _ hG))⟩, by
    obtain ⟨k2, e3⟩ := kn.pure e2
    exact h _ e3 H1 H2 k2 _ fun v H3 G3 k3 p => ⟨D, xs, v, rfl, rfl, k3.le _ _ (hk _ _ p), sz_lt hz, k v H3 G3 k3 p (k3.upd hB (hk _ _ p))⟩⟩
end
section
variable {P : Program} {w : World} {K : PySem.W.Frag} {mg : Str → Option Value} {base : Heap}
def ALi (i : KpI) : Hp → Hp → List V → Prop := fun B G vs => vs = [.ref i.A, .int 10, .int 16] ∧ (0 ≤ i.c ∧ i.c ≤ 800000) ∧ BoxAt G i.A i.c ∧ B i.A = none
def spLi : Sp := spR ALi fun i B G G' v => (∃ ls n, De G' v (dl ls) ∧ LnOk ls n ∧ 1 ≤ n ∧ n ≤ 10) ∧ BoxAt G' i.A (i.c + 101) ∧ Fr [i.A] G G'
abbrev dLi (a : Fg → Addr) : Df := ⟨a, "_law_line", "_law_line", sLine, []⟩
theorem scLi : FnScope ["_law_box_here", "_law_size_so", "_law_room_so"] ["_law_box_here", "_law_size_so", "_law_room_so"] (defScope sLine) := ⟨rfl, rfl, rfl, by decide +kernel, rfl, by decide +kernel, by decide +kernel⟩
theorem ok_Li {a : Fg → Addr} {f : Addr} {fd : FuncData} (F : At K (dLi a) f fd) (T : Bt mg) (TK : C8.Cal P w K mg base 1 "_law_take" spTk []) (LO : C8.Cal P w K mg base 3 "_law_loans" spLo []) : FnOk P w K mg base CX0 4 f fd ["_law_box_here", "_law_size_so", "_law_room_so"] spLi := by
  refine fokR F scLi (fun i B G vs h => by rw [h.1]; rfl) fun cdv A' outer s H E hr => ?_
  refine ⟨_, (pss_one (ps_ret (C8.pe_c LO hr (Nat.le_refl _) (by rfl) (pa_cons ((pv 0)) (pa_cons ((pe_op op_add (pe_int) ((C8.pe_c TK hr (by omega) (by rfl) (pa_cons ((pv 0)) (pa_cons ((pv 1)) pa_nil)))))) (pa_cons ((pv 2)) pa_nil)))))), fun i B H1 H G vs rt h kn hret => ?_⟩
  obtain ⟨rfl, hc, hbox, hB⟩ := h
  refine q_retM (P := fun G' v => (∃ ls n, De G' v (dl ls) ∧ LnOk ls n ∧ 1 ≤ n ∧ n ≤ 10) ∧ BoxAt G' i.A (i.c + 101) ∧ Fr [i.A] G G') kn ?_ hret
  intro H1' H' kn' Q q
  refine ⟨.ref i.A, rfl, dr_add (dr_pure (φ := fun r => r = 1) hbox ep_int rfl) (fun G5 b5 f5 => em_take (m := 10) rfl b5 ⟨by omega, by omega⟩ hB ⟨by decide, by decide⟩ (ep_d (i := 1) rfl (.int _))) H1' H' kn' _ fun v5 H5 G5 k5 ⟨⟨r, e5, a5, b5', ha5, hb5, hs5⟩, bx5, fr5⟩ => ?_⟩
  obtain ⟨n, rfl⟩ : ∃ n : Nat, r = (n : Int) := ⟨r.toNat, by omega⟩
  subst e5
  exact ⟨.int 16, rfl, ⟨i.A, i.c + 1, n⟩, B, H1', G5, k5, ⟨rfl, by show n ≤ 10; omega, by show 0 ≤ i.c + 1 ∧ i.c + 1 ≤ 900000; omega, bx5.le (by show i.c + (0 + 1) ≤ i.c + 1; omega), hB⟩, fun v H6 G6 k6 ⟨⟨ls, hv, hls⟩, bx6, fr6⟩ => q v H6 G6 k6 ⟨⟨ls, n, hv, hls, by omega, by omega⟩, bx6.le (by show i.c + 1 + 100 ≤ i.c + 101; omega), frA_trans fr5 fr6⟩⟩
structure DwI where
  A : Addr
  c : Int
  ls : List Ln
  k : Int
  vl : V
def ADw (i : DwI) : Hp → Hp → List V → Prop := fun B G vs => vs = [.ref i.A, i.vl, .int i.k] ∧ De G i.vl (dl i.ls) ∧ i.ls.length ≤ 10 ∧ (0 ≤ i.c ∧ i.c ≤ 900000) ∧ BoxAt G i.A i.c ∧ B i.A = none
def spDw : Sp := spR ADw fun i B G G' v => (∃ hd, De G' v (dh hd) ∧ M.HandOk i.ls (some i.k) hd) ∧ BoxAt G' i.A (i.c + 10) ∧ Fr [i.A] G G'
abbrev dDw (a : Fg → Addr) : Df := ⟨a, "_law_drawn", "_law_drawn", sDrawn, []⟩
theorem scDw : FnScope ["_law_box_here", "_law_loans_so", "_law_keep_so", "_law_found", "_law_j", "_law_free", "_law_i"] ["_law_box_here", "_law_loans_so", "_law_keep_so"] (defScope sDrawn) := ⟨rfl, rfl, rfl, by decide +kernel, rfl, by decide +kernel, by decide +kernel⟩
theorem ok_Dw {a : Fg → Addr} {f : Addr} {fd : FuncData} (F : At K (dDw a) f fd) (T : Bt mg) (GV : C8.Cal P w K mg base 2 "_law_givers" spWGiv []) (OF : C8.Cal P w K mg base 2 "_law_of" spOf []) : FnOk P w K mg base CX0 3 f fd ["_law_box_here", "_law_loans_so", "_law_keep_so"] spDw := by
  refine fokR F scDw (fun i B G vs h => by rw [h.1]; rfl) fun cdv A' outer s H E hr => ?_
  refine ⟨_, (pss_cons ((ps_asg (pe_lst pa_nil) (pg_name (i := 3) scDw.nd rfl (by first | exact Or.inl rfl | exact Or.inr rfl)))) (pss_cons ((ps_for PassesOwn.never rfl (pi_range1 (by rfl) T.range (pa_cons ((pe_callB call_len_seq (by rfl) T.len (by decide +kernel) (pa_cons ((pv 1)) pa_nil))) pa_nil)) (pg_name (i := 4) scDw.nd rfl (by first | exact Or.inl rfl | exact Or.inr rfl)) ((pss_cons ((ps_setLc (i := 5) (own := [("_law_i", 6)]) (g := gName 6) rfl scDw.nd rfl rfl rfl (pi_list (C8.pe_c GV hr (by omega) (by rfl) (pa_cons ((pv 1)) (pa_cons ((pv 2)) (pa_cons ((pv 4)) pa_nil))))) (blkOk_by (N := ["_law_box_here", "_law_loans_so", "_law_keep_so", "_law_found", "_law_j", "_law_free", "_law_i"]) (sc := defScope sDrawn) (by decide +kernel)) (fun _ _ _ _ _ => pg_name (i := 6) scDw.nd rfl (by first | exact Or.inl rfl | exact Or.inr rfl)) (fun _ _ _ _ _ => pts_one (pt_cmpR (kNin K) (pv 6) (pv 3) rfl)) (fun _ _ _ _ _ => (pv 6)))) (pss_one ((ps_expr (pe_bm PySem.F.plainAttrs_list PySem.F.slot_list_append PySem.F.type_list_append mt_append ((pv 3)) (pa_cons ((C8.pe_c OF hr (Nat.le_refl _) (by rfl) (pa_cons ((pv 0)) (pa_cons ((pe_op op_cat ((pe_op op_cat ((pv 5)) ((pv 5)))) (pe_lst (pa_cons (pe_non) pa_nil)))) pa_nil)))) pa_nil))))))))) (pss_one (ps_ret (pe_callTy call_tuple_of (by rfl) T.tuple (by decide +kernel) (pa_cons ((pv 3)) pa_nil)))))), fun i B H1 H G vs rt h kn hret => ?_⟩
  obtain ⟨rfl, hvl, hn, hc, hbox, hB⟩ := h
  refine q_seq (q_new mk_lst kn fun D gD hBD k2 => ?_)
  have eD := new_ex (o := .lst []) gD
  have nDA : D ≠ i.A := fun z => by
    obtain ⟨o, q⟩ := hbox.dm
    rw [← z, gD] at q
    cases q
  have nD : D ∉ [i.A] := by simpa using nDA
  have bx2 : BoxAt (L2.upd G D (.lst [])) i.A i.c := hbox.mono fun o => eD _ o
  have hvw : De (wo [i.A, D] (L2.upd G D (.lst []))) i.vl (dl i.ls) := by
    refine De.tp (fun b xs q => ?_) hvl (tO_dl _)
    have n1 : b ≠ D := ne_of_none q gD
    have n2 : b ≠ i.A := fun z => by
      rw [z] at q
      exact hbox.no_tup xs q
    rw [wo_out (by simp [n1, n2])]
    exact eD _ _ q
  have hln := ep_lenT (K := K) (σ := [some (.ref i.A), some i.vl, some (.int i.k), some (.ref D), none, none, none]) (ep_d (i := 1) rfl hvw)
  rw [List.length_map] at hln
  refine q_seq (q_for (α := Nat) (l := List.range i.ls.length) (ι := nt) (wo [i.A, D] (L2.upd G D (.lst []))) k2 wo_le (wi_range (da_cons hln da_nil) (by omega)) (fun j σ G' => ∃ x4 x5 x6 hd, σ = [some (.ref i.A), some i.vl, some (.int i.k), some (.ref D), x4, x5, x6] ∧ BoxAt G' i.A (i.c + (j : Nat)) ∧ Fr [i.A] G G' ∧ G' D = some (.lst (hd.map dnV)) ∧ hd.length = j ∧
      (∀ (t g : Nat), hd[t]? = some (some g) → g ∈ M.givers i.ls (some i.k) t) ∧ (∀ (t u g : Nat), hd[t]? = some (some g) → hd[u]? = some (some g) → t = u)) ⟨_, _, _, [], rfl, by simpa using bx2, Fr.of eD, upd_same, rfl, fun t g h => by simp at h, fun t u g h => by simp at h⟩ ?_ ?_ ?_)
  · rintro j σ G1 G2 ⟨x4, x5, x6, hd, e, h1, h2, h3, h4, h5, h6⟩ e'
    exact ⟨x4, x5, x6, hd, e, h1.mono fun o => e' _ o, frA_trans h2 (Fr.of e'), e' _ _ h3, h4, h5, h6⟩
  · rintro j t Gw σ H' G' hj eGw frs eG kn' ⟨x4, x5, x6, hd, rfl, bx, fr, hD', hl, hgv, hinj⟩
    obtain ⟨rfl, hjn⟩ := range_at hj
    have gA : Gw i.A = none := by
      obtain ⟨o, q⟩ := bx2.dm
      exact frs i.A _ (k2.le _ _ q) (wo_in List.mem_cons_self)
    have gwD : Gw D = none := frs D _ (k2.le _ _ upd_same) (wo_in (by simp))
    refine ⟨fun σ2 => σ2 = [some (.ref i.A), some i.vl, some (.int i.k), some (.ref D), some (.int ((t : Nat) : Int)), x5, x6], tg_name fun y hy => by rw [De.int' hy]; rfl, ?_⟩
    rintro σ2 rfl
    have hv' : De G' i.vl (dl i.ls) := (hvw.mono eGw).mono eG
    have hlg := givers_len (ls := i.ls) (k := some i.k) (t := t)
    refine q_seq (q_asg kn' (ep_lcF (l := M.givers i.ls (some i.k) t) (ι := nt) (fun g => !decide (some g ∈ hd)) nt (wi_list (ep_call (A := AWGiv) (R := fun i => is (dN (M.givers i.1 (some i.2.1) i.2.2))) (i.ls, i.k, t) (da_cons (ep_d (i := 1) rfl hv') (da_cons (ep_d (i := 2) rfl (.int _)) (da_cons (ep_d (i := 4) rfl (.int (t : Nat))) da_nil))) fun G vs e p => ⟨⟨hjn, by show i.ls.length ≤ 1000; omega⟩, by rw [List.append_nil]; exact p⟩)) (by omega) fun g G2 hg e2 => tg_name fun y hy => ?_) fun v5 H5 G5 k5 e5 ⟨⟨S, hS, gS⟩, hv5⟩ => ?_)
    · rw [De.int' hy]
      exact ⟨rfl, et_test' (ep_ninO (ep_d (i := 6) rfl (.int (g : Nat))) (ev_var (i := 3) rfl) (e2 _ _ hD')), fun _ => ep_d (i := 6) rfl (.int (g : Nat))⟩
    subst hS
    generalize hfr : (M.givers i.ls (some i.k) t).filter (fun g => !decide (some g ∈ hd)) = free at hv5
    have hfl : free.length ≤ 10 := by
      have := List.length_filter_le (fun g => !decide (some g ∈ hd)) (M.givers i.ls (some i.k) t)
      rw [hfr] at this
      omega
    have nSA : S ∉ [i.A] := fun z => by
      obtain ⟨o, q⟩ := bx.dm
      rw [List.mem_singleton.mp z, q] at gS
      cases gS
    have hvW : De (wo [i.A] G5) (.ref S) (.list (free.map nt)) := by
      obtain ⟨b, xs, eb, h1, h2⟩ := De.lst' hv5
      cases eb
      have hns : De G5 (.ref S) (dI (cI free)) := by rw [dI_cI]; exact hv5
      obtain ⟨b, ys, eb, h3, h4⟩ := De.lst' hns
      cases eb
      have := h4.ints'
      subst this
      have hz : De (wo [i.A] G5) (.ref S) (dI (cI free)) := .lst (by rw [wo_out nSA]; exact h3) (DeA.ints _)
      rw [dI_cI] at hz
      exact hz
    have hD5 := e5 _ _ hD'
    refine q_appendM (P := fun G6 v => (∃ d ∈ (free.map nt ++ free.map nt) ++ [.none], De G6 v d) ∧ BoxAt G6 i.A (i.c + (t : Nat) + 1) ∧ Fr [i.A] G5 G6) (xs := hd.map dnV) k5 hBD hD5 (by rw [List.length_map]; omega) (ev_var (i := 3) rfl) (fun G6 e6 => (em_draw (ds := (free.map nt ++ free.map nt) ++ [.none]) rfl (bx.mono fun o q => e6 _ _ (e5 _ _ q)) ⟨by omega, by omega⟩ hB ⟨by simp; omega, by simp; omega⟩ (ep_cat (ep_cat (ep_d (i := 5) rfl (hvW.mono (exW e6))) (ep_d (i := 5) rfl (hvW.mono (exW e6))) (by simp; omega)) (ep_lst (da_cons ep_non da_nil) (by decide)) (by simp; omega))).imp fun G7 v ⟨r1, r2, r3⟩ => ⟨r1, r2, frA_trans (Fr.of e6) r3⟩) (fun G6 v p => p.2.2 _ _ nD hD5) fun v H6 G6 k6 ⟨⟨d, hd1, hdv⟩, bx6, fr6⟩ k7 => ?_
    obtain ⟨o, rfl, ho⟩ : ∃ o : Option Nat, v = dnV o ∧ ∀ g, o = some g → g ∈ free := by
      rcases List.mem_append.mp hd1 with h | h
      · have h' : d ∈ free.map nt := by
          rcases List.mem_append.mp h with h | h <;> exact h
        obtain ⟨g, hg, rfl⟩ := List.mem_map.mp h'
        exact ⟨some g, De.int' hdv, fun g' e => by cases e; exact hg⟩
      · rw [List.mem_singleton.mp h] at hdv
        exact ⟨none, De.non' hdv, fun g' e => by cases e⟩
    have hfree : ∀ g, o = some g → g ∈ M.givers i.ls (some i.k) t ∧ some g ∉ hd := fun g e => by
      have := ho g e
      rw [← hfr, List.mem_filter] at this
      simpa using this
    have bx7 : BoxAt (L2.upd G6 D (.lst (hd.map dnV ++ [dnV o]))) i.A (i.c + (t : Nat) + 1) := bx6.mono fun o q => by rw [upd_ne nDA.symm]; exact q
    have fr7 : ∀ b o', b ∉ [i.A] → b ≠ D → G' b = some o' → (L2.upd G6 D (.lst (hd.map dnV ++ [dnV o]))) b = some o' := fun b o' n1 n2 q => by
      rw [upd_ne n2]
      exact fr6 b o' n1 (e5 _ _ q)
    refine ⟨_, k7, fun b o' q => ?_, _, _, _, hd ++ [o], rfl, bx7.le (by omega), fun b o' n q => ?_, ?_, ?_, fun u g hu => ?_, fun u u' g hu hu' => ?_⟩
    · have n1 : b ≠ i.A := fun z => by rw [z, gA] at q; cases q
      have n2 : b ≠ D := fun z => by rw [z, gwD] at q; cases q
      exact fr7 b o' (by simpa using n1) n2 (eG _ _ q)
    · exact fr7 b o' n (ne_of_none q gD) (fr b o' n q)
    · rw [upd_same, List.map_append]
      rfl
    · rw [List.length_append, hl]
      rfl
    · by_cases hlt : u < hd.length
      · rw [List.getElem?_append_left hlt] at hu
        exact hgv u g hu
      · rw [List.getElem?_append_right (by omega)] at hu
        have hu0 : u = t := by
          rcases Nat.lt_or_ge (u - hd.length) 1 with z | z
          · omega
          · rw [List.getElem?_eq_none (by simpa using z)] at hu
            cases hu
        subst hu0
        rw [hl, Nat.sub_self] at hu
        have e : o = some g := by simpa using hu
        exact (hfree g e).1
    · have key : ∀ u, (hd ++ [o])[u]? = some (some g) → (u < t ∧ hd[u]? = some (some g)) ∨ (u = t ∧ o = some g) := fun u hu => by
        by_cases hlt : u < hd.length
        · rw [List.getElem?_append_left hlt] at hu
          exact .inl ⟨by omega, hu⟩
        · rw [List.getElem?_append_right (by omega)] at hu
          have hu0 : u = t := by
            rcases Nat.lt_or_ge (u - hd.length) 1 with z | z
            · omega
            · rw [List.getElem?_eq_none (by simpa using z)] at hu
              cases hu
          subst hu0
          rw [hl, Nat.sub_self] at hu
          exact .inr ⟨rfl, by simpa using hu⟩
      rcases key u hu with ⟨a1, a2⟩ | ⟨a1, a2⟩ <;> rcases key u' hu' with ⟨b1, b2⟩ | ⟨b1, b2⟩
      · exact hinj u u' g a2 b2
      · exact absurd (List.mem_of_getElem? a2) (hfree g b2).2
      · exact absurd (List.mem_of_getElem? b2) (hfree g a2).2
      · omega
  · rintro σ Hz Gz Gw _ _ eG kz ⟨x4, x5, x6, hd, rfl, bx, fr, hD', hl, hgv, hinj⟩
    rw [List.length_range] at bx hl
    refine q_ret kz (ep_tupleOf (K := K) (ds := hd.map dn) (Ev.lst (ev_var (i := 3) rfl) hD' ?_)) fun v H6 G6 k6 e6 hv => hret v H6 G6 k6 ⟨⟨hd, hv, ⟨hl, hgv, hinj⟩⟩, (bx.mono fun o => e6 _ o).le (by omega), frA_trans fr (Fr.of e6)⟩
    clear hl hgv hinj hD'
    induction hd with
    | nil => exact .nil
    | cons o l ih =>
      refine .cons ?_ ih
      cases o with
      | none => exact .non
      | some g => exact .int _
end
end Q
/-! K75W11 -/
set_option Elab.async false
set_option linter.all false
set_option maxRecDepth 100000
set_option maxHeartbeats 4000000
/-! The law's box and cells. -/
namespace Q
open PySem PySem.Spec PyProof.Rows L2 Evl SlX
open M (Ln)
section
variable {σ : L2.St} {B H1 H G : Hp} {ta tb te ti : TE} {tr : TA} {K : PySem.W.Frag} {P : PV} {nx : L2.St → Hp → Prop} {rt : VK} {bk ct : L2.St → Hp → Prop}
theorem ep_abs {i : Int} (ha : EvP ta σ B (is (.int i))) : EvP (tCB (fun xs H Q => ∃ i, xs = [.int i] ∧ Q (.int (if i < 0 then -i else i)) H) (tCons ta tNil)) σ B (is (.int (if i < 0 then -i else i))) :=
  ep_cb1 ha mo_is fun x G e p => fun H1 e1 Q q => ⟨i, by rw [De.int' p], q _ H1 (Ex.refl _) (.int _)⟩
theorem ep_intB {b : Bool} (ha : EvP ta σ B (is (.bool b))) : EvP (tCB (fun xs H Q => (∃ i, xs = [.int i] ∧ Q (.int i) H) ∨ ∃ k, xs = [.bl k] ∧ Q (.int (if k then 1 else 0)) H) (tCons ta tNil)) σ B (is (.int (if b then 1 else 0))) :=
  ep_cb1 ha mo_is fun x G e p => fun H1 e1 Q q => .inr ⟨b, by rw [De.bl' p], q _ H1 (Ex.refl _) (.int _)⟩
theorem ep_lstF {ds : List PyData} (hr : EvA' tr σ B (fun G vs => DeA G vs ds)) (hl : ds.length ≤ 100000) : EvP (tLst tr) σ B (isF B (.list ds)) := fun H1 e Q q => hr H1 e _ fun vs H2 e2 p =>
  ⟨sz_of (by rw [p.len]; exact hl), fun a ha => q _ _ (e2.trans (Ex.new ha)) ⟨⟨a, rfl, fresh_back (e.trans e2) ha⟩, .lst (by rw [cut_new (fresh_back e2 ha), upd_same]) (DeA.mono (cut_mono (Ex.new ha)) p)⟩⟩
theorem ep_orLF {ns ms : List Int} (ha : EvP ta σ B (isF B (dI ns))) (hb : ns = [] → EvP tb σ B (isF B (dI ms))) : EvP (tOrT K ta tb) σ B (isF B (dI (if ns = [] then ms else ns))) := fun H1 e Q q => ha H1 e _ fun x H2 e2 ⟨p0, p⟩ => by
  obtain ⟨a, xs, rfl, h1, h2⟩ := De.lst' p
  have := h2.ints'
  subst this
  refine ⟨!(ns.map V.int).isEmpty, .inl ⟨_, sq_of (cut_le _ _ h1), rfl⟩, ?_⟩
  cases ns with
  | nil => exact hb rfl H2 (e.trans e2) Q fun v H3 e3 ⟨p3, p4⟩ => q v H3 (e2.trans e3) ⟨p3, mo_is _ _ _ (cut_later e2) p4⟩
  | cons y ys => exact q _ H2 e2 ⟨p0, p⟩
def cutI (ns : List Int) (lo hi : Option Int) : List Int := (ns.drop (HT.sIx ns.length 0 lo)).take (HT.sIx ns.length ns.length hi - HT.sIx ns.length 0 lo)
theorem cutV_ints (ns : List Int) (lo hi : Option Int) : cutV (ns.map V.int) lo hi = (cutI ns lo hi).map V.int := by
  unfold cutV cutI
  rw [List.length_map, List.map_take, List.map_drop]
theorem sqL_mono {G G' : Hp} {a : Addr} {xs : List V} (e : Ex G G') (h : SqL K G a xs) : SqL K G' a xs := by
  rcases h with h | h
  · rcases h with h | ⟨o, h⟩
    · exact .inl (.inl (e _ _ h))
    · exact .inl (.inr ⟨o, e _ _ h⟩)
  · exact .inr h
/-- a list of ints that is read alone -/
abbrev scr (K : PySem.W.Frag) (ns : List Int) : PV := fun G v => ∃ a, v = .ref a ∧ SqL K G a (ns.map V.int)
theorem mo_scr {ns : List Int} : Mo (scr K ns) := fun _ _ _ e ⟨a, h1, h2⟩ => ⟨a, h1, sqL_mono e h2⟩
theorem ep_sl1 {ns : List Int} {j : Int} (ha : EvP ta σ B (scr K ns)) (hb : EvP tb σ B (is (.int j))) : EvP (tSl (rSlL K) ta tNoPart (tPart tb)) σ B (is (dI (cutI ns none (some j)))) := fun H1 e Q q =>
  ha H1 e _ fun x H2 e2 ⟨a, ex, h1⟩ => hb H2 (e.trans e2) _ fun y H3 e3 p3 => by
    subst ex
    refine ⟨j, De.int' p3, a, _, rfl, sqL_mono e3 (sqL_mono cut_le h1), fun l hl => q _ _ (e2.trans (e3.trans (Ex.new hl))) ?_⟩
    rw [cutV_ints]
    exact .lst (by rw [cut_new (fresh_back (e2.trans e3) hl), upd_same]) (DeA.ints _)
theorem ep_sl2 {ns : List Int} {i j : Int} (ha : EvP ta σ B (scr K ns)) (hi : EvP ti σ B (is (.int i))) (hb : EvP tb σ B (is (.int j))) : EvP (tSl (rSlL K) ta (tPart ti) (tPart tb)) σ B (is (dI (cutI ns (some i) (some j)))) := fun H1 e Q q =>
  ha H1 e _ fun x H2 e2 ⟨a, ex, h1⟩ => hi H2 (e.trans e2) _ fun z H4 e4 p4 => ⟨i, De.int' p4, hb H4 (e.trans (e2.trans e4)) _ fun y H3 e3 p3 => by
    subst ex
    refine ⟨j, De.int' p3, a, _, rfl, sqL_mono (e4.trans e3) (sqL_mono cut_le h1), fun l hl => q _ _ (e2.trans (e4.trans (e3.trans (Ex.new hl)))) ?_⟩
    rw [cutV_ints]
    exact .lst (by rw [cut_new (fresh_back (e2.trans (e4.trans e3)) hl), upd_same]) (DeA.ints _)⟩
theorem cut_first (ns : List Int) : cutI ns none (some 3) = ns.take 3 := by
  unfold cutI
  rw [HT.sIx_none, show (3 : Int) = ((3 : Nat) : Int) from rfl, HT.sIx_nat, List.drop_zero, Nat.sub_zero]
  rcases Nat.lt_or_ge ns.length 3 with h | h
  · rw [List.take_of_length_le (by omega), List.take_of_length_le (by omega)]
  · rw [Nat.min_eq_left h]
theorem cut_rest (ns : List Int) : cutI ns (some 3) (some 63) = [] ∨ 3 ≤ ns.length := by
  rcases Nat.lt_or_ge ns.length 3 with h | h
  · left
    unfold cutI
    rw [show (3 : Int) = ((3 : Nat) : Int) from rfl, HT.sIx_nat, Nat.min_eq_right (by omega), List.drop_of_length_le (Nat.le_refl _), List.take_nil]
  · exact .inr h
theorem cutI_length (ns : List Int) (lo hi : Option Int) : (cutI ns lo hi).length ≤ ns.length := by
  unfold cutI
  rw [List.length_take, List.length_drop]
  omega
/-- list walked with its places -/
theorem wl_enumL {a : Addr} {xs : List V} {α : Type} {ι : α → PyData} {l : List α} (h : B a = some (.lst xs)) (hd : DeA B xs (l.map ι)) : Wl (Ite K a) B (l.zipIdx.map (enI ι)) := by
  have hl : (l.zipIdx.map (enI ι)).length = xs.length := by rw [hd.len]; simp
  unfold Wl
  rw [hl]
  refine ⟨fun i H hi e => ⟨xs, xs[i], sq_of (e _ _ h), List.getElem?_eq_getElem hi⟩, fun H e => ⟨xs, sq_of (e _ _ h), Nat.le_refl _⟩, ?_⟩
  rintro i H x H' hi e ⟨T, u, rfl, hT, rfl, hu⟩
  have hx := hu xs (sq_of (e _ _ h))
  obtain ⟨d, h1, h2⟩ := hd.of hx
  rw [List.getElem?_map] at h1
  obtain ⟨b, hb, rfl⟩ := Option.map_eq_some_iff.mp h1
  refine ⟨Ex.new hT, enI ι (b, i), ?_, ?_⟩
  · rw [List.getElem?_map, List.getElem?_zipIdx, hb]
    simp
  · exact .tup (by rw [cut_new hT, upd_same]) (.cons (.int _) (.cons (h2.mono (cut_base (e.trans (Ex.new hT)))) .nil))
theorem wi_enumL {tl : TE} {α : Type} {ι : α → PyData} {l : List α} (h : EvP tl σ B (is (.list (l.map ι)))) : EvI (iEnum K (tCons tl tNil)) σ B (l.zipIdx.map (enI ι)) := fun H1 e R r =>
  (da_cons h da_nil) H1 e _ fun vs H2 e2 p => by
    obtain ⟨v, rfl, p1⟩ := p.one
    obtain ⟨a, xs, rfl, h1, h2⟩ := De.lst' p1
    exact ⟨a, xs, rfl, sq_of (cut_le _ _ h1), r _ H2 e2 (wl_enumL h1 h2)⟩
/-- b[i] = e -/
theorem q_setV {D : Addr} {xs : List V} {j : Int} {k : Nat} (mo : Mo P) (kn : Kn B H1 H G) (hB : B D = none) (hG : G D = some (.lst xs)) (h : EvP te σ G P) (ho : Ev ta σ G (.ref D)) (hi : Ev ti σ G (.int j)) (hj : ixN xs.length j = some k)
    (ck : ∀ v H' G', Kn B H1 H' G' → Ex G G' → P G' v → Kn B H1 (L2.upd H' D (.lst (xs.set k v))) (L2.upd G' D (.lst (xs.set k v))) → nx σ (L2.upd H' D (.lst (xs.set k v)))) : tAsg te (gSub ta ti rSetL) ⟨nx, rt, bk, ct⟩ σ H :=
  h H kn.le _ fun v H2 e2 p => ho H2 (kn.le.trans e2) _ fun H3 e3 => hi H3 (kn.le.trans (e2.trans e3)) _ fun H4 e4 => by
    have e := e2.trans (e3.trans e4)
    obtain ⟨k2, e5⟩ := kn.pure e
    exact ⟨D, xs, j, k, rfl, rfl, e _ _ (kn.le _ _ hG), hj, ck v H4 _ k2 e5 (mo _ _ _ (cut_mono (e3.trans e4)) p) (k2.upd hB (e5 _ _ hG))⟩
end
section
variable {P : Program} {w : World} {K : PySem.W.Frag} {mg : Str → Option Value} {base : Heap}
structure BxI where
  ns : List Int
  k : Nat
  v : V
def ABx (i : BxI) : Hp → Hp → List V → Prop := fun B G vs => vs = [i.v, .int (i.k : Nat)] ∧ (i.k < i.ns.length ∧ i.ns.length ≤ 3) ∧ De G i.v (dI i.ns)
def spBx : Sp := spR ABx fun i B G G' v => ∃ A, v = .ref A ∧ G A = none ∧ BoxAt G' A 0 ∧ Ex G G'
abbrev dBx (a : Fg → Addr) : Df := ⟨a, "_law_box", "_law_box", sBox, []⟩
theorem scBx : FnScope ["_law_script", "_law_k", "_law_cell"] ["_law_script", "_law_k"] (defScope sBox) := ⟨rfl, rfl, rfl, by decide +kernel, rfl, by decide +kernel, by decide +kernel⟩
theorem ok_Bx {a : Fg → Addr} {f : Addr} {fd : FuncData} (F : At K (dBx a) f fd) (T : Bt mg) : FnOk P w K mg base CX0 1 f fd ["_law_script", "_law_k"] spBx := by
  refine fokR F scBx (fun i B G vs h => by rw [h.1]; rfl) fun cdv A' outer s H E hr => ?_
  refine ⟨_, (pss_cons ((ps_asg (pe_ifExp (pt_cmpR op_lt (pv 1) (pe_callB call_len_seq (by rfl) T.len (by decide +kernel) (pa_cons ((pv 0)) pa_nil)) rfl) (kIxL K (pv 0) (pv 1)) pe_int) (pg_name (i := 2) scBx.nd rfl (by first | exact Or.inl rfl | exact Or.inr rfl)))) (pss_one (ps_ret (pe_lst (pa_cons ((pe_op op_mul ((pe_callB call_abs (by rfl) T.abs (by decide +kernel) (pa_cons ((pv 2)) pa_nil))) ((pe_callTy call_int1 (by rfl) T.int (by decide +kernel) (pa_cons ((pe_cmpR op_ge ((pe_callB call_abs (by rfl) T.abs (by decide +kernel) (pa_cons ((pv 2)) pa_nil))) ((pe_op op_pow (pe_int) (pe_int))) rfl)) pa_nil))))) (pa_cons ((pe_op op_add ((pe_op op_add ((pe_op op_mod ((pe_callTy call_int1 (by rfl) T.int (by decide +kernel) (pa_cons ((pv 2)) pa_nil))) (pe_int))) ((pe_op op_mul (pe_int) ((pv 1)))))) (pe_int))) (pa_cons (pe_int) pa_nil))))))), fun i B H1 H G vs rt h kn hret => ?_⟩
  obtain ⟨rfl, ⟨hk, hl⟩, hv⟩ := h
  have hlen := ep_lenL (K := K) (σ := [some i.v, some (.int (i.k : Nat)), none]) (ep_d (i := 0) rfl hv)
  rw [List.length_map] at hlen
  have hat : (i.ns.map PyData.int)[i.k]? = some (.int (i.ns.getD i.k 0)) := by
    rw [List.getElem?_map, List.getElem?_eq_getElem hk, List.getD_eq_getElem?_getD, List.getElem?_eq_getElem hk]
    rfl
  refine q_seq (q_asg kn (ep_if (b := true) mo_is (by
    have := et_test' (ep_lt (ep_d (i := 1) rfl (.int (i.k : Nat))) hlen)
    rw [decide_eq_true (by omega)] at this
    exact this) (fun _ => ep_ixL (j := i.k) (ep_d (i := 0) rfl hv) (ep_d (i := 1) rfl (.int (i.k : Nat))) rfl hat) (fun z => by cases z)) fun v1 H2 G2 k2 e2 hv1 => ?_)
  cases De.int' hv1
  generalize i.ns.getD i.k 0 = z
  have hz := ep_abs (ep_d (σ := [some i.v, some (.int (i.k : Nat)), some (V.int z)]) (B := G2) (i := 2) rfl (.int z))
  refine q_ret k2 (ep_lstF (ds := [.int _, .int (z % 2305843009213693951 + 39373 * (i.k : Nat) + 227), .int 0]) (da_cons (ep_IC (C := CMul) (g := fun i j => i * j) hz (ep_intB (ep_ge hz (ep_IC (C := CPow) (g := fun i j => i ^ j.toNat) (i := 10) (j := 18) ep_int ep_int ⟨by decide, by decide, by decide⟩))) (.inr ?_)) (da_cons (ep_add (ep_add (ep_IC (C := fun _ j => 0 < j) (g := fun i j => i % j) (ep_int1 (ep_d (i := 2) rfl (.int z))) ep_int (by decide)) (ep_IC (C := CMul) (g := fun i j => i * j) ep_int (ep_d (i := 1) rfl (.int (i.k : Nat))) (.inl (by omega)))) ep_int) (da_cons ep_int da_nil))) (by show 3 ≤ 100000; decide)) fun v H3 G3 k3 e3 ⟨⟨A, hA, gA⟩, hd⟩ => hret v H3 G3 k3 ⟨A, hA, ?_, ?_, e2.trans e3⟩
  · split <;> split <;> (constructor <;> decide)
  · exact fresh_back e2 gA
  · rw [hA] at hd
    obtain ⟨b, xs, eb, h1, h2⟩ := De.lst' hd
    cases eb
    have h3 := (show DeA G3 xs ([_, _, _].map PyData.int) from h2).ints'
    rw [h3] at h1
    refine ⟨_, _, _, h1, ?_, ?_, by decide, by decide⟩
    · by_cases hz : z < 0
      · rw [if_pos hz]
        split
        · omega
        · omega
      · rw [if_neg hz]
        split
        · omega
        · omega
    · omega
def ACe (K : PySem.W.Frag) (i : List Int) : PVs := fun B vs => i.length ≤ 63 ∧ ∃ a, vs = [.ref a, .int 3] ∧ SqL K B a (i.map V.int)
def spCe (K : PySem.W.Frag) : Sp := spF (ACe K) fun i G v => ∃ ms : List Int, De G v (dI ms) ∧ 1 ≤ ms.length ∧ ms.length ≤ 3
abbrev dCe (a : Fg → Addr) : Df := ⟨a, "_law_cells", "_law_cells", sCells, []⟩
theorem scCe : FnScope ["_law_script", "_law_top_all", "_law_cells_here", "_law_k", "_law_cell", "_law_at_so"] ["_law_script", "_law_top_all"] (defScope sCells) := ⟨rfl, rfl, rfl, by decide +kernel, rfl, by decide +kernel, by decide +kernel⟩
theorem ok_Ce {a : Fg → Addr} {f : Addr} {fd : FuncData} (F : At K (dCe a) f fd) (T : Bt mg) : FnOk P w K mg base CX0 1 f fd ["_law_script", "_law_top_all"] (spCe K) := by
  refine fok F scCe (fun i B vs h => by obtain ⟨_, a, rfl, _⟩ := h; rfl) fun cdv A' outer s H E hr => ?_
  refine ⟨_, (pss_cons ((ps_asg (pe_orT (pe_callTy call_list_of (by rfl) T.list (by decide +kernel) (pa_cons (pe_slice sl_list (pv 0) po_none (po_some (pv 1))) pa_nil)) (pe_one (pe_lst (pa_cons (pe_int) pa_nil)))) (pg_name (i := 2) scCe.nd rfl (by first | exact Or.inl rfl | exact Or.inr rfl)))) (pss_cons ((ps_for PassesOwn.never rfl (pi_enum (by rfl) T.enumerate (pa_cons (pe_slice sl_list (pv 0) (po_some (pv 1)) (po_some pe_int)) pa_nil)) (pg_tup (n := 2) rfl (pgs_cons (pg_name (i := 3) scCe.nd rfl (by first | exact Or.inl rfl | exact Or.inr rfl)) (pgs_cons (pg_name (i := 4) scCe.nd rfl (by first | exact Or.inl rfl | exact Or.inr rfl)) pgs_nil))) ((pss_cons ((ps_asg ((pe_op op_mod ((pe_callTy call_int1 (by rfl) T.int (by decide +kernel) (pa_cons ((pv 3)) pa_nil))) ((pv 1)))) (pg_name (i := 5) scCe.nd rfl (by first | exact Or.inl rfl | exact Or.inr rfl)))) (pss_one (ps_asg (pe_op op_add (kIxL K (pv 2) (pv 5)) ((pe_op op_mul ((pv 4)) ((pe_op op_add ((pv 3)) (pe_int)))))) (pg_sub (pv 2) (pv 5) set_list))))))) (pss_one (ps_ret (pv 2))))), fun i B vs h => ?_⟩
  obtain ⟨hl, a0, rfl, h1⟩ := h
  have hsc : ∀ {σ : L2.St} {G : Hp}, Ex B G → σ[0]? = some (some (.ref a0)) → EvP (tVar 0) σ G (scr K i) := fun {σ} {G} e hs => ep_var (P := scr K i) hs ⟨a0, rfl, sqL_mono e h1⟩ mo_scr
  refine ret_of fun H1 nx rt bk ct kn hret => ?_
  refine q_seq (q_asg kn (ep_orLF (ms := [0]) (ep_listF (ep_sl1 (j := 3) (hsc (Ex.refl _) rfl) (ep_d (i := 1) rfl (.int _)))) fun _ => ep_lstF (da_cons ep_int da_nil) (by show 1 ≤ 100000; decide)) fun v1 H2 G2 k2 e2 ⟨⟨D, hD, hBD⟩, hv1⟩ => ?_)
  subst hD
  rw [cut_first] at hv1
  generalize hms : (if i.take 3 = [] then [0] else i.take 3) = ms at hv1
  have hml : 1 ≤ ms.length ∧ ms.length ≤ 3 ∧ (3 ≤ i.length → ms.length = 3) := by
    rw [← hms]
    split
    · rename_i h0
      refine ⟨by decide, by decide, fun q => ?_⟩
      have hz : (i.take 3).length = 0 := by rw [h0]; rfl
      rw [List.length_take] at hz
      omega
    · rename_i h0
      have := List.length_pos_iff.mpr h0
      rw [List.length_take] at this ⊢
      omega
  have hG2 : G2 D = some (.lst (ms.map V.int)) := by
    obtain ⟨b, xs, eb, h3, h4⟩ := De.lst' hv1
    cases eb
    have := h4.ints'
    subst this
    exact h3
  have eBW : Ex B (wo [D] G2) := fun b o q => by
    have n : b ≠ D := ne_of_none q hBD
    rw [wo_out (by simpa using n)]
    exact e2 _ _ q
  refine q_seq (q_for (α := Int × Nat) (l := (cutI i (some 3) (some 63)).zipIdx) (ι := enI PyData.int) (wo [D] G2) k2 wo_le (wi_enumL (ep_sl2 (i := 3) (j := 63) (hsc eBW rfl) (ep_d (i := 1) rfl (.int _)) ep_int)) (fun j σ G' => ∃ x3 x4 x5 ns, σ = [some (.ref a0), some (.int 3), some (.ref D), x3, x4, x5] ∧ G' D = some (.lst (ns.map V.int)) ∧ ns.length = ms.length) ⟨_, _, _, ms, rfl, hG2, rfl⟩ ?_ ?_ ?_)
  · rintro j σ G1 G3 ⟨x3, x4, x5, ns, e, h3, h4⟩ e'
    exact ⟨x3, x4, x5, ns, e, e' _ _ h3, h4⟩
  · rintro j ⟨x, t⟩ Gw σ H' G' hj eGw frs eG kn' ⟨x3, x4, x5, ns, rfl, h3, h4⟩
    have h3l : 3 ≤ i.length := by
      rcases cut_rest i with z | z
      · rw [z] at hj
        simp at hj
      · exact z
    have hns : ns.length = 3 := by rw [h4]; exact hml.2.2 h3l
    have htl : t < 63 := by
      have hz := (List.mem_of_getElem? hj)
      have hz2 := List.mem_zipIdx hz
      have hcl := cutI_length i (some 3) (some 63)
      omega
    have gwD : Gw D = none := frs D _ (k2.le _ _ hG2) (wo_in List.mem_cons_self)
    refine ⟨fun σ2 => σ2 = [some (.ref a0), some (.int 3), some (.ref D), some (.int ((t : Nat) : Int)), some (.int x), x5], tg_pair fun y z dy dz => by rw [De.int' dy, De.int' dz]; rfl, ?_⟩
    rintro σ2 rfl
    have h2' : De G' (.int 3) (.int 3) := .int _
    refine q_seq (q_asg kn' (ep_IC (C := fun _ j => 0 < j) (g := fun i j => i % j) (ep_int1 (ep_d (i := 3) rfl (.int (t : Nat)))) (ep_d (i := 1) rfl h2') (by decide)) fun v3 H3 G3 k3 e3 hv3 => ?_)
    cases De.int' hv3
    obtain ⟨m, hm, hm3⟩ : ∃ m : Nat, ((t : Nat) : Int) % 3 = (m : Int) ∧ m < 3 := ⟨t % 3, by omega, by omega⟩
    rw [hm]
    have hat : (ns.map PyData.int)[m]? = some (.int (ns.getD m 0)) := by
      rw [List.getElem?_map, List.getElem?_eq_getElem (by omega), List.getD_eq_getElem?_getD, List.getElem?_eq_getElem (by omega)]
      rfl
    have h3' := e3 _ _ h3
    refine q_setV (D := D) (xs := ns.map V.int) (j := (m : Nat)) (k := m) mo_is k3 hBD h3' (ep_add (ep_ixL (j := m) (Ev.lst (ev_var (i := 2) rfl) h3' (DeA.ints ns)) (ep_d (i := 5) rfl (.int (m : Nat))) rfl hat) (ep_IC (C := CMul) (g := fun i j => i * j) (ep_d (i := 4) rfl (.int x)) (ep_add (ep_d (i := 3) rfl (.int (t : Nat))) ep_int) (.inr (by omega)))) (ev_var (i := 2) rfl) (ev_var (i := 5) rfl) (ixN_nat (by rw [List.length_map]; omega)) fun v4 H4 G4 k4 e4 hv4 k5 => ⟨_, k5, fun b o q => ?_, _, _, _, ns.set m (ns.getD m 0 + x * ((t : Nat) + 2)), rfl, ?_, by rw [List.length_set]; exact h4⟩
    · rw [upd_ne (ne_of_none q gwD)]
      exact e4 _ _ (e3 _ _ (eG _ _ q))
    · rw [upd_same, De.int' hv4, List.map_set]
  · rintro σ Hz Gz Gw _ _ eG kz ⟨x3, x4, x5, ns, rfl, h3, h4⟩
    exact q_ret kz (Ev.lst (ev_var (i := 2) rfl) h3 (DeA.ints ns)) fun v H' G' k' e' hv => hret v H' G' k' ⟨ns, hv, by omega, by omega⟩
end
end Q
/-! K75W12 -/
set_option Elab.async false
set_option linter.all false
set_option maxRecDepth 100000
set_option maxHeartbeats 4000000
/-! The law's sameness, and what it holds against by hand. -/
namespace Q
open PySem PySem.Spec PyProof.Rows L2 Evl SlX
open M (Ln)
section
variable {σ : L2.St} {B H1 H G : Hp} {ta tb tc te : TE} {K : PySem.W.Frag}
theorem wl_zipI {a b : Addr} {ns : List Int} (ha : B a = some (.lst (ns.map V.int))) (hb : B b = some (.lst (ns.map V.int))) : Wl (Itz K a b) B (ns.map fun n => .tuple [.int n, .int n]) := by
  unfold Wl
  rw [List.length_map]
  refine ⟨fun i H hi e => ⟨_, _, .int ns[i], .int ns[i], sq_of (e _ _ ha), sq_of (e _ _ hb), by rw [List.getElem?_map, List.getElem?_eq_getElem hi]; rfl, by rw [List.getElem?_map, List.getElem?_eq_getElem hi]; rfl⟩, fun H e => ⟨_, _, sq_of (e _ _ ha), sq_of (e _ _ hb), .inl (by rw [List.length_map]; exact Nat.le_refl _)⟩, ?_⟩
  rintro i H x H' hi e ⟨T, u, v, rfl, hT, rfl, hu, hv⟩
  have h1 := hu _ (sq_of (e _ _ ha))
  have h2 := hv _ (sq_of (e _ _ hb))
  rw [List.getElem?_map, List.getElem?_eq_getElem hi] at h1 h2
  cases h1
  cases h2
  refine ⟨Ex.new hT, .tuple [.int ns[i], .int ns[i]], by rw [List.getElem?_map, List.getElem?_eq_getElem hi]; rfl, .tup (by rw [cut_new hT, upd_same]) (.cons (.int _) (.cons (.int _) .nil))⟩
theorem wi_zipI {ns : List Int} (ha : EvP ta σ B (is (dI ns))) (hb : EvP tb σ B (is (dI ns))) : EvI (iZip K (tCons ta (tCons tb tNil))) σ B (ns.map fun n => .tuple [.int n, .int n]) := fun H1 e R r =>
  (da_cons ha (da_cons hb da_nil)) H1 e _ fun vs H2 e2 p => by
    obtain ⟨x, y, rfl, p1, p2⟩ := p.two
    obtain ⟨a, xs, rfl, h1, h2⟩ := De.lst' p1
    obtain ⟨b, ys, rfl, h3, h4⟩ := De.lst' p2
    have := h2.ints'
    subst this
    have := h4.ints'
    subst this
    exact ⟨a, b, _, _, rfl, sq_of (cut_le _ _ h1), sq_of (cut_le _ _ h3), r _ H2 e2 (wl_zipI h1 h3)⟩
theorem ep_neB {a b : Bool} (ha : EvP ta σ B (is (.bool a))) (hb : EvP tb σ B (is (.bool b))) : EvP (tOp rNe ta tb) σ B (is (.bool (!decide (a = b)))) := ep_neS ha hb fun G x y h1 h2 => by
  rw [De.bl' h1, De.bl' h2]
  refine ⟨rfl, ?_⟩
  by_cases h : a = b
  · rw [h]; simp
  · rw [decide_eq_false h, decide_eq_false fun q => h (V.bl.inj q)]
end
section
variable {P : Program} {w : World} {K : PySem.W.Frag} {mg : Str → Option Value} {base : Heap}
theorem pe_c0 {X : Cx} {k j : Nat} {x : Str} {sp : Sp} {dvs : List V} {p pos : Pos} (c : C8.Cal X.prog X.w X.K X.mg X.base k x sp dvs) (hr : Room j X.A) (hk : k ≤ j) (hg : Gl X x) (hdb : (x == ("__debug__" : Str)) = false := by decide) : PE X (.Call (.Name x p) [] [] pos) (tCall sp dvs E0 tNil) := by
  obtain ⟨f, fd, ps, ds, F, hm, kp, b, d⟩ := c.ex
  exact pe_call0 F (hr.mono hk) hg hm kp b d pass0 hdb
def samD : Nat → PyData → Prop
  | 0, d => ∃ n, d = .int n
  | _ + 1, d => ∃ ns : List Int, d = dI ns ∧ ns.length ≤ 1000
def spSame (n : Nat) : Sp := spF (ι := PyData) (fun d B vs => samD n d ∧ DeA B vs [d, d]) fun _ => is (.bool true)
abbrev dSame (a : Fg → Addr) : Df := ⟨a, "_law_same", "_law_same", sSame, []⟩
theorem scSame : FnScope ["_law_found", "_law_due", "_law_mine", "_law_its"] ["_law_found", "_law_due"] (defScope sSame) := ⟨rfl, rfl, rfl, by decide +kernel, rfl, by decide +kernel, by decide +kernel⟩
theorem ok_Same0 {a : Fg → Addr} {f : Addr} {fd : FuncData} (F : At K (dSame a) f fd) (T : Bt mg) : FnOk P w K mg base CX0 1 f fd ["_law_found", "_law_due"] (spSame 0) := by
  refine fok F scSame (fun i B vs h => h.2.len) fun cdv A' outer s H E hr => ?_
  refine ⟨_, (pss_cons (ps_if (pt_val (pe_callB call_isiT (by rfl) T.isinstance (by decide +kernel) (pa_cons ((pv 1)) (pa_cons (pe_tup (pa_cons (pe_bltn (v := .ty "list") (by rfl) T.list (by decide +kernel) rfl) (pa_cons (pe_bltn (v := .ty "tuple") (by rfl) T.tuple (by decide +kernel) rfl) pa_nil))) pa_nil)))) (pss_cons (ps_if (PW.pt (pw_or (pt_cmpR op_ne (pe_callB call_isi (by rfl) T.isinstance (by decide +kernel) (pa_cons ((pv 0)) (pa_cons (pe_bltn (v := .ty "list") (by rfl) T.list (by decide +kernel) rfl) pa_nil))) (pe_callB call_isi (by rfl) T.isinstance (by decide +kernel) (pa_cons ((pv 1)) (pa_cons (pe_bltn (v := .ty "list") (by rfl) T.list (by decide +kernel) rfl) pa_nil))) rfl) (pw_or1 (pt_cmpR op_ne (pe_callB call_isi (by rfl) T.isinstance (by decide +kernel) (pa_cons ((pv 0)) (pa_cons (pe_bltn (v := .ty "tuple") (by rfl) T.tuple (by decide +kernel) rfl) pa_nil))) (pe_callB call_isi (by rfl) T.isinstance (by decide +kernel) (pa_cons ((pv 1)) (pa_cons (pe_bltn (v := .ty "tuple") (by rfl) T.tuple (by decide +kernel) rfl) pa_nil))) rfl)))) (pss_one (ps_ret pe_bl)) pss_nil) (pss_one (ps_ret pe_no))) pss_nil) (pss_cons (ps_if (PW.pt (pw_or (pt_cmp (pc_isN (pv 1))) (pw_or1 (pt_val (pe_callB call_isiT (by rfl) T.isinstance (by decide +kernel) (pa_cons ((pv 1)) (pa_cons (pe_tup (pa_cons (pe_bltn (v := .ty "bool") (by rfl) T.bool (by decide +kernel) rfl) (pa_cons (pe_bltn (v := .ty "str") (by rfl) T.str (by decide +kernel) rfl) pa_nil))) pa_nil))))))) (pss_one (ps_ret pe_no)) pss_nil) (pss_one (ps_ret (pe_and (pe_callB call_isi (by rfl) T.isinstance (by decide +kernel) (pa_cons ((pv 0)) (pa_cons (pe_bltn (v := .ty "int") (by rfl) T.int (by decide +kernel) rfl) pa_nil))) (pe_and (pe_not (pe_callB call_isi (by rfl) T.isinstance (by decide +kernel) (pa_cons ((pv 0)) (pa_cons (pe_bltn (v := .ty "bool") (by rfl) T.bool (by decide +kernel) rfl) pa_nil)))) (pe_one (pe_cmpR op_eq ((pv 0)) ((pv 1)) rfl)))))))), fun d B vs h => ?_⟩
  obtain ⟨⟨n, rfl⟩, hd⟩ := h
  obtain ⟨vf, vd, rfl, h1, h2⟩ := hd.two
  refine sq_if mo_is moF (et_B' (ep_isiT (ep_d (i := 1) rfl h2) (.inl rfl) (.inr (.inl rfl)))) (fun hb => by exfalso; simp [isA, tyN] at hb) fun hb => ?_
  refine sq_if mo_is moF (et_or (et_B' (ep_isN (ep_d (i := 1) rfl h2))) fun _ => et_B' (ep_isiT (ep_d (i := 1) rfl h2) (.inr (.inr (.inr (.inl rfl)))) (.inr (.inr (.inr (.inr rfl)))))) (fun hb => by exfalso; simp [isA, tyN, noneB] at hb) fun hb => st_ret ?_
  have := ep_andV (ep_isi (K := K) (T := "int") (ep_d (σ := start ["_law_found", "_law_due", "_law_mine", "_law_its"] [vf, vd]) (i := 0) rfl h1) (.inr (.inr (.inl rfl)))) fun _ => ep_andV (ep_notV (ep_isi (K := K) (T := "bool") (ep_d (i := 0) rfl h1) (.inr (.inr (.inr (.inl rfl)))))) fun _ => ep_eqI (ep_d (i := 0) rfl h1) (ep_d (i := 1) rfl h2)
  have e : (isA (.int n) "int" && (!isA (.int n) "bool" && decide (n = n))) = true := by simp [isA, tyN]
  rw [e] at this
  exact this
theorem ok_Same1 {a : Fg → Addr} {f : Addr} {fd : FuncData} (F : At K (dSame a) f fd) (T : Bt mg) (hm : mg "_law_same" = some (.ref f)) : FnOk P w K mg base CX0 2 f fd ["_law_found", "_law_due"] (spSame 1) := by
  have ih := ok_Same0 (P := P) (w := w) (base := base) F T
  have hb : Binds K fd ["_law_found", "_law_due"] [] := F.bindsN fun _ _ _ _ _ _ us hl => match us, hl with | [_, _], _ => rfl
  have C := cal F ih hm hb
  refine fok F scSame (fun i B vs h => h.2.len) fun cdv A' outer s H E hr => ?_
  refine ⟨_, (pss_cons (ps_if (pt_val (pe_callB call_isiT (by rfl) T.isinstance (by decide +kernel) (pa_cons ((pv 1)) (pa_cons (pe_tup (pa_cons (pe_bltn (v := .ty "list") (by rfl) T.list (by decide +kernel) rfl) (pa_cons (pe_bltn (v := .ty "tuple") (by rfl) T.tuple (by decide +kernel) rfl) pa_nil))) pa_nil)))) (pss_cons (ps_if (PW.pt (pw_or (pt_cmpR op_ne (pe_callB call_isi (by rfl) T.isinstance (by decide +kernel) (pa_cons ((pv 0)) (pa_cons (pe_bltn (v := .ty "list") (by rfl) T.list (by decide +kernel) rfl) pa_nil))) (pe_callB call_isi (by rfl) T.isinstance (by decide +kernel) (pa_cons ((pv 1)) (pa_cons (pe_bltn (v := .ty "list") (by rfl) T.list (by decide +kernel) rfl) pa_nil))) rfl) (pw_or1 (pt_cmpR op_ne (pe_callB call_isi (by rfl) T.isinstance (by decide +kernel) (pa_cons ((pv 0)) (pa_cons (pe_bltn (v := .ty "tuple") (by rfl) T.tuple (by decide +kernel) rfl) pa_nil))) (pe_callB call_isi (by rfl) T.isinstance (by decide +kernel) (pa_cons ((pv 1)) (pa_cons (pe_bltn (v := .ty "tuple") (by rfl) T.tuple (by decide +kernel) rfl) pa_nil))) rfl)))) (pss_one (ps_ret pe_bl)) pss_nil) (pss_one (ps_ret (pe_and (pe_cmpR op_eq ((pe_callB call_len_seq (by rfl) T.len (by decide +kernel) (pa_cons ((pv 0)) pa_nil))) ((pe_callB call_len_seq (by rfl) T.len (by decide +kernel) (pa_cons ((pv 1)) pa_nil))) rfl) (pe_one (pe_callB (kAll K) (by rfl) T.all (by decide +kernel) (pa_cons ((pe_lc (own := [("_law_mine", 2), ("_law_its", 3)]) (g := (gTup K 2 (gCons (gName 2) (gCons (gName 3) gNil)))) (tt := tYes) rfl scSame.nd (pi_zip (by rfl) T.zip (pa_cons ((pv 0)) (pa_cons ((pv 1)) pa_nil))) (blkOk_by (N := ["_law_found", "_law_due", "_law_mine", "_law_its"]) (sc := defScope sSame) (by decide +kernel)) (fun _ _ _ _ _ => pg_tup (n := 2) rfl (pgs_cons (pg_name (i := 2) scSame.nd rfl (by first | exact Or.inl rfl | exact Or.inr rfl)) (pgs_cons (pg_name (i := 3) scSame.nd rfl (by first | exact Or.inl rfl | exact Or.inr rfl)) pgs_nil))) (fun _ _ _ _ _ => pts_nil) (fun _ _ _ _ _ => (C8.pe_c C hr (Nat.le_refl _) (by rfl) (pa_cons ((pv 2)) (pa_cons ((pv 3)) pa_nil)))))) pa_nil))))))) pss_nil) (pss_cons (ps_if (PW.pt (pw_or (pt_cmp (pc_isN (pv 1))) (pw_or1 (pt_val (pe_callB call_isiT (by rfl) T.isinstance (by decide +kernel) (pa_cons ((pv 1)) (pa_cons (pe_tup (pa_cons (pe_bltn (v := .ty "bool") (by rfl) T.bool (by decide +kernel) rfl) (pa_cons (pe_bltn (v := .ty "str") (by rfl) T.str (by decide +kernel) rfl) pa_nil))) pa_nil))))))) (pss_one (ps_ret pe_no)) pss_nil) (pss_one (ps_ret pe_no)))), fun d B vs h => ?_⟩
  obtain ⟨⟨ns, rfl, hl⟩, hd⟩ := h
  obtain ⟨vf, vd, rfl, h1, h2⟩ := hd.two
  refine sq_if mo_is moF (et_B' (ep_isiT (ep_d (i := 1) rfl h2) (.inl rfl) (.inr (.inl rfl)))) (fun _ => ?_) fun hb => by exfalso; simp [isA, tyN] at hb
  refine sq_if mo_is moF (et_or (et_test' (ep_neB (ep_isi (ep_d (i := 0) rfl h1) (.inl rfl)) (ep_isi (ep_d (i := 1) rfl h2) (.inl rfl)))) fun _ => et_test' (ep_neB (ep_isi (ep_d (i := 0) rfl h1) (.inr (.inl rfl))) (ep_isi (ep_d (i := 1) rfl h2) (.inr (.inl rfl))))) (fun hb => by exfalso; simp at hb) fun hb => st_ret ?_
  have hlc := ep_lcm (B := B) (σ := start ["_law_found", "_law_due", "_law_mine", "_law_its"] [vf, vd]) (te := tCall (spSame 0) [] E0 (tCons (tVar 2) (tCons (tVar 3) tNil))) (vs := [2, 3]) (g := gTup K 2 (gCons (gName 2) (gCons (gName 3) gNil))) (l := ns) (ι := fun n => .tuple [.int n, .int n]) (fun _ => .bool true) (wi_zipI (K := K) (ep_d (i := 0) rfl h1) (ep_d (i := 1) rfl h2)) (by omega) fun m G hm e => tg_pair fun x y dx dy => ⟨rfl, ep_call (ι := PyData) (A := fun d B vs => samD 0 d ∧ DeA B vs [d, d]) (R := fun _ => is (.bool true)) (.int m) (da_cons (ep_d (i := 2) rfl dx) (da_cons (ep_d (i := 3) rfl dy) da_nil)) fun G vs e p => ⟨⟨m, rfl⟩, by rw [List.append_nil]; exact p⟩⟩
  have e : PyData.list (ns.map fun _ => .bool true) = .list ((ns.map fun _ => true).map .bool) := by rw [List.map_map]; rfl
  rw [e] at hlc
  have := ep_andV (ep_eqI (ep_lenL (K := K) (ep_d (i := 0) rfl h1)) (ep_lenL (K := K) (ep_d (i := 1) rfl h2))) fun _ => ep_all (K := K) hlc
  have e2 : (decide ((((ns.map PyData.int).length : Nat) : Int) = (((ns.map PyData.int).length : Nat) : Int)) && (ns.map fun _ => true).all id) = true := by simp
  rw [e2] at this
  exact this
def spBh : Sp := spF (ι := Unit) (fun _ B vs => vs = []) fun _ => is (.bool true)
abbrev dBh (a : Fg → Addr) : Df := ⟨a, "_law_by_hand_right", "_law_by_hand_right", sByHand, []⟩
theorem scBh : FnScope ["_law_line_here", "_law_told", "_law_own"] [] (defScope sByHand) := ⟨rfl, rfl, rfl, by decide +kernel, rfl, by decide +kernel, by decide +kernel⟩
theorem ok_Bh {a : Fg → Addr} {f : Addr} {fd : FuncData} (F : At K (dBh a) f fd) (T : Bt mg) (FW : C8.Cal P w K mg base 6 "fewest_lifeless" spFew []) (SM : C8.Cal P w K mg base 2 "_law_same" (spSame 1) []) : FnOk P w K mg base CX0 7 f fd [] spBh := by
  refine fok F scBh (fun i B vs h => by rw [h]; rfl) fun cdv A' outer s H E hr => ?_
  refine ⟨_, (pss_cons ((ps_asg (pe_tup (pa_cons (pe_tup (pa_cons (pe_int) (pa_cons (pe_int) pa_nil))) (pa_cons (pe_tup (pa_cons (pe_int) (pa_cons (pe_int) pa_nil))) (pa_cons (pe_tup (pa_cons (pe_int) (pa_cons (pe_int) pa_nil))) pa_nil)))) (pg_name (i := 0) scBh.nd rfl (by first | exact Or.inl rfl | exact Or.inr rfl)))) (pss_cons ((ps_setLc (i := 1) (own := [("_law_own", 2)]) (g := gName 2) (tt := tYes) rfl scBh.nd rfl rfl rfl (pi_tup (pe_tup (pa_cons (pe_tup (pa_cons (pe_int) (pa_cons (pe_tup pa_nil) pa_nil))) (pa_cons (pe_tup (pa_cons (pe_int) (pa_cons (pe_tup pa_nil) pa_nil))) (pa_cons (pe_tup (pa_cons (pe_non) (pa_cons (pe_tup (pa_cons (pe_int) pa_nil)) pa_nil))) (pa_cons (pe_tup (pa_cons (pe_non) (pa_cons (pe_tup (pa_cons (pe_int) pa_nil)) pa_nil))) (pa_cons (pe_tup (pa_cons (pe_int) (pa_cons (pe_tup (pa_cons (pe_int) (pa_cons (pe_int) pa_nil))) pa_nil))) pa_nil))))))) (blkOk_by (N := ["_law_line_here", "_law_told", "_law_own"]) (sc := defScope sByHand) (by decide +kernel)) (fun _ _ _ _ _ => pg_name (i := 2) scBh.nd rfl (by first | exact Or.inl rfl | exact Or.inr rfl)) (fun _ _ _ _ _ => pts_nil) (fun _ _ _ _ _ => (C8.pe_c FW hr (Nat.le_refl _) (by rfl) (pa_cons ((pv 0)) (pa_cons (pe_int) (pa_cons ((pv 2)) pa_nil))))))) (pss_one (ps_ret (C8.pe_c SM hr (by omega) (by rfl) (pa_cons ((pv 1)) (pa_cons (pe_lst (pa_cons (pe_int) (pa_cons (pe_int) (pa_cons (pe_int) (pa_cons (pe_int) (pa_cons (pe_int) pa_nil)))))) pa_nil))))))), fun i B vs h => ?_⟩
  subst h
  have t2 : ∀ n : Nat, n ≤ 100 → n ≤ 100000 := fun n h => by omega
  refine sq_asg (ep_tup (ds := ([(0, 1), (2, 3), (3, 4)] : List Ln).map pr) (da_cons (ep_tup (da_cons ep_int (da_cons ep_int da_nil)) (t2 2 (by decide))) (da_cons (ep_tup (da_cons ep_int (da_cons ep_int da_nil)) (t2 2 (by decide))) (da_cons (ep_tup (da_cons ep_int (da_cons ep_int da_nil)) (t2 2 (by decide))) da_nil))) (t2 3 (by decide))) fun v1 G1 e1 h1 => ?_
  refine sq_asg (ep_lcm (l := ([(some 1, []), (some 2, []), (none, [2]), (none, [3]), (some 1, [1, 3])] : List M.Fr)) (ι := dfar) (fun f => nt (M.U [(0, 1), (2, 3), (3, 4)] (some 5) f)) (wi_tup (ep_tup
    (da_cons (ep_tup (da_cons ep_int (da_cons (ep_tup da_nil (t2 0 (by decide))) da_nil)) (t2 2 (by decide)))
    (da_cons (ep_tup (da_cons ep_int (da_cons (ep_tup da_nil (t2 0 (by decide))) da_nil)) (t2 2 (by decide)))
    (da_cons (ep_tup (da_cons ep_non (da_cons (ep_tup (da_cons ep_int da_nil) (t2 1 (by decide))) da_nil)) (t2 2 (by decide)))
    (da_cons (ep_tup (da_cons ep_non (da_cons (ep_tup (da_cons ep_int da_nil) (t2 1 (by decide))) da_nil)) (t2 2 (by decide)))
    (da_cons (ep_tup (da_cons ep_int (da_cons (ep_tup (da_cons ep_int (da_cons ep_int da_nil)) (t2 2 (by decide))) da_nil)) (t2 2 (by decide))) da_nil))))) (t2 5 (by decide)))) (by decide) fun f G hf e => tg_name fun y hy => ⟨rfl, ep_call (A := AF 1000) (R := fun i => is (nt (M.U i.1 i.2.1 i.2.2))) ([(0, 1), (2, 3), (3, 4)], some 5, f) (da_cons (ep_d (i := 0) rfl (h1.mono e)) (da_cons ep_int (da_cons (ep_d (i := 2) rfl hy) da_nil))) fun G vs e p => ⟨⟨by show 3 ≤ 1000; decide, ?_⟩, by rw [List.append_nil]; exact p⟩⟩) fun v2 G2 e2 h2 => ?_
  · simp only [List.mem_cons, List.not_mem_nil, or_false] at hf
    rcases hf with rfl | rfl | rfl | rfl | rfl <;> decide
  have e : PyData.list (([(some 1, []), (some 2, []), (none, [2]), (none, [3]), (some 1, [1, 3])] : List M.Fr).map fun f => nt (M.U [(0, 1), (2, 3), (3, 4)] (some 5) f)) = dI [2, 1, 2, 2, 3] := by
    have e1 : M.U [(0, 1), (2, 3), (3, 4)] (some 5) (some 1, []) = 2 := by decide +kernel
    have e2 : M.U [(0, 1), (2, 3), (3, 4)] (some 5) (some 2, []) = 1 := by decide +kernel
    have e3 : M.U [(0, 1), (2, 3), (3, 4)] (some 5) (none, [2]) = 2 := by decide +kernel
    have e4 : M.U [(0, 1), (2, 3), (3, 4)] (some 5) (none, [3]) = 2 := by decide +kernel
    have e5 : M.U [(0, 1), (2, 3), (3, 4)] (some 5) (some 1, [1, 3]) = 3 := by decide +kernel
    simp only [List.map_cons, List.map_nil, e1, e2, e3, e4, e5]
    rfl
  have h2' : De G2 v2 (dI [2, 1, 2, 2, 3]) := by rw [← e]; exact h2
  exact st_ret (ep_call (ι := PyData) (A := fun d B vs => samD 1 d ∧ DeA B vs [d, d]) (R := fun _ => is (.bool true)) (dI [2, 1, 2, 2, 3]) (da_cons (ep_d (i := 1) rfl h2') (da_cons (ep_lst (da_cons ep_int (da_cons ep_int (da_cons ep_int (da_cons ep_int (da_cons ep_int da_nil))))) (t2 5 (by decide))) da_nil)) fun G vs e p => ⟨⟨_, rfl, by decide⟩, by rw [List.append_nil]; exact p⟩)
end
end Q
/-! K75W13 -/
set_option Elab.async false
set_option linter.all false
set_option maxRecDepth 100000
set_option maxHeartbeats 4000000
/-! The law's lanes. -/
namespace Q
open PySem PySem.Spec PyProof.Rows L2 Evl SlX
open M (Ln)
section
variable {σ : L2.St} {B H1 H G : Hp} {ta tb te : TE} {tr : TA} {K : PySem.W.Frag} {P : PV} {E : XK} {dvs : List V}
theorem ep_callX {ι : Type} {A : ι → PVs} {R : ι → PV} {R' : PV} {Ps : PVs} (h : EvA' tr σ B Ps) (hA : ∀ G vs, Ex B G → Ps G vs → ∃ i, A i G (vs ++ dvs) ∧ ∀ G v, R i G v → R' G v) : EvP (tCall (spF A R) dvs E tr) σ B R' :=
  Co.bindA (r := fun vs H Q => spF A R (vs ++ dvs) H Q E) h fun vs G e p => fun H1 e1 Q q => by
    obtain ⟨i, hi, hR⟩ := hA G vs e p
    exact ⟨i, G, e1, hi, fun v H2 e2 r => q v H2 e2 (hR _ _ r)⟩
theorem da_lastE {α : Type} {f : α → PyData} {C : α → Prop} (ha : EvP ta σ B (fun G v => ∃ s, De G v (f s) ∧ C s)) : EvA' (tCons ta tNil) σ B (fun G vs => ∃ s, DeA G vs [f s] ∧ C s) :=
  ea_cons' ha (fun _ _ _ e ⟨s, h, c⟩ => ⟨s, h.mono e, c⟩) (fun G e => da_nil) fun G v vs _ ⟨s, p, c⟩ ps => ⟨s, .cons p ps, c⟩
theorem da_consE {α : Type} {d : PyData} {f : α → List PyData} {C : α → Prop} (ha : EvP ta σ B (is d)) (hr : EvA' tr σ B (fun G vs => ∃ s, DeA G vs (f s) ∧ C s)) : EvA' (tCons ta tr) σ B (fun G vs => ∃ s, DeA G vs (d :: f s) ∧ C s) :=
  ea_cons' ha mo_is (fun G e => hr.grow (fun _ _ _ e ⟨s, h, c⟩ => ⟨s, h.mono e, c⟩) e) fun G v vs _ p ⟨s, ps, c⟩ => ⟨s, .cons p ps, c⟩
theorem em_callV {ι : Type} {Aι : ι → Hp → Hp → List V → Prop} {R : ι → Hp → Hp → Hp → V → Prop} {vs : List V} (i : ι) (htr : ∀ (H : Hp) (Q : List V → Hp → Prop), Q vs H → tr σ H Q) (hA : Aι i B G (vs ++ dvs)) : Em (tCall (spR Aι R) dvs E tr) σ B G (R i B G) := fun H1 H kn Q q =>
  htr _ _ ⟨i, B, H1, G, kn, hA, fun v H' G' k' r => q v H' G' k' r⟩
theorem wl_mono {J : It} {B B' : Hp} {l : List PyData} (h : Wl J B l) (e : Ex B B') : Wl J B' l := Walk.mono h (fun H q => e.trans q) fun i H x H' hi q ⟨y1, d, y2, y3⟩ => ⟨y1, d, y2, y3.mono (cut_grow e)⟩
/-- a comprehension whose element may draw -/
theorem em_lcI {α : Type} {wi : TI} {g : TG} {vs : List Nat} {l : List α} {ι : α → PyData} {A : Addr} {c m : Int} {El : PV} (hw : EvI wi σ (wo [A] G) (l.map ι)) (hB : B A = none) (hbox : BoxAt G A c) (hn : l.length ≤ 40000) (hE : ∀ G1 G2 v, Tp G1 G2 → El G1 v → El G2 v)
    (hs : ∀ (i : Nat) (a : α) (G1 : Hp), l[i]? = some a → Ex (wo [A] G) G1 → BoxAt G1 A (c + m * i) → TgP g (ι a) (wipe σ vs) G1 fun σ2 => wipe σ2 vs = wipe σ vs ∧ Em te σ2 B G1 (fun G2 v => El G2 v ∧ BoxAt G2 A (c + m * i + m) ∧ Fr [A] G1 G2)) :
    Em (tLc wi g tYes te vs) σ B G (fun G' v => ∃ D xs, v = .ref D ∧ G D = none ∧ G' D = some (.lst xs) ∧ BoxAt G' A (c + m * l.length) ∧ Fr [A] G G' ∧ xs.length = l.length ∧ ∀ x ∈ xs, El G' x) := fun H1 H kn Q q => hw H (wo_le.trans kn.le) _ fun J H2 e2 wl => by
  obtain ⟨k2, e3⟩ := kn.pure e2
  obtain ⟨o0, hA0⟩ := hbox.dm
  have wl2 := wl_mono wl (cut_wo (kn.le _ _ hA0))
  have bx2 := hbox.mono fun o => e3 _ o
  have w2 : Ex (wo [A] G) (wo [A] (cut G H H2)) := exW e3
  generalize cut G H H2 = G2 at k2 e3 wl2 bx2 w2
  refine em_lcW k2 (wo_le (Ds := [A])) wl2 hn (fun i G1 xs => BoxAt G1 A (c + m * i) ∧ Fr [A] G2 G1 ∧ xs.length = i ∧ ∀ x ∈ xs, El G1 x) ⟨by simpa using bx2, Fr.refl, rfl, fun x hx => by cases hx⟩ ?_ (fun i G1 xs h => h.2.2.1) ?_ ?_
  · rintro i G1 G3 xs D hD hL e ⟨h1, h2, h3, h4⟩
    obtain ⟨o, hA⟩ := bx2.dm
    have nA : A ≠ D := fun z => by rw [z, hD] at hA; cases hA
    have tp : Tp G1 G3 := fun b ys hb => e b _ (fun z => by
      rw [z] at hb
      rcases hL with hL | ⟨zs, hL⟩
      · rw [hL] at hb; cases hb
      · rw [hL] at hb; cases hb) hb
    exact ⟨h1.mono fun o => e A o nA, fun b o n hb => e b o (ne_of_none hb hD) (h2 b o n hb), h3, fun x hx => hE _ _ _ tp (h4 x hx)⟩
  · rintro i a D G1 xs ha hD ex hkD hD1 ⟨h1, h2, h3, h4⟩
    obtain ⟨o, hA⟩ := bx2.dm
    have nA : D ∉ [A] := fun z => by rw [List.mem_singleton.mp z, hA] at hD; cases hD
    intro v hv H0 e0 Q0 q0
    refine hs i a G1 ha (w2.trans ex) h1 v hv H0 e0 Q0 fun σ2 ⟨m1, m2⟩ => q0 σ2 ⟨m1, m2.imp fun G4 w ⟨r1, r2, r3⟩ => ⟨fun b o hb => ?_, r3 _ _ nA hD1, ?_, frA_trans h2 r3, by rw [List.length_append, h3]; rfl, fun x hx => ?_⟩⟩
    · have n : b ∉ [A] := fun z => by rw [wo_in z] at hb; cases hb
      exact r3 _ _ n (ex _ _ hb)
    · have e : c + m * ((i + 1 : Nat) : Int) = c + m * i + m := by
        rw [show ((i + 1 : Nat) : Int) = (i : Int) + 1 by omega, Int.mul_add, Int.mul_one]
        omega
      rw [e]
      exact r2
    · rcases List.mem_append.mp hx with hx | hx
      · exact hE _ _ _ (h1.tp r3) (h4 x hx)
      · rw [List.mem_singleton.mp hx]
        exact r1
  · rintro D xs H' G' kn' hD _ hD' ⟨h1, h2, h3, h4⟩
    exact q _ H' G' kn' ⟨D, xs, rfl, fresh_back e3 hD, hD', h1, frA_trans (Fr.of e3) h2, h3, h4⟩
theorem ep_geM {C : Int → Prop} {j : Int} (ha : EvP ta σ B (fun _ v => ∃ m, v = .int m ∧ C m)) (hb : EvP tb σ B (is (.int j))) (h : ∀ m, C m → j ≤ m) : EvP (tOp (rI0 fun i j => .bl (decide (j ≤ i))) ta tb) σ B (is (.bool true)) :=
  ep_op ha (fun _ _ _ _ h => h) hb mo_is fun G x y e ⟨m, p1, c⟩ p2 => fun H1 e1 Q q => ⟨m, j, p1, De.int' p2, by
    show Q (.bl (decide (j ≤ m))) H1
    rw [decide_eq_true (h m c)]
    exact q _ H1 (Ex.refl _) (.bl _)⟩
end
/-- values that read as handings -/
theorem hds_of {G : Hp} {C : List (Option Nat) → Prop} : ∀ {xs : List V}, (∀ x ∈ xs, ∃ hd, De G x (dh hd) ∧ C hd) → ∃ hds : List (List (Option Nat)), DeA G xs (hds.map dh) ∧ hds.length = xs.length ∧ ∀ hd ∈ hds, C hd
  | [], _ => ⟨[], .nil, rfl, fun hd h => by cases h⟩
  | x :: xs, h => by
    obtain ⟨hd, h1, h2⟩ := h x List.mem_cons_self
    obtain ⟨hds, h3, h4, h5⟩ := hds_of fun y hy => h y (List.mem_cons_of_mem _ hy)
    refine ⟨hd :: hds, .cons h1 h3, by rw [List.length_cons, List.length_cons, h4], fun z hz => ?_⟩
    rcases List.mem_cons.mp hz with rfl | hz
    · exact h2
    · exact h5 z hz
theorem bestH_ok {ls : List Ln} {keep : Option Int} {far : M.Fr} : (M.bestH ls keep far).length = ls.length ∧ ∀ t g : Nat, (M.bestH ls keep far)[t]? = some (some g) → g < ls.length := by
  refine ⟨by simp [M.bestH], fun t g h => ?_⟩
  unfold M.bestH at h
  rw [List.getElem?_map] at h
  obtain ⟨u, hu, e⟩ := Option.map_eq_some_iff.mp h
  have := (M.gr_pair (M.find_gr.mp e)).1
  exact (M.mem_living.mp this).1
section
variable {σ : L2.St} {G : Hp} {t1 t2 t3 : TE} {K : PySem.W.Frag} {E : XK} {ls : List Ln} {keep : Option Int} {far : M.Fr} {hd : List (Option Nat)}
theorem ep_few (h1 : EvP t1 σ G (is (dl ls))) (h2 : EvP t2 σ G (is (dk keep))) (h3 : EvP t3 σ G (is (dfar far))) (hl : ls.length ≤ 1000) (hf : far.2.length ≤ 1000) : EvP (tCall spFew [] E (tCons t1 (tCons t2 (tCons t3 tNil)))) σ G (is (nt (M.U ls keep far))) :=
  ep_call (A := AF 1000) (R := fun i => is (nt (M.U i.1 i.2.1 i.2.2))) (ls, keep, far) (da_cons h1 (da_cons h2 (da_cons h3 da_nil))) fun G vs e p => ⟨⟨hl, hf⟩, by rw [List.append_nil]; exact p⟩
theorem ep_lenLif (h1 : EvP t1 σ G (is (dl ls))) (h2 : EvP t2 σ G (is (dfar far))) (h3 : EvP t3 σ G (is (dh hd))) (hl : ls.length ≤ 1000) (hf : far.2.length ≤ 1000) (hd1 : hd.length = ls.length) (hd2 : ∀ t g : Nat, hd[t]? = some (some g) → g < ls.length) :
    EvP (tCB (fun xs H Q => ∃ p ys, xs = [.ref p] ∧ (SqL K H p ys ∨ SqT K H p ys) ∧ Q (.int ys.length) H) (tCons (tCall spLifeless [] E (tCons t1 (tCons t2 (tCons t3 tNil)))) tNil)) σ G (is (nt (M.lifl ls far hd).length)) := by
  have := ep_lenL (K := K) (ep_call (A := AH) (R := fun i => is (dN (M.lifl i.1 i.2.1 i.2.2))) (E := E) (dvs := []) (ls, far, hd) (da_cons h1 (da_cons h2 (da_cons h3 da_nil))) fun G vs e p => ⟨⟨⟨hl, hf⟩, hd1, hd2⟩, by rw [List.append_nil]; exact p⟩)
  rw [List.length_map] at this
  exact this
end
theorem HandOk.lt {ls : List Ln} {keep : Option Int} {hd : List (Option Nat)} (h : M.HandOk ls keep hd) : ∀ t g : Nat, hd[t]? = some (some g) → g < ls.length := fun t g e => (M.mem_givers.mp (h.ok t g e)).1
structure LrI where
  A : Addr
  c : Int
  ls : List Ln
  n : Nat
  k : Int
  far : M.Fr
  vl : V
  vf : V
def LrOk (i : LrI) : Prop := LnOk i.ls i.n ∧ (1 ≤ i.n ∧ i.n ≤ 10) ∧ (0 ≤ i.k ∧ i.k ≤ 40) ∧ FarOk i.far
section
variable {P : Program} {w : World} {K : PySem.W.Frag} {mg : Str → Option Value} {base : Heap}
def ALr (i : LrI) : Hp → Hp → List V → Prop := fun B G vs => vs = [.ref i.A, i.vl, .int i.k, i.vf] ∧ LrOk i ∧ (De G i.vl (dl i.ls) ∧ De G i.vf (dfar i.far)) ∧ (0 ≤ i.c ∧ i.c ≤ 700000) ∧ BoxAt G i.A i.c ∧ B i.A = none
def spLr : Sp := spR ALr fun i B G G' v => v = .bl true ∧ BoxAt G' i.A (i.c + 60) ∧ Fr [i.A] G G'
abbrev dLr (a : Fg → Addr) : Df := ⟨a, "_law_lanes_right", "_law_lanes_right", sLanes, []⟩
theorem scLr : FnScope ["_law_box_here", "_law_line_here", "_law_span_so", "_law_far_so", "_law_goal", "_law_lanes", "_law_some", "_law_best", "_law_deep", "_law_again", "_law_own"] ["_law_box_here", "_law_line_here", "_law_span_so", "_law_far_so"] (defScope sLanes) := ⟨rfl, rfl, rfl, by decide +kernel, rfl, by decide +kernel, by decide +kernel⟩
theorem ok_Lr {a : Fg → Addr} {f : Addr} {fd : FuncData} (F : At K (dLr a) f fd) (T : Bt mg) (FW : C8.Cal P w K mg base 6 "fewest_lifeless" spFew []) (EX : C8.Cal P w K mg base 4 "_law_excess" spWExc []) (CR : C8.Cal P w K mg base 7 "crowd" spCrowd []) (HO : C8.Cal P w K mg base 7 "handing_of" spHandingOf []) (DW : C8.Cal P w K mg base 3 "_law_drawn" spDw []) (LF : C8.Cal P w K mg base 7 "lifeless" spLifeless []) (BH : C8.Cal P w K mg base 6 "best_handing" spBestH []) : FnOk P w K mg base CX0 8 f fd ["_law_box_here", "_law_line_here", "_law_span_so", "_law_far_so"] spLr := by
  refine fokR F scLr (fun i B G vs h => by rw [h.1]; rfl) fun cdv A' outer s H E hr => ?_
  refine ⟨_, (pss_cons ((ps_asg ((C8.pe_c FW hr (by omega) (by rfl) (pa_cons ((pv 1)) (pa_cons ((pv 2)) (pa_cons ((pv 3)) pa_nil))))) (pg_name (i := 4) scLr.nd rfl (by first | exact Or.inl rfl | exact Or.inr rfl)))) (pss_cons (ps_if (pt_cmpR op_ne (C8.pe_c EX hr (by omega) (by rfl) (pa_cons ((pv 1)) (pa_cons ((pv 2)) (pa_cons ((pv 3)) (pa_cons ((C8.pe_c CR hr (by omega) (by rfl) (pa_cons ((pv 1)) (pa_cons ((pv 2)) (pa_cons ((pv 3)) pa_nil))))) pa_nil))))) (pv 4) rfl) (pss_one (ps_ret pe_bl)) pss_nil) (pss_cons ((ps_setLc (i := 5) (own := [("_law_deep", 8)]) (g := gName 8) (tt := tYes) rfl scLr.nd rfl rfl rfl (pi_tup (pe_tup (pa_cons (pe_int) (pa_cons (pe_int) (pa_cons (pe_int) (pa_cons (pe_non) pa_nil)))))) (blkOk_by (N := ["_law_box_here", "_law_line_here", "_law_span_so", "_law_far_so", "_law_goal", "_law_lanes", "_law_some", "_law_best", "_law_deep", "_law_again", "_law_own"]) (sc := defScope sLanes) (by decide +kernel)) (fun _ _ _ _ _ => pg_name (i := 8) scLr.nd rfl (by first | exact Or.inl rfl | exact Or.inr rfl)) (fun _ _ _ _ _ => pts_nil) (fun _ _ _ _ _ => (C8.pe_c HO hr (by omega) (by rfl) (pa_cons ((pv 1)) (pa_cons ((pv 2)) (pa_cons ((pv 8)) pa_nil))))))) (pss_cons ((ps_asg ((pe_op op_cat ((pv 5)) ((pe_lc (own := [("_law_again", 9)]) (g := gName 9) (tt := tYes) rfl scLr.nd (pi_range1 (by rfl) T.range (pa_cons (pe_int) pa_nil)) (blkOk_by (N := ["_law_box_here", "_law_line_here", "_law_span_so", "_law_far_so", "_law_goal", "_law_lanes", "_law_some", "_law_best", "_law_deep", "_law_again", "_law_own"]) (sc := defScope sLanes) (by decide +kernel)) (fun _ _ _ _ _ => pg_name (i := 9) scLr.nd rfl (by first | exact Or.inl rfl | exact Or.inr rfl)) (fun _ _ _ _ _ => pts_nil) (fun _ _ _ _ _ => (C8.pe_c DW hr (by omega) (by rfl) (pa_cons ((pv 0)) (pa_cons ((pv 1)) (pa_cons ((pv 2)) pa_nil))))))))) (pg_name (i := 5) scLr.nd rfl (by first | exact Or.inl rfl | exact Or.inr rfl)))) (pss_cons ((ps_setLc (i := 6) (own := [("_law_own", 10)]) (g := gName 10) (tt := tYes) rfl scLr.nd rfl rfl rfl (pi_list (pv 5)) (blkOk_by (N := ["_law_box_here", "_law_line_here", "_law_span_so", "_law_far_so", "_law_goal", "_law_lanes", "_law_some", "_law_best", "_law_deep", "_law_again", "_law_own"]) (sc := defScope sLanes) (by decide +kernel)) (fun _ _ _ _ _ => pg_name (i := 10) scLr.nd rfl (by first | exact Or.inl rfl | exact Or.inr rfl)) (fun _ _ _ _ _ => pts_nil) (fun _ _ _ _ _ => (pe_callB (kLen K) (by rfl) T.len (by decide +kernel) (pa_cons ((C8.pe_c LF hr (by omega) (by rfl) (pa_cons ((pv 1)) (pa_cons ((pv 3)) (pa_cons ((pv 10)) pa_nil))))) pa_nil))))) (pss_cons ((ps_asg ((C8.pe_c BH hr (by omega) (by rfl) (pa_cons ((pv 1)) (pa_cons ((pv 2)) (pa_cons ((pv 3)) pa_nil))))) (pg_name (i := 7) scLr.nd rfl (by first | exact Or.inl rfl | exact Or.inr rfl)))) (pss_one (ps_ret (pe_and (pe_cmpR op_ge ((pe_callB (cr_min rfl) (by rfl) T.min (by decide +kernel) (pa_cons ((pv 6)) pa_nil))) ((pv 4)) rfl) (pe_one (pe_cmpR op_eq ((pe_callB call_len_seq (by rfl) T.len (by decide +kernel) (pa_cons ((C8.pe_c LF hr (by omega) (by rfl) (pa_cons ((pv 1)) (pa_cons ((pv 3)) (pa_cons ((pv 7)) pa_nil))))) pa_nil))) ((pv 4)) rfl))))))))))), fun i B H1 H G vs rt h kn hret => ?_⟩
  obtain ⟨rfl, ⟨⟨hln, hV, hb23⟩, hn, hk, hfar⟩, ⟨hvl, hvf⟩, hc, hbox, hB⟩ := h
  have hl10 : i.ls.length ≤ 10 := by rw [hln]; exact hn.2
  have hf4 : i.far.2.length ≤ 1000 := by have := hfar.2.2.1; omega
  have hlW : De (wo [i.A] G) i.vl (dl i.ls) := hvl.tp hbox.tpw (tO_dl _)
  have hfW : De (wo [i.A] G) i.vf (dfar i.far) := hvf.tp hbox.tpw (tO_dfar _)
  refine q_seq (q_asg kn (ep_few (keep := some i.k) (ep_d (i := 1) rfl hvl) (ep_d (i := 2) rfl (.int _)) (ep_d (i := 3) rfl hvf) (by omega) hf4) fun v1 H2 G2 k2 e2 hv1 => ?_)
  cases De.int' hv1
  refine q_seq (q_if k2 (b := false) ?_ (fun z => by cases z) fun _ H3 G3 k3 e3 => ?_)
  · have h := et_test' (ep_neI (ep_callX (E := E0) (dvs := []) (A := AWExc) (R := fun i => is (.int (M.U i.1 (some i.2.1) i.2.2.1 : Nat))) (R' := is (.int (M.U i.ls (some i.k) i.far : Nat)))
      (da_consE (ep_d (σ := [some (.ref i.A), some i.vl, some (.int i.k), some i.vf, some (.int (M.U i.ls (some i.k) i.far : Nat)), none, none, none, none, none, none]) (i := 1) rfl (hvl.mono e2)) (da_consE (ep_d (i := 2) rfl (.int _)) (da_consE (ep_d (i := 3) rfl (hvf.mono e2)) (da_lastE (f := fun S : List Nat => .tuple (S.map nt)) (C := fun S => M.Crowd (M.living i.ls (some i.k) i.far) (M.ed i.ls) i.ls.length S)
        (ep_call (E := E0) (dvs := []) (A := AF 10) (R := fun i => fun G v => ∃ S : List Nat, De G v (.tuple (S.map nt)) ∧ M.Crowd (M.living i.1 i.2.1 i.2.2) (M.ed i.1) i.1.length S) (i.ls, some i.k, i.far) (da_cons (ep_d (i := 1) rfl (hvl.mono e2)) (da_cons (ep_d (i := 2) rfl (.int _)) (da_cons (ep_d (i := 3) rfl (hvf.mono e2)) da_nil))) fun G vs e p => ⟨⟨hl10, hf4⟩, by rw [List.append_nil]; exact p⟩)))))
      fun G' vs e ⟨S, p, c⟩ => ⟨(i.ls, i.k, i.far, S), ⟨⟨hl10, hf4, M.conv hV, c⟩, by rw [List.append_nil]; exact p⟩, fun _ _ h => h⟩) (ep_d (i := 4) rfl (.int _)))
    have e : (!decide (((M.U i.ls (some i.k) i.far : Nat) : Int) = (M.U i.ls (some i.k) i.far : Nat))) = false := by simp
    rw [e] at h
    exact h
  have bx3 : BoxAt G3 i.A i.c := hbox.mono fun o q => e3 _ _ (e2 _ _ q)
  have w3 : Ex (wo [i.A] G) (wo [i.A] G3) := exW (e2.trans e3)
  have hE : ∀ G1 G2 v, Tp G1 G2 → (∃ hd, De G1 v (dh hd) ∧ M.HandOk i.ls (some i.k) hd) → ∃ hd, De G2 v (dh hd) ∧ M.HandOk i.ls (some i.k) hd := fun G1 G2 v t ⟨hd, h1, h2⟩ => ⟨hd, h1.tp t (tO_dh hd), h2⟩
  refine q_seq (q_asgM k3 (em_lcI (m := 0) (A := i.A) (c := i.c) (l := ([some 0, some 1, some 2, none] : List (Option Int))) (ι := dk) (El := fun G v => ∃ hd, De G v (dh hd) ∧ M.HandOk i.ls (some i.k) hd) (wi_tup (ep_tup (da_cons ep_int (da_cons ep_int (da_cons ep_int (da_cons ep_non da_nil)))) (by show 4 ≤ 100000; decide))) hB bx3 (by decide) hE
    fun j d G4 hd ex bx => tg_name fun y hy => ⟨rfl, (em_of (ep_call (A := AThings) (R := fun i G v => ∃ F th made, Told i F th made ∧ De G v (.tuple ((M.hdOf i.1.length F).map dn))) (i.ls, i.k, d) (da_cons (ep_d (i := 1) rfl ((hlW.mono w3).mono ex)) (da_cons (ep_d (i := 2) rfl (.int _)) (da_cons (ep_d (i := 8) rfl hy) da_nil))) fun G vs e p => ⟨⟨hV, hl10, ⟨hk.1, by show i.k ≤ 1000; omega⟩, fun l h => by have := hb23 l h; omega, fun d' e => ?_⟩, by rw [List.append_nil]; exact p⟩)).imp fun G5 v ⟨e5, F, th, made, told, hv⟩ => ⟨⟨_, hv, told.1.handOk⟩, by simpa using bx.mono fun o => e5 _ o, Fr.of e5⟩⟩) fun v4 H4 G4 k4 ⟨D, xs, eD, gD, hD4, bx4, fr4, hxl, hx⟩ => ?_)
  · have e' : d = some d' := e
    subst e'
    have hm := List.mem_of_getElem? hd
    simp only [List.mem_cons, Option.some.injEq, List.not_mem_nil, or_false, reduceCtorEq] at hm
    omega
  subst eD
  have nD : D ∉ [i.A] := fun z => by
    obtain ⟨o, q⟩ := bx3.dm
    rw [← List.mem_singleton.mp z, gD] at q
    cases q
  have w4 := w3.trans (frW fr4)
  have bx4' : BoxAt G4 i.A i.c := by simpa using bx4
  refine q_seq (q_asgM k4 (P := fun G' v => ∃ D2 xs2, v = .ref D2 ∧ G' D2 = some (.lst xs2) ∧ xs2.length = 10 ∧ (∀ x ∈ xs2, ∃ hd, De G' x (dh hd) ∧ M.HandOk i.ls (some i.k) hd) ∧ BoxAt G' i.A (i.c + 60) ∧ Fr [i.A] G4 G') ?_ fun v5 H5 G5 k5 ⟨D2, xs2, eD2, hD2, hl2, hx2, bx5, fr5⟩ => ?_)
  · intro H1' H' kn' Q q
    refine ⟨.ref D, rfl, em_lcI (m := 10) (A := i.A) (c := i.c) (l := List.range 6) (ι := nt) (El := fun G v => ∃ hd, De G v (dh hd) ∧ M.HandOk i.ls (some i.k) hd) (wi_range (n := 6) (da_cons (ep_int (i := 6)) da_nil) (by decide)) hB bx4' (by decide) hE (fun j a G6 ha ex bx => tg_name fun y hy => ⟨rfl, (em_callV (Aι := ADw) (R := fun i B G G' v => (∃ hd, De G' v (dh hd) ∧ M.HandOk i.ls (some i.k) hd) ∧ BoxAt G' i.A (i.c + 10) ∧ Fr [i.A] G G') (vs := [.ref i.A, i.vl, .int i.k]) ⟨i.A, i.c + 10 * (j : Nat), i.ls, i.k, i.vl⟩ (fun H Q q => ⟨_, rfl, _, rfl, _, rfl, q⟩) ⟨rfl, (hlW.mono w4).mono ex, hl10, ?_, bx, hB⟩).imp fun G7 v h => h⟩) H1' H' kn' _ fun v6 H6 G6 k6 ⟨D', ys, eD', gD', hD6, bx6, fr6, hyl, hy⟩ => ?_⟩
    · have := range_at ha
      show 0 ≤ i.c + 10 * ((j : Nat) : Int) ∧ i.c + 10 * ((j : Nat) : Int) ≤ 900000
      omega
    · subst eD'
      have hDx := fr6 D _ nD hD4
      have hxl4 : xs.length = 4 := hxl
      have hyl6 : ys.length = 6 := by rw [hyl, List.length_range]
      refine ⟨D, D', xs, ys, rfl, rfl, k6.le _ _ hDx, k6.le _ _ hD6, sz_of (by omega), fun p hp => q _ _ _ (k6.new hp) ?_⟩
      have ep := new_ex (o := .lst (xs ++ ys)) (k6.non hp)
      refine ⟨p, xs ++ ys, rfl, upd_same, by rw [List.length_append]; omega, fun x h => ?_, (bx6.mono fun o => ep _ o).le (by rw [List.length_range]; omega), frA_trans fr6 (Fr.of ep)⟩
      rcases List.mem_append.mp h with h | h
      · exact hE _ _ _ (fun b ys q => ep _ _ (bx4'.tp fr6 b ys q)) (hx x h)
      · exact hE _ _ _ (fun b ys q => ep _ _ q) (hy x h)
  subst eD2
  obtain ⟨hds, hdA, hdl, hdC⟩ := hds_of hx2
  have w5 := w4.trans (frW fr5)
  have hl5 := (hlW.mono w5).mono wo_le
  have hf5 := (hfW.mono w5).mono wo_le
  refine q_seq (q_asg k5 (ep_lcm (l := hds) (ι := dh) (fun hd => nt (M.lifl i.ls i.far hd).length) (wi_list (ep_d (i := 5) rfl (.lst hD2 hdA))) (by omega) fun hd G6 hm e => tg_name fun y hy => ⟨rfl, ep_lenLif (ep_d (i := 1) rfl (hl5.mono e)) (ep_d (i := 3) rfl (hf5.mono e)) (ep_d (i := 10) rfl hy) (by omega) hf4 (hdC hd hm).len (HandOk.lt (hdC hd hm))⟩) fun v6 H6 G6 k6 e6 hv6 => ?_)
  refine q_seq (q_asg k6 (ep_call (A := AF 1000) (R := fun i => is (.tuple ((M.bestH i.1 i.2.1 i.2.2).map dn))) (i.ls, some i.k, i.far) (da_cons (ep_d (i := 1) rfl (hl5.mono e6)) (da_cons (ep_d (i := 2) rfl (.int _)) (da_cons (ep_d (i := 3) rfl (hf5.mono e6)) da_nil))) fun G vs e p => ⟨⟨by show i.ls.length ≤ 1000; omega, hf4⟩, by rw [List.append_nil]; exact p⟩) fun v7 H7 G7 k7 e7 hv7 => ?_)
  have hv6' : De G7 v6 (dI (hds.map fun hd => ((M.lifl i.ls i.far hd).length : Int))) := by
    have e : dI (hds.map fun hd => ((M.lifl i.ls i.far hd).length : Int)) = .list (hds.map fun hd => nt (M.lifl i.ls i.far hd).length) := by
      unfold dI
      rw [List.map_map]
      rfl
    rw [e]
    exact De.mono e7 hv6
  have hret7 := ep_andV (ep_geM (j := (M.U i.ls (some i.k) i.far : Nat)) (ep_min (K := K) (σ := [some (.ref i.A), some i.vl, some (.int i.k), some i.vf, some (.int (M.U i.ls (some i.k) i.far : Nat)), some (.ref D2), some v6, some v7, none, none, none]) (ep_d (i := 6) rfl hv6') (by rw [List.length_map]; omega)) (ep_d (i := 4) rfl (.int _)) fun m hm => ?_) fun _ => ep_eqI (ep_lenLif (K := K) (E := E0) (hd := M.bestH i.ls (some i.k) i.far) (ep_d (i := 1) rfl (hl5.mono (e6.trans e7))) (ep_d (i := 3) rfl (hf5.mono (e6.trans e7))) (ep_d (i := 7) rfl hv7) (by omega) hf4 bestH_ok.1 bestH_ok.2) (ep_d (i := 4) rfl (.int (M.U i.ls (some i.k) i.far : Nat)))
  · have eT : (true && decide (((M.lifl i.ls i.far (M.bestH i.ls (some i.k) i.far)).length : Int) = ((M.U i.ls (some i.k) i.far : Nat) : Int))) = true := by
      rw [M.bestH_lifl]
      simp
    rw [eT] at hret7
    exact q_ret k7 hret7 fun v8 H8 G8 k8 e8 hv8 => hret v8 H8 G8 k8 ⟨De.bl' hv8, bx5.mono fun o q => e8 _ _ (e7 _ _ (e6 _ _ q)), frA_trans (frA_trans (frA_trans (Fr.of (e2.trans e3)) fr4) fr5) (Fr.of (e6.trans (e7.trans e8)))⟩
  · obtain ⟨hm1, _⟩ := hm
    obtain ⟨hd, h1, rfl⟩ := List.mem_map.mp hm1
    have := M.lifl_ge (far := i.far) hV (hdC hd h1)
    omega
end
end Q
/-! K75W14 -/
set_option linter.all false
set_option maxRecDepth 100000
set_option maxHeartbeats 4000000
/-! Plain law for what the law asks of one lap. -/
namespace Q
open PySem L2 Evl
open M (Ln)
theorem told_made {ls : List Ln} {k : Int} {F : List (Nat × Nat)} {th : List Int} {made : Int} (h : Told (ls, k, none) F th made) : made = (M.U ls (some k) M.bare : Nat) := by
  have h1 := h.1.cnt
  have h2 : F = M.gr (M.living ls (some k) M.bare) (M.ed ls) ls.length := h.2 rfl
  have h3 := M.gr_len (Lv := M.living ls (some k) M.bare) (en := M.ed ls) ls.length
  have h1' : made + (F.length : Int) = (ls.length : Nat) := h1
  rw [h2] at h1'
  unfold M.U M.left
  omega
/-! ### pieces -/
def pcL (ls : List Ln) (e : List Int) : List (List Ln) := (List.range (e.length - 1)).map fun k => ls.filter fun l => decide (e.getD k 0 ≤ l.1) && decide (l.1 < e.getD (k + 1) 0)
theorem pcL_cut (ls : List Ln) : ∀ e : List Int, pcL ls e = M.cut ls e
  | [] => rfl
  | [a] => rfl
  | a :: b :: r => by
    have ih := pcL_cut ls (b :: r)
    have e1 : M.cut ls (a :: b :: r) = M.pc ls a b :: M.cut ls (b :: r) := rfl
    rw [e1, ← ih]
    unfold pcL
    have e2 : (a :: b :: r).length - 1 = ((b :: r).length - 1) + 1 := by simp
    rw [e2, List.range_succ_eq_map, List.map_cons, List.map_map]
    rfl
theorem pcs_cut (ls : List Ln) (bs : List Int) : pcs ls bs = M.cut ls (0 :: bs ++ [1000]) := by
  have h := pcL_cut ls (edgesOf bs)
  have e : (edgesOf bs).length - 1 = bs.length + 1 := by unfold edgesOf; simp
  unfold pcL at h
  rw [e] at h
  exact h
theorem sum_cast {α : Type} (f : α → Nat) : ∀ l : List α, (l.map fun a => ((f a : Nat) : Int)).sum = ((l.map f).sum : Nat)
  | [] => rfl
  | a :: l => by
    rw [List.map_cons, List.map_cons, List.sum_cons, List.sum_cons, sum_cast f l]
    omega
theorem pieces_sum {ls : List Ln} {n : Nat} {k : Int} {far : M.Fr} (h : LnOk ls n) (hf : FarOk far) : ((pcs ls (far.2.filter fun x => decide (0 < x))).map fun p => ((M.U p (some k) (far.1, []) : Nat) : Int)).sum = (M.U ls (some k) far : Nat) := by
  rw [sum_cast, pcs_cut]
  have := M.U_pieces (keep := some k) (shut := far.1) (an := far.2) h.2.1 1000 (fun l hl => by have := h.2.2 l hl; omega) hf.2.1
  rw [this]
theorem pcs_len {ls : List Ln} {bs : List Int} {p : List Ln} (h : p ∈ pcs ls bs) : p.length ≤ ls.length := by
  unfold pcs at h
  obtain ⟨k, _, rfl⟩ := List.mem_map.mp h
  exact List.length_filter_le _ _
theorem pcs_length (ls : List Ln) (bs : List Int) : (pcs ls bs).length = bs.length + 1 := by unfold pcs; simp
/-! ### rows -/
theorem sorted_uniq : ∀ {l m : List Int}, l.Pairwise (· ≤ ·) → m.Pairwise (· ≤ ·) → l.Perm m → l = m
  | [], m, _, _, h => (List.nil_perm.mp h).symm
  | a :: l, [], _, _, h => absurd h.length_eq (by simp)
  | a :: l, b :: m, hl, hm, h => by
    obtain ⟨l1, l2⟩ := List.pairwise_cons.mp hl
    obtain ⟨m1, m2⟩ := List.pairwise_cons.mp hm
    have e : a = b := by
      have h1 : b ≤ a := by
        rcases List.mem_cons.mp (h.mem_iff.mp List.mem_cons_self) with q | q
        · omega
        · exact m1 a q
      have h2 : a ≤ b := by
        rcases List.mem_cons.mp (h.mem_iff.mpr List.mem_cons_self) with q | q
        · omega
        · exact l1 b q
      omega
    subst e
    rw [sorted_uniq l2 m2 h.cons_inv]
def rowOf (ls : List Ln) (far : M.Fr) : List Int := ([0, 1, 2, 3, 5, 9, 40] : List Int).map fun k => ((M.U ls (some k) far : Nat) : Int)
theorem row_rev {ls : List Ln} (V : M.Valid ls) {far : M.Fr} {ms : List Int} (h1 : ms.Pairwise (· ≤ ·)) (h2 : ms.Perm (rowOf ls far)) : ms.reverse = rowOf ls far := by
  have e : ms = (rowOf ls far).reverse := by
    refine sorted_uniq h1 ?_ (h2.trans (List.reverse_perm _).symm)
    rw [List.pairwise_reverse]
    unfold rowOf
    rw [List.pairwise_map]
    have hp : ([0, 1, 2, 3, 5, 9, 40] : List Int).Pairwise (· ≤ ·) := by decide
    exact hp.imp fun {a b} hab => by
      have := M.U_keep (far := far) V hab
      omega
  rw [e, List.reverse_reverse]
theorem steps_last {ls : List Ln} {n : Nat} (h : LnOk ls n) {far : M.Fr} {ps : List (Int × Int)} (hs : stepsR (ls, far) ps) : ∃ front last, ps = front ++ [last] ∧ last.2 = ((M.U ls (some 40) far : Nat) : Int) := by
  obtain ⟨front, last, k, h1, h2, h3⟩ := hs
  refine ⟨front, last, h1, ?_⟩
  rw [h2]
  show ((M.U ls (some k) far : Nat) : Int) = _
  rw [M.U_far fun g t hg ht _ => ⟨h3 g t hg ht, ?_⟩]
  have b1 := M.bg_ed h.2.1 hg
  have b2 : M.bg ls t ≤ 16 := by
    unfold M.bg
    rw [M.getD_lt ht]
    exact (h.2.2 _ (List.getElem_mem ht)).1
  show M.bg ls t - M.ed ls g ≤ 40
  omega
/-! ### counts -/
def cntsOf (ls : List Ln) : List Int := (List.range (lastE ls).toNat).map fun b : Nat => ((M.cnt ls b : Nat) : Int)
theorem lastE_b {ls : List Ln} {n : Nat} (h : LnOk ls n) (hn : 1 ≤ n) : 1 ≤ lastE ls ∧ lastE ls ≤ 1000 := by
  have h1 : 0 < ls.length := by rw [h.1]; omega
  have h2 := le_lastE h1
  have h3 := M.bg_ed h.2.1 h1
  exact ⟨by omega, lastE_sm fun l hl => by have := h.2.2 l hl; omega⟩
theorem counts_max {ls : List Ln} {n : Nat} (h : LnOk ls n) (hn : 1 ≤ n) {m : Int} (h1 : m ∈ cntsOf ls) (h2 : ∀ y ∈ cntsOf ls, y ≤ m) : ((M.U ls (some 40) M.bare : Nat) : Int) = m := by
  obtain ⟨b, hb, rfl⟩ := List.mem_map.mp h1
  have h3 := M.cnt_le (k := 40) h.2.1 b
  rcases M.le_cnt (k := 40) h.2.1 (fun g t hg ht => by
    have b1 := M.bg_ed h.2.1 hg
    have b2 : M.bg ls t ≤ 16 := by
      unfold M.bg
      rw [M.getD_lt ht]
      exact (h.2.2 _ (List.getElem_mem ht)).1
    omega) with h4 | ⟨t, ht, h4⟩
  · omega
  · have b1 := M.bg_ed h.2.1 ht
    have b2 := le_lastE ht
    have h5 := h2 ((M.cnt ls ((M.bg ls t).toNat : Nat) : Nat) : Int) (List.mem_map.mpr ⟨(M.bg ls t).toNat, List.mem_range.mpr (by omega), rfl⟩)
    rw [Int.toNat_of_nonneg b1.1] at h5
    omega
theorem eqvAll_ints : ∀ ns : List Int, PyData.eqvAll (ns.map .int) (ns.map .int) = true
  | [] => rfl
  | n :: ns => by
    rw [List.map_cons, PyData.eqvAll, eqvAll_ints ns]
    simp [PyData.eqv]
theorem eqv_ints (ns : List Int) : PyData.eqv (dI ns) (dI ns) = true := by
  show PyData.eqv (.list (ns.map .int)) (.list (ns.map .int)) = true
  rw [PyData.eqv]
  exact eqvAll_ints ns
end Q
/-! K75W15 -/
set_option Elab.async false
set_option linter.all false
set_option maxRecDepth 100000
set_option maxHeartbeats 4000000
/-! One lap of the law. -/
namespace Q
open PySem PySem.Spec PyProof.Rows L2 Evl SlX
open M (Ln)
section
variable {σ : L2.St} {B H1 H G : Hp} {ta tb te : TE} {tr : TA} {K : PySem.W.Frag} {P P2 : PV} {E : XK} {dvs : List V} {nx : L2.St → Hp → Prop} {rt : VK} {bk ct : L2.St → Hp → Prop} {i j l : Nat}
theorem q_t3 {te1 te2 te3 : TE} (h : te1 σ H fun x H1 => te2 σ H1 fun y H2 => te3 σ H2 fun z H3 => [x, y, z].length ≤ sizeLine ∧ ∀ p, H3 p = none → gTup K 3 (gCons (gName i) (gCons (gName j) (gCons (gName l) gNil))) (.ref p) σ (L2.upd H3 p (.tup [x, y, z])) nx) :
    tAsg (tTup (tCons te1 (tCons te2 (tCons te3 tNil)))) (gTup K 3 (gCons (gName i) (gCons (gName j) (gCons (gName l) gNil)))) ⟨nx, rt, bk, ct⟩ σ H := h
theorem q_parPP (kn : Kn B H1 H G) (m1 : Mo P) (m2 : Mo P2) (h1 : EvP ta σ G P) (h2 : EvP tb σ G P2) (k : ∀ v w H' G', Kn B H1 H' G' → Ex G G' → P G' v → P2 G' w → nx ((σ.set i (some v)).set j (some w)) H') : tPar i j (tCons ta (tCons tb tNil)) ⟨nx, rt, bk, ct⟩ σ H :=
  h1 H kn.le _ fun v H2 e2 p1 => h2 H2 (kn.le.trans e2) _ fun w H3 e3 p2 => ⟨v, w, rfl, k v w H3 _ (kn.pure (e2.trans e3)).1 (kn.pure (e2.trans e3)).2 (m1 _ _ _ (cut_mono e3) p1) (m2 _ _ _ (cut_later e2) p2)⟩
theorem q_nx (h : nx σ H) : tNext ⟨nx, rt, bk, ct⟩ σ H := h
theorem ep_lenLE {n : Nat} (ha : EvP ta σ B (fun G v => ∃ ds, De G v (.list ds) ∧ ds.length = n)) : EvP (tCB (fun xs H Q => ∃ p ys, xs = [.ref p] ∧ (SqL K H p ys ∨ SqT K H p ys) ∧ Q (.int ys.length) H) (tCons ta tNil)) σ B (is (nt n)) :=
  ep_cb1 ha (fun _ _ _ e ⟨ds, h, l⟩ => ⟨ds, h.mono e, l⟩) fun x G e ⟨ds, p, l⟩ => fun H1 e1 Q q => by
    obtain ⟨a, xs, rfl, h1, h2⟩ := De.lst' p
    exact ⟨a, xs, rfl, .inl (sq_of (e1 _ _ h1)), q _ H1 (Ex.refl _) (by rw [h2.len, l]; exact .int _)⟩
theorem ep_neM {C : Int → Prop} {i : Int} (ha : EvP ta σ B (is (.int i))) (hb : EvP tb σ B (fun _ v => ∃ m, v = .int m ∧ C m)) (h : ∀ m, C m → i = m) : EvP (tOp rNe ta tb) σ B (is (.bool false)) :=
  ep_op ha mo_is hb (fun _ _ _ _ h => h) fun G x y e p1 ⟨m, p2, c⟩ => fun H1 e1 Q q => by
    rw [De.int' p1, p2, h m c]
    refine ⟨rfl, ?_⟩
    have e : (!decide (V.int m = V.int m)) = false := by simp
    rw [e]
    exact q _ H1 (Ex.refl _) (.bl _)
/-- if a or what changes: return .. -/
theorem q_ifOrM {t1 t2 : TT} {t : TS} {P : Hp → Prop} (kn : Kn B H1 H G) (h1 : EvT t1 σ G false) (h2 : ∀ G', Ex G G' → ∀ H H1, Kn B H1 H G' → ∀ Q : Bool → Hp → Prop, (∀ H' G'', Kn B H1 H' G'' → P G'' → Q false H') → t2 σ H Q) (k : ∀ H' G', Kn B H1 H' G' → P G' → nx σ H') : tIfS (tOr t1 t2) t tNext ⟨nx, rt, bk, ct⟩ σ H :=
  h1 H kn.le _ fun H2 e2 => h2 _ (kn.pure e2).2 H2 H1 (kn.pure e2).1 _ fun H3 G3 k3 p => k H3 G3 k3 p
end
section
variable {P : Program} {w : World} {K : PySem.W.Frag} {mg : Str → Option Value} {base : Heap}
def ARt (i : KpI) : Hp → Hp → List V → Prop := fun B G vs => vs = [.ref i.A] ∧ (0 ≤ i.c ∧ i.c ≤ 600000) ∧ BoxAt G i.A i.c ∧ B i.A = none
def spRt : Sp := spR ARt fun i B G G' v => v = .bl true ∧ BoxAt G' i.A (i.c + 1000) ∧ Fr [i.A] G G'
abbrev dRt (a : Fg → Addr) : Df := ⟨a, "_law_right", "_law_right", sRight, []⟩
section
variable {σ : L2.St} {B G : Hp} {E : XK} {A : Addr} {c : Int}
theorem em_li (hs : σ[0]? = some (some (.ref A))) (hbox : BoxAt G A c) (hc : 0 ≤ c ∧ c ≤ 800000) (hB : B A = none) : Em (tCall spLi [] E (tCons (tVar 0) (tCons (tC (.int 10)) (tCons (tC (.int 16)) tNil)))) σ B G (fun G' v => (∃ ls n, De G' v (dl ls) ∧ LnOk ls n ∧ 1 ≤ n ∧ n ≤ 10) ∧ BoxAt G' A (c + 101) ∧ Fr [A] G G') :=
  em_callV (Aι := ALi) (R := fun i B G G' v => (∃ ls n, De G' v (dl ls) ∧ LnOk ls n ∧ 1 ≤ n ∧ n ≤ 10) ∧ BoxAt G' i.A (i.c + 101) ∧ Fr [i.A] G G') (vs := [.ref A, .int 10, .int 16]) ⟨A, c⟩ (fun H Q q => ⟨_, hs, q⟩) ⟨rfl, hc, hbox, hB⟩
theorem em_kp (hs : σ[0]? = some (some (.ref A))) (hbox : BoxAt G A c) (hc : 0 ≤ c ∧ c ≤ 800000) (hB : B A = none) : Em (tCall spKp [] E (tCons (tVar 0) tNil)) σ B G (fun G' v => (∃ k : Int, v = .int k ∧ k ∈ ([0, 0, 1, 1, 2, 3, 4, 6, 9, 40] : List Int)) ∧ BoxAt G' A (c + 1) ∧ Fr [A] G G') :=
  em_callV (Aι := AKp) (R := fun i B G G' v => (∃ k : Int, v = .int k ∧ k ∈ ([0, 0, 1, 1, 2, 3, 4, 6, 9, 40] : List Int)) ∧ BoxAt G' i.A (i.c + 1) ∧ Fr [i.A] G G') (vs := [.ref A]) ⟨A, c⟩ (fun H Q q => ⟨_, hs, q⟩) ⟨rfl, ⟨hc.1, by show c ≤ 1000000; omega⟩, hbox, hB⟩
theorem em_far (hs : σ[0]? = some (some (.ref A))) (hbox : BoxAt G A c) (hc : 0 ≤ c ∧ c ≤ 800000) (hB : B A = none) : Em (tCall spFar [] E (tCons (tVar 0) tNil)) σ B G (fun G' v => (∃ f, De G' v (dfar f) ∧ FarOk f) ∧ BoxAt G' A (c + 6) ∧ Fr [A] G G') :=
  em_callV (Aι := AFr) (R := fun i B G G' v => (∃ f, De G' v (dfar f) ∧ FarOk f) ∧ BoxAt G' i.A (i.c + 6) ∧ Fr [i.A] G G') (vs := [.ref A]) ⟨A, c⟩ (fun H Q q => ⟨_, hs, q⟩) ⟨rfl, ⟨hc.1, by show c ≤ 900000; omega⟩, hbox, hB⟩
theorem em_lr {ls : List Ln} {n : Nat} {k : Int} {far : M.Fr} {vl vf : V} (hs : σ[0]? = some (some (.ref A))) (h2 : σ[2]? = some (some vl)) (h3 : σ[3]? = some (some (.int k))) (h4 : σ[4]? = some (some vf)) (hbox : BoxAt G A c) (hc : 0 ≤ c ∧ c ≤ 700000) (hB : B A = none) (ok : LnOk ls n ∧ (1 ≤ n ∧ n ≤ 10) ∧ (0 ≤ k ∧ k ≤ 40) ∧ FarOk far) (hl : De G vl (dl ls)) (hf : De G vf (dfar far)) :
    Em (tCall spLr [] E (tCons (tVar 0) (tCons (tVar 2) (tCons (tVar 3) (tCons (tVar 4) tNil))))) σ B G (fun G' v => v = .bl true ∧ BoxAt G' A (c + 60) ∧ Fr [A] G G') :=
  em_callV (Aι := ALr) (R := fun i B G G' v => v = .bl true ∧ BoxAt G' i.A (i.c + 60) ∧ Fr [i.A] G G') (vs := [.ref A, vl, .int k, vf]) ⟨A, c, ls, n, k, far, vl, vf⟩ (fun H Q q => ⟨_, hs, _, h2, _, h3, _, h4, q⟩) ⟨rfl, ok, ⟨hl, hf⟩, hc, hbox, hB⟩
end
structure RtC (P : Program) (w : World) (K : PySem.W.Frag) (mg : Str → Option Value) (base : Heap) : Prop where
  bh : C8.Cal P w K mg base 7 "_law_by_hand_right" spBh []
  li : C8.Cal P w K mg base 4 "_law_line" spLi []
  kp : C8.Cal P w K mg base 3 "_law_keep" spKp []
  fr : C8.Cal P w K mg base 3 "_law_far" spFar []
  fw : C8.Cal P w K mg base 6 "fewest_lifeless" spFew []
  ma : C8.Cal P w K mg base 6 "made_at" spMade []
  pc : C8.Cal P w K mg base 1 "_law_pieces" spWPcs []
  lr : C8.Cal P w K mg base 8 "_law_lanes_right" spLr []
  tk : C8.Cal P w K mg base 1 "_law_take" spTk []
  st : C8.Cal P w K mg base 7 "steps" spSteps []
  co : C8.Cal P w K mg base 2 "counts" spCounts []
theorem scRt : FnScope ["_law_box_here", "_law_lap", "_law_line_here", "_law_span_so", "_law_far_so", "_law_bare", "_law_goal", "_law_beats", "_law_some", "_law_stop_so", "_law_told", "_law_row", "_law_own"] ["_law_box_here"] (defScope sRight) := ⟨rfl, rfl, rfl, by decide +kernel, rfl, by decide +kernel, by decide +kernel⟩
theorem ok_Rt {a : Fg → Addr} {f : Addr} {fd : FuncData} (F : At K (dRt a) f fd) (T : Bt mg) (C : RtC P w K mg base) : FnOk P w K mg base CX0 9 f fd ["_law_box_here"] spRt := by
  refine fokR F scRt (fun i B G vs h => by rw [h.1]; rfl) fun cdv A' outer s H E hr => ?_
  refine ⟨_, (pss_cons (ps_if (pt_not (pt_val (pe_c0 C.bh hr (by omega) (by rfl)))) (pss_one (ps_ret pe_bl)) pss_nil) (pss_cons ((ps_for PassesOwn.never rfl (pi_range1 (by rfl) T.range (pa_cons (pe_int) pa_nil)) (pg_name (i := 1) scRt.nd rfl (by first | exact Or.inl rfl | exact Or.inr rfl)) ((pss_cons (ps_asg (pe_tup (pa_cons ((C8.pe_c C.li hr (by omega) (by rfl) (pa_cons ((pv 0)) (pa_cons (pe_int) (pa_cons (pe_int) pa_nil))))) (pa_cons ((C8.pe_c C.kp hr (by omega) (by rfl) (pa_cons ((pv 0)) pa_nil))) (pa_cons ((C8.pe_c C.fr hr (by omega) (by rfl) (pa_cons ((pv 0)) pa_nil))) pa_nil)))) ((pg_tup (n := 3) rfl (pgs_cons (pg_name (i := 2) scRt.nd rfl (by first | exact Or.inl rfl | exact Or.inr rfl)) (pgs_cons (pg_name (i := 3) scRt.nd rfl (by first | exact Or.inl rfl | exact Or.inr rfl)) (pgs_cons (pg_name (i := 4) scRt.nd rfl (by first | exact Or.inl rfl | exact Or.inr rfl)) pgs_nil)))))) (pss_cons (ps_par (i := 5) (j := 6) rfl scRt.nd rfl rfl (by decide) rfl rfl (pa_cons (pe_tup (pa_cons (pe_non) (pa_cons (pe_tup pa_nil) pa_nil))) (pa_cons ((C8.pe_c C.fw hr (by omega) (by rfl) (pa_cons ((pv 2)) (pa_cons ((pv 3)) (pa_cons ((pv 4)) pa_nil))))) pa_nil)) rfl) (pss_cons (ps_if (pt_cmpR op_ne (C8.pe_c C.fw hr (by omega) (by rfl) (pa_cons ((pv 2)) (pa_cons ((pv 3)) (pa_cons ((pv 5)) pa_nil)))) (pe_callB call_len_seq (by rfl) T.len (by decide +kernel) (pa_cons ((C8.pe_c C.ma hr (by omega) (by rfl) (pa_cons ((pv 2)) (pa_cons ((pv 3)) (pa_cons (pe_non) pa_nil))))) pa_nil)) rfl) (pss_one (ps_ret pe_bl)) pss_nil) (pss_cons ((ps_setLc (i := 7) (own := [("_law_own", 12)]) (g := gName 12) rfl scRt.nd rfl rfl rfl (kTup K (kIxT K (pv 4) pe_int)) (blkOk_by (N := ["_law_box_here", "_law_lap", "_law_line_here", "_law_span_so", "_law_far_so", "_law_bare", "_law_goal", "_law_beats", "_law_some", "_law_stop_so", "_law_told", "_law_row", "_law_own"]) (sc := defScope sRight) (by decide +kernel)) (fun _ _ _ _ _ => pg_name (i := 12) scRt.nd rfl (by first | exact Or.inl rfl | exact Or.inr rfl)) (fun _ _ _ _ _ => pts_one (pt_cmpR op_gt (pv 12) pe_int rfl)) (fun _ _ _ _ _ => (pv 12)))) (pss_cons ((ps_setLc (i := 8) (own := [("_law_own", 12)]) (g := gName 12) (tt := tYes) rfl scRt.nd rfl rfl rfl (pi_list (C8.pe_c C.pc hr (by omega) (by rfl) (pa_cons ((pv 2)) (pa_cons ((pv 7)) pa_nil)))) (blkOk_by (N := ["_law_box_here", "_law_lap", "_law_line_here", "_law_span_so", "_law_far_so", "_law_bare", "_law_goal", "_law_beats", "_law_some", "_law_stop_so", "_law_told", "_law_row", "_law_own"]) (sc := defScope sRight) (by decide +kernel)) (fun _ _ _ _ _ => pg_name (i := 12) scRt.nd rfl (by first | exact Or.inl rfl | exact Or.inr rfl)) (fun _ _ _ _ _ => pts_nil) (fun _ _ _ _ _ => (C8.pe_c C.fw hr (by omega) (by rfl) (pa_cons ((pv 12)) (pa_cons ((pv 3)) (pa_cons (pe_tup (pa_cons (kIxT K (pv 4) pe_int) (pa_cons (pe_tup pa_nil) pa_nil))) pa_nil))))))) (pss_cons (ps_if (PW.pt (pw_or (pt_cmpR op_ne (pe_callB (cr_sum rfl) (by rfl) T.sum (by decide +kernel) (pa_cons ((pv 8)) pa_nil)) (pv 6) rfl) (pw_or1 (pt_not (pt_val (C8.pe_c C.lr hr (by omega) (by rfl) (pa_cons ((pv 0)) (pa_cons ((pv 2)) (pa_cons ((pv 3)) (pa_cons ((pv 4)) pa_nil)))))))))) (pss_one (ps_ret pe_bl)) pss_nil) (pss_cons ((ps_asg ((pe_op op_add (pe_int) ((C8.pe_c C.tk hr (by omega) (by rfl) (pa_cons ((pv 0)) (pa_cons (pe_int) pa_nil)))))) (pg_name (i := 9) scRt.nd rfl (by first | exact Or.inl rfl | exact Or.inr rfl)))) (pss_cons ((ps_asg (pe_lst (pa_cons ((C8.pe_c C.fw hr (by omega) (by rfl) (pa_cons ((pv 2)) (pa_cons ((pv 3)) (pa_cons (pe_tup (pa_cons ((pv 9)) (pa_cons (kIxT K (pv 4) pe_int) pa_nil))) pa_nil))))) pa_nil)) (pg_name (i := 10) scRt.nd rfl (by first | exact Or.inl rfl | exact Or.inr rfl)))) (pss_cons ((ps_expr (pe_bm PySem.F.plainAttrs_list PySem.F.slot_list_append PySem.F.type_list_append mt_append ((pv 10)) (pa_cons ((C8.pe_c C.fw hr (by omega) (by rfl) (pa_cons ((pv 2)) (pa_cons ((pe_callB (call_min2 rfl) (by rfl) T.min (by decide +kernel) (pa_cons ((pv 3)) (pa_cons ((pe_op op_sub ((pv 9)) (pe_int))) pa_nil)))) (pa_cons (pe_tup (pa_cons (pe_non) (pa_cons (kIxT K (pv 4) pe_int) pa_nil))) pa_nil))))) pa_nil)))) (pss_cons (ps_if (PW.pt (pw_or (pt_cmpR op_ne (kIxL K (pv 10) pe_int) (kIxL K (pv 10) pe_int) rfl) (pw_or1 (pt_cmpR op_lt (kIxL K (pv 10) pe_int) (C8.pe_c C.fw hr (by omega) (by rfl) (pa_cons ((pv 2)) (pa_cons ((pv 3)) (pa_cons (pe_tup (pa_cons (pe_non) (pa_cons (kIxT K (pv 4) pe_int) pa_nil))) pa_nil)))) rfl)))) (pss_one (ps_ret pe_bl)) pss_nil) (pss_cons (ps_par (i := 11) (j := 10) rfl scRt.nd rfl rfl (by decide) rfl rfl (pa_cons ((pe_lc (own := [("_law_own", 12)]) (g := gName 12) (tt := tYes) rfl scRt.nd (kTup K (pe_tup (pa_cons (pe_int) (pa_cons (pe_int) (pa_cons (pe_int) (pa_cons (pe_int) (pa_cons (pe_int) (pa_cons (pe_int) (pa_cons (pe_int) pa_nil))))))))) (blkOk_by (N := ["_law_box_here", "_law_lap", "_law_line_here", "_law_span_so", "_law_far_so", "_law_bare", "_law_goal", "_law_beats", "_law_some", "_law_stop_so", "_law_told", "_law_row", "_law_own"]) (sc := defScope sRight) (by decide +kernel)) (fun _ _ _ _ _ => pg_name (i := 12) scRt.nd rfl (by first | exact Or.inl rfl | exact Or.inr rfl)) (fun _ _ _ _ _ => pts_nil) (fun _ _ _ _ _ => (C8.pe_c C.fw hr (by omega) (by rfl) (pa_cons ((pv 2)) (pa_cons ((pv 12)) (pa_cons ((pv 4)) pa_nil))))))) (pa_cons ((C8.pe_c C.st hr (by omega) (by rfl) (pa_cons ((pv 2)) (pa_cons ((pv 4)) pa_nil)))) pa_nil)) rfl) (pss_cons (ps_if (PW.pt (pw_or (pt_cmpR (op_neD hr.units) (pv 11) (pe_revL (pe_callB cr_sortedI (by rfl) T.sorted (by decide +kernel) (pa_cons ((pv 11)) pa_nil))) rfl) (pw_or1 (pt_cmpR op_ne (kIxT K (kIxL K (pv 10) (pe_op op_sub ((pe_callB call_len_seq (by rfl) T.len (by decide +kernel) (pa_cons ((pv 10)) pa_nil))) (pe_int))) pe_int) (kIxL K (pv 11) pe_int) rfl)))) (pss_one (ps_ret pe_bl)) pss_nil) (pss_one (ps_if (pt_cmpR op_ne (C8.pe_c C.fw hr (by omega) (by rfl) (pa_cons ((pv 2)) (pa_cons (pe_int) (pa_cons ((pv 5)) pa_nil)))) (pe_callB (cr_max rfl) (by rfl) T.max (by decide +kernel) (pa_cons ((C8.pe_c C.co hr (by omega) (by rfl) (pa_cons ((pv 2)) pa_nil))) pa_nil)) rfl) (pss_one (ps_ret pe_bl)) pss_nil))))))))))))))))) (pss_one (ps_ret pe_bl)))), fun i B H1 H G vs rt h kn hret => ?_⟩
  obtain ⟨rfl, hc, hbox, hB⟩ := h
  refine q_seq (q_if kn (b := false) ?_ (fun z => by cases z) fun _ H2 G2 k2 e2 => ?_)
  · exact et_not (a := true) (et_B' (ep_call (ι := Unit) (A := fun _ B vs => vs = []) (R := fun _ => is (.bool true)) () (as_nil (P := fun _ vs => vs = []) fun _ _ => rfl) fun G vs e p => by
      have p' : vs = [] := p
      rw [p']
      rfl))
  have bx2 := hbox.mono fun o => e2 _ o
  refine q_seq (q_for (α := Nat) (l := List.range 3) (ι := nt) (wo [i.A] G2) k2 wo_le (wi_range (n := 3) (da_cons (ep_int (i := 3)) da_nil) (by decide)) (fun j σ G' => ∃ x1 x2 x3 x4 x5 x6 x7 x8 x9 x10 x11 x12, σ = [some (.ref i.A), x1, x2, x3, x4, x5, x6, x7, x8, x9, x10, x11, x12] ∧ BoxAt G' i.A (i.c + 170 * (j : Nat)) ∧ Fr [i.A] G G') ⟨_, _, _, _, _, _, _, _, _, _, _, _, rfl, by simpa using bx2, Fr.of e2⟩ ?_ ?_ ?_)
  · rintro j σ G1 G3 ⟨x1, x2, x3, x4, x5, x6, x7, x8, x9, x10, x11, x12, e, h1, h2⟩ e'
    exact ⟨x1, x2, x3, x4, x5, x6, x7, x8, x9, x10, x11, x12, e, h1.mono fun o => e' _ o, frA_trans h2 (Fr.of e')⟩
  · rintro j t Gw σ H' G' hj eGw frs eG kn' ⟨x1, x2, x3, x4, x5, x6, x7, x8, x9, x10, x11, x12, rfl, bx, fr⟩
    obtain ⟨rfl, hjn⟩ := range_at hj
    have gA : Gw i.A = none := by
      obtain ⟨o, q⟩ := bx2.dm
      exact frs i.A _ (k2.le _ _ q) (wo_in List.mem_cons_self)
    refine ⟨fun σ2 => σ2 = [some (.ref i.A), some (.int ((t : Nat) : Int)), x2, x3, x4, x5, x6, x7, x8, x9, x10, x11, x12], tg_name fun y hy => by rw [De.int' hy]; rfl, ?_⟩
    rintro σ2 rfl
    generalize hcc : i.c + 170 * ((t : Nat) : Int) = cc at bx
    have hcb : 0 ≤ cc ∧ cc ≤ 650000 := by omega
    refine q_seq (q_t3 (em_li rfl bx ⟨by omega, by omega⟩ hB H1 H' kn' _ fun vl H3 G3 k3 ⟨⟨ls, n, hvl, hls, hn1, hn10⟩, bx3, fr3⟩ => ?_))
    refine em_kp rfl bx3 ⟨by omega, by omega⟩ hB H1 H3 k3 _ fun vk H4 G4 k4 ⟨⟨k, ek, hk⟩, bx4, fr4⟩ => ?_
    subst ek
    have hkb : 0 ≤ k ∧ k ≤ 40 := by
      simp only [List.mem_cons, List.not_mem_nil, or_false] at hk
      omega
    refine em_far rfl bx4 ⟨by omega, by omega⟩ hB H1 H4 k4 _ fun vf H5 G5 k5 ⟨⟨far, hvf, hfar⟩, bx5, fr5⟩ => ⟨by show 3 ≤ sizeLine; decide, fun p hp => ⟨p, _, rfl, .of upd_same, rfl, _, _, rfl, _, _, rfl, _, _, rfl, rfl, ?_⟩⟩
    have k6 := k5.new (o := .tup [vl, .int k, vf]) hp
    have e6 := new_ex (o := .tup [vl, .int k, vf]) (k5.non hp)
    generalize L2.upd H5 p (.tup [vl, .int k, vf]) = H6 at k6
    generalize L2.upd G5 p (.tup [vl, .int k, vf]) = G6 at k6 e6
    have hl6 : De G6 vl (dl ls) := ((hvl.tp (bx3.tp fr4) (tO_dl ls)).tp (bx4.tp fr5) (tO_dl ls)).mono e6
    have hf6 : De G6 vf (dfar far) := hvf.mono e6
    have bx6 := bx5.mono fun o => e6 _ o
    have fr6 : Fr [i.A] G' G6 := frA_trans (frA_trans (frA_trans fr3 fr4) fr5) (Fr.of e6)
    clear hp fr3 fr4 fr5 bx3 bx4 bx5 k3 k4 k5 hvl hvf e6
    have hl0 : ls.length ≤ 10 := by rw [hls.1]; exact hn10
    have hl1 : ls.length ≤ 1000 := by omega
    have hf1 : far.2.length ≤ 1000 := by have := hfar.2.2.1; omega
    have t2 : ∀ n : Nat, n ≤ 100 → n ≤ 100000 := fun n h => by omega
    -- bare, goal
    refine q_seq (q_parPP k6 (P := is (dfar M.bare)) (P2 := is (nt (M.U ls (some k) far))) mo_is mo_is (ep_tup (da_cons ep_non (da_cons (ep_tup da_nil (t2 0 (by decide))) da_nil)) (t2 2 (by decide))) (ep_few (keep := some k) (ep_d (i := 2) rfl hl6) (ep_d (i := 3) rfl (.int _)) (ep_d (i := 4) rfl hf6) hl1 hf1) fun vb vg H7 G7 k7 e7 hb7 hg7 => ?_)
    have hg7' := De.int' hg7
    subst hg7'
    have hl7 := hl6.mono e7
    have hf7 := hf6.mono e7
    -- as few as are made
    refine q_seq (q_if k7 (b := false) ?_ (fun z => by cases z) fun _ H8 G8 k8 e8 => ?_)
    · have h := et_test' (ep_neI (ep_few (E := E0) (σ := [some (.ref i.A), some (.int ((t : Nat) : Int)), some vl, some (.int k), some vf, some vb, some (.int (M.U ls (some k) far : Nat)), x7, x8, x9, x10, x11, x12]) (keep := some k) (far := M.bare) (ep_d (i := 2) rfl hl7) (ep_d (i := 3) rfl (.int _)) (ep_d (i := 5) rfl hb7) hl1 (by show 0 ≤ 1000; omega)) (ep_lenLE (K := K) (n := M.U ls (some k) M.bare) ((ep_call (E := E0) (dvs := []) (A := AThings) (R := fun i G v => ∃ F th made, Told i F th made ∧ ∃ ms : List Int, De G v (dI ms) ∧ (ms.length : Int) = made) (ls, k, none) (da_cons (ep_d (i := 2) rfl hl7) (da_cons (ep_d (i := 3) rfl (.int _)) (da_cons ep_non da_nil))) fun G vs e p => ⟨⟨hls.2.1, hl0, ⟨hkb.1, by show k ≤ 1000; omega⟩, fun l h => by have := hls.2.2 l h; omega, fun d e => by cases e⟩, by rw [List.append_nil]; exact p⟩).imp fun _ v _ ⟨F, th, made, told, ms, hms, hml⟩ => ⟨ms.map .int, hms, by rw [List.length_map]; have := told_made told; omega⟩)))
      have e : (!decide (((M.U ls (some k) M.bare : Nat) : Int) = (M.U ls (some k) M.bare : Nat))) = false := by simp
      rw [e] at h
      exact h
    have hl8 := hl7.mono e8
    have hf8 := hf7.mono e8
    have hb8 := De.mono e8 hb7
    -- beats
    refine q_seq (q_asg k8 (ep_lc (l := far.2) (ι := .int) (fun x => decide (0 < x)) .int (wi_tup (ep_ixT (j := 1) (ep_d (i := 4) rfl hf8) ep_int rfl rfl)) (by omega) fun x G hx e => tg_name fun y hy => ⟨rfl, et_test' (ep_gt (ep_d (i := 12) rfl hy) ep_int), fun _ => ep_d (i := 12) rfl hy⟩) fun vbe H9 G9 k9 e9 hbe9 => ?_)
    have hl9 := hl8.mono e9
    have hf9 := hf8.mono e9
    have hb9 := hb8.mono e9
    have hbl : (far.2.filter fun x => decide (0 < x)).length ≤ 4 := Nat.le_trans (List.length_filter_le _ _) hfar.2.2.1
    -- pieces
    refine q_seq (q_asg k9 (ep_lcm (l := pcs ls (far.2.filter fun x => decide (0 < x))) (ι := dl) (fun p => nt (M.U p (some k) (far.1, []))) (wi_list (ep_call (A := AWPcs) (R := fun i => is (.list ((pcs i.1 i.2).map dl))) (ls, far.2.filter fun x => decide (0 < x)) (da_cons (ep_d (i := 2) rfl hl9) (da_cons (ep_d (i := 7) rfl hbe9) da_nil)) fun G vs e p => ⟨⟨hl0, by show (far.2.filter fun x => decide (0 < x)).length ≤ 100; omega⟩, by rw [List.append_nil]; exact p⟩)) (by rw [pcs_length]; omega)
      fun p G hp e => tg_name fun y hy => ⟨rfl, ep_few (keep := some k) (far := (far.1, [])) (ep_d (i := 12) rfl hy) (ep_d (i := 3) rfl (.int _)) (ep_tup (da_cons (ep_ixT (j := 0) (ep_d (i := 4) rfl (hf9.mono e)) ep_int rfl rfl) (da_cons (ep_tup da_nil (t2 0 (by decide))) da_nil)) (t2 2 (by decide))) (Nat.le_trans (pcs_len hp) hl1) (by show 0 ≤ 1000; omega)⟩) fun vso H10 G10 k10 e10 hso10 => ?_)
    have hl10 := hl9.mono e10
    have hf10 := hf9.mono e10
    have hb10 := hb9.mono e10
    have bx10 : BoxAt G10 i.A _ := bx6.mono fun o q => e10 _ _ (e9 _ _ (e8 _ _ (e7 _ _ q)))
    have fr10 : Fr [i.A] G' G10 := frA_trans fr6 (Fr.of (e7.trans (e8.trans (e9.trans e10))))
    have hso : De G10 vso (dI ((pcs ls (far.2.filter fun x => decide (0 < x))).map fun p => ((M.U p (some k) (far.1, []) : Nat) : Int))) := by
      have e : dI ((pcs ls (far.2.filter fun x => decide (0 < x))).map fun p => ((M.U p (some k) (far.1, []) : Nat) : Int)) = .list ((pcs ls (far.2.filter fun x => decide (0 < x))).map fun p => nt (M.U p (some k) (far.1, []))) := by
        unfold dI
        rw [List.map_map]
        rfl
      rw [e]
      exact hso10
    refine q_seq (q_ifOrM (P := fun G'' => BoxAt G'' i.A (cc + 101 + 1 + 6 + 60) ∧ Fr [i.A] G10 G'') k10 ?_ (fun G11 e11 H0 H00 kk Q q => em_lr rfl rfl rfl rfl (bx10.mono fun o => e11 _ o) ⟨by omega, by omega⟩ hB ⟨hls, ⟨hn1, hn10⟩, hkb, hfar⟩ (hl10.mono e11) (hf10.mono e11) H00 H0 kk _ fun v H12 G12 k12 ⟨ev, bx12, fr12⟩ => ⟨true, ev, q _ _ k12 ⟨bx12, frA_trans (Fr.of e11) fr12⟩⟩) fun H11 G11 k11 ⟨bx11, fr11⟩ => ?_)
    · have h := et_test' (ep_neI (ep_sum (K := K) (σ := [some (.ref i.A), some (.int ((t : Nat) : Int)), some vl, some (.int k), some vf, some vb, some (.int (M.U ls (some k) far : Nat)), some vbe, some vso, x9, x10, x11, x12]) (ep_d (i := 8) rfl hso)) (ep_d (i := 6) rfl (.int (M.U ls (some k) far : Nat))))
      rw [pieces_sum hls hfar] at h
      have e : (!decide (((M.U ls (some k) far : Nat) : Int) = (M.U ls (some k) far : Nat))) = false := by simp
      rw [e] at h
      exact h
    have hl11 := hl10.tp (bx10.tp fr11) (tO_dl ls)
    have hf11 := hf10.tp (bx10.tp fr11) (tO_dfar far)
    have hb11 := hb10.tp (bx10.tp fr11) (tO_dfar M.bare)
    -- stop
    refine q_seq (q_asgM k11 (dr_add (dr_pure (φ := fun r => r = 1) bx11 ep_int rfl) fun G12 b12 f12 => em_take (m := 6) rfl b12 ⟨by omega, by omega⟩ hB ⟨by decide, by decide⟩ ep_int) fun vst H12 G12 k12 ⟨⟨st, est, one, s0, hst1, hs0, hst2⟩, bx12, fr12⟩ => ?_)
    subst hst1 hst2 est
    have hl12 := hl11.tp (bx11.tp fr12) (tO_dl ls)
    have hf12 := hf11.tp (bx11.tp fr12) (tO_dfar far)
    have hb12 := hb11.tp (bx11.tp fr12) (tO_dfar M.bare)
    have fr12' : Fr [i.A] G' G12 := frA_trans (frA_trans fr10 fr11) fr12
    have hanew : ∀ {σ : L2.St} {G : Hp} {sh : Option Int} {ta : TE}, De G vf (dfar far) → σ[4]? = some (some vf) → EvP ta σ G (is (dk sh)) → EvP (tTup (tCons ta (tCons (tOp (rIxT K) (tVar 4) (tC (.int 1))) tNil))) σ G (is (dfar (sh, far.2))) := fun {σ} {G} {sh} {ta} h1 h2 h3 => ep_tup (da_cons h3 (da_cons (ep_ixT (j := 1) (ep_d (i := 4) h2 h1) ep_int rfl rfl) da_nil)) (t2 2 (by decide))
    -- told
    refine q_seq (q_asg k12 (ep_lstF (ds := [nt (M.U ls (some k) (some (1 + s0), far.2))]) (da_cons (ep_few (keep := some k) (far := (some (1 + s0), far.2)) (ep_d (i := 2) rfl hl12) (ep_d (i := 3) rfl (.int _)) (hanew hf12 rfl (ep_d (i := 9) rfl (.int _))) hl1 hf1) da_nil) (t2 1 (by decide))) fun vt H13 G13 k13 e13 ⟨⟨D, eD, gD⟩, hD13⟩ => ?_)
    subst eD
    have hBD : B D = none := fresh_back k12.base gD
    have nDA : D ≠ i.A := fun z => by
      obtain ⟨o, q⟩ := bx12.dm
      rw [← z, gD] at q
      cases q
    have hDG : G13 D = some (.lst [.int (M.U ls (some k) (some (1 + s0), far.2) : Nat)]) := by
      obtain ⟨b, xs, eb, h3, h4⟩ := De.lst' hD13
      cases eb
      have h5 := (show DeA G13 xs ([((M.U ls (some k) (some (1 + s0), far.2) : Nat) : Int)].map PyData.int) from h4).ints'
      rw [h5] at h3
      exact h3
    have hl13 := hl12.mono e13
    have hf13 := hf12.mono e13
    have hb13 := hb12.mono e13
    refine q_seq (q_append (P := is (nt (M.U ls (some (min k (1 + s0 - 1))) (none, far.2)))) (xs := [.int (M.U ls (some k) (some (1 + s0), far.2) : Nat)]) mo_is k13 hBD hDG (by show 1 < 100000; decide) (ev_var (i := 10) rfl) (ep_few (keep := some (min k (1 + s0 - 1))) (far := (none, far.2)) (ep_d (i := 2) rfl hl13) (ep_min2 (ep_d (i := 3) rfl (.int _)) (ep_sub (ep_d (i := 9) rfl (.int _)) ep_int)) (hanew hf13 rfl ep_non) hl1 hf1) fun v14 H14 G14 k14 e14 hv14 k15 => ?_)
    have hv14' := De.int' hv14
    subst hv14'
    have hD14 := e14 _ _ hDG
    have tp15 : ∀ {o : HO}, Tp G14 (L2.upd G14 D o) := fun {o} => tp_upd fun ys q => by rw [hD14] at q; cases q
    have hl15 := De.tp (tp15 (o := .lst ([.int (M.U ls (some k) (some (1 + s0), far.2) : Nat)] ++ [.int (M.U ls (some (min k (1 + s0 - 1))) (none, far.2) : Nat)]))) (hl13.mono e14) (tO_dl ls)
    have hf15 := De.tp (tp15 (o := .lst ([.int (M.U ls (some k) (some (1 + s0), far.2) : Nat)] ++ [.int (M.U ls (some (min k (1 + s0 - 1))) (none, far.2) : Nat)]))) (hf13.mono e14) (tO_dfar far)
    have hb15 := De.tp (tp15 (o := .lst ([.int (M.U ls (some k) (some (1 + s0), far.2) : Nat)] ++ [.int (M.U ls (some (min k (1 + s0 - 1))) (none, far.2) : Nat)]))) (hb13.mono e14) (tO_dfar M.bare)
    have bx15 : BoxAt (L2.upd G14 D (.lst ([.int (M.U ls (some k) (some (1 + s0), far.2) : Nat)] ++ [.int (M.U ls (some (min k (1 + s0 - 1))) (none, far.2) : Nat)]))) i.A _ := bx12.mono fun o q => by
      rw [upd_ne nDA.symm]
      exact e14 _ _ (e13 _ _ q)
    have fr15 : Fr [i.A] G' (L2.upd G14 D (.lst ([.int (M.U ls (some k) (some (1 + s0), far.2) : Nat)] ++ [.int (M.U ls (some (min k (1 + s0 - 1))) (none, far.2) : Nat)]))) := fun b o n q => by
      have q12 := fr12' b o n q
      rw [upd_ne (ne_of_none q12 gD)]
      exact e14 _ _ (e13 _ _ q12)
    have hD15 : (L2.upd G14 D (.lst ([.int (M.U ls (some k) (some (1 + s0), far.2) : Nat)] ++ [.int (M.U ls (some (min k (1 + s0 - 1))) (none, far.2) : Nat)]))) D = some (.lst ([((M.U ls (some k) (some (1 + s0), far.2) : Nat) : Int), ((M.U ls (some (min k (1 + s0 - 1))) (none, far.2) : Nat) : Int)].map V.int)) := upd_same
    have ht15 : De _ (.ref D) (dI [((M.U ls (some k) (some (1 + s0), far.2) : Nat) : Int), ((M.U ls (some (min k (1 + s0 - 1))) (none, far.2) : Nat) : Int)]) := .lst hD15 (DeA.ints _)
    generalize L2.upd G14 D (.lst ([.int (M.U ls (some k) (some (1 + s0), far.2) : Nat)] ++ [.int (M.U ls (some (min k (1 + s0 - 1))) (none, far.2) : Nat)])) = G15 at k15 hl15 hf15 hb15 bx15 fr15 hD15 ht15
    generalize L2.upd H14 D (.lst ([.int (M.U ls (some k) (some (1 + s0), far.2) : Nat)] ++ [.int (M.U ls (some (min k (1 + s0 - 1))) (none, far.2) : Nat)])) = H15 at k15
    clear k12 k13 k14 e13 e14 hD14 tp15 hl13 hl12 hl11 hl10 hf13 hf12 hf11 hf10 hb13 hb12 hb11 hb10
    refine q_seq (q_if k15 (b := false) ?_ (fun z => by cases z) fun _ H16 G16 k16 e16 => ?_)
    · have h := et_or (et_test' (ep_neI (ep_ixL (K := K) (σ := [some (.ref i.A), some (.int ((t : Nat) : Int)), some vl, some (.int k), some vf, some vb, some (.int (M.U ls (some k) far : Nat)), some vbe, some vso, some (.int (1 + s0)), some (.ref D), x11, x12]) (j := 0) (ep_d (i := 10) rfl ht15) ep_int rfl rfl) (ep_ixL (K := K) (j := 1) (ep_d (i := 10) rfl ht15) ep_int rfl rfl))) fun _ => et_test' (ep_lt (ep_ixL (K := K) (j := 0) (ep_d (i := 10) rfl ht15) ep_int rfl rfl) (ep_few (E := E0) (keep := some k) (far := (none, far.2)) (ep_d (i := 2) rfl hl15) (ep_d (i := 3) rfl (.int _)) (hanew hf15 rfl ep_non) hl1 hf1))
      have e : (!decide (((M.U ls (some k) (some (1 + s0), far.2) : Nat) : Int) = (M.U ls (some (min k (1 + s0 - 1))) (none, far.2) : Nat)) || decide (((M.U ls (some k) (some (1 + s0), far.2) : Nat) : Int) < (M.U ls (some k) (none, far.2) : Nat))) = false := by
        have h1 := M.U_shut (ls := ls) (k := k) (s := 1 + s0) (an := far.2)
        have h2 := M.U_shut_le hls.2.1 (k := k) (s := 1 + s0) (an := far.2)
        rw [Bool.or_eq_false_iff]
        exact ⟨by rw [h1]; simp, decide_eq_false (by omega)⟩
      rw [e] at h
      exact h
    have hl16 := hl15.mono e16
    have hf16 := hf15.mono e16
    have hb16 := hb15.mono e16
    -- row, steps
    have hrow : PyData.list (([0, 1, 2, 3, 5, 9, 40] : List Int).map fun x => nt (M.U ls (some x) far)) = dI (rowOf ls far) := by
      unfold dI rowOf
      rw [List.map_map]
      rfl
    have hlcr := ep_lcm (σ := [some (.ref i.A), some (.int ((t : Nat) : Int)), some vl, some (.int k), some vf, some vb, some (.int (M.U ls (some k) far : Nat)), some vbe, some vso, some (.int (1 + s0)), some (.ref D), x11, x12]) (te := tCall spFew [] E0 (tCons (tVar 2) (tCons (tVar 12) (tCons (tVar 4) tNil)))) (vs := [12]) (g := gName 12) (l := ([0, 1, 2, 3, 5, 9, 40] : List Int)) (ι := .int) (fun x => nt (M.U ls (some x) far)) (wi_tup (K := K) (ep_tup (da_cons ep_int (da_cons ep_int (da_cons ep_int (da_cons ep_int (da_cons ep_int (da_cons ep_int (da_cons ep_int da_nil))))))) (t2 7 (by decide)))) (by decide) fun x G hx e => tg_name fun y hy => ⟨rfl, ep_few (keep := some x) (ep_d (i := 2) rfl (hl16.mono e)) (ep_d (i := 12) rfl hy) (ep_d (i := 4) rfl (hf16.mono e)) hl1 hf1⟩
    rw [hrow] at hlcr
    have mS : Mo (fun (G : Hp) (v : V) => ∃ ps : List (Int × Int), De G v (.list (ps.map pr)) ∧ stepsR (ls, far) ps) := fun _ _ _ e ⟨ps, h1, h2⟩ => ⟨ps, De.mono e h1, h2⟩
    have hstp := ep_call (E := E0) (dvs := []) (σ := [some (.ref i.A), some (.int ((t : Nat) : Int)), some vl, some (.int k), some vf, some vb, some (.int (M.U ls (some k) far : Nat)), some vbe, some vso, some (.int (1 + s0)), some (.ref D), x11, x12]) (A := AS) (R := fun i => fun G v => ∃ ps : List (Int × Int), De G v (.list (ps.map pr)) ∧ stepsR i ps) (ls, far) (da_cons (ep_d (i := 2) rfl hl16) (da_cons (ep_d (i := 4) rfl hf16) da_nil)) fun G vs e p => ⟨⟨hl0, hf1, hls.2.1, fun l h => (hls.2.2 l h).1⟩, by rw [List.append_nil]; exact p⟩
    refine q_seq (q_parPP k16 (P := is (dI (rowOf ls far))) (P2 := fun G v => ∃ ps : List (Int × Int), De G v (.list (ps.map pr)) ∧ stepsR (ls, far) ps) mo_is mS hlcr hstp fun vr vt2 H17 G17 k17 e17 hr17 ⟨ps, hps, hst⟩ => ?_)
    have hl17 := hl16.mono e17
    have hb17 := hb16.mono e17
    obtain ⟨front, last, eps, hlast⟩ := steps_last hls hst
    refine q_seq (q_if k17 (b := false) ?_ (fun z => by cases z) fun _ H18 G18 k18 e18 => ?_)
    · have hso := (ep_sortedI (K := K) (σ := [some (.ref i.A), some (.int ((t : Nat) : Int)), some vl, some (.int k), some vf, some vb, some (.int (M.U ls (some k) far : Nat)), some vbe, some vso, some (.int (1 + s0)), some vt2, some vr, x12]) (ep_d (i := 11) rfl hr17)).imp (P' := is (dI (rowOf ls far).reverse)) fun G v _ ⟨ms, hms, p1, p2⟩ => by
        have := row_rev hls.2.1 p1 p2
        rw [← this, List.reverse_reverse]
        exact hms
      have hrv := ep_rev (K := K) hso
      rw [← List.map_reverse, List.reverse_reverse] at hrv
      have hlen := ep_lenL (K := K) (σ := [some (.ref i.A), some (.int ((t : Nat) : Int)), some vl, some (.int k), some vf, some vb, some (.int (M.U ls (some k) far : Nat)), some vbe, some vso, some (.int (1 + s0)), some vt2, some vr, x12]) (ep_d (i := 10) rfl hps)
      rw [List.length_map] at hlen
      have h := et_or (et_test' (ep_neD (K := K) (ep_d (i := 11) rfl hr17) hrv (PySem.W.ke_shaped_ints _) (PySem.W.ke_shaped_ints _))) fun _ => et_test' (ep_neI (ep_ixT (K := K) (j := 1) (ep_ixL (K := K) (j := front.length) (d := pr last) (ep_d (i := 10) rfl hps) (ep_sub hlen ep_int) (by rw [eps, List.length_append]; show ((front.length + 1 : Nat) : Int) - 1 = (front.length : Nat); omega) (by rw [eps, List.getElem?_map, List.getElem?_append_right (Nat.le_refl _), Nat.sub_self]; rfl)) ep_int rfl rfl) (ep_ixL (K := K) (j := 6) (d := .int ((M.U ls (some 40) far : Nat) : Int)) (ep_d (i := 11) rfl hr17) ep_int rfl rfl))
      have e : (!PyData.eqv (dI (rowOf ls far)) (dI (rowOf ls far)) || !decide (last.2 = ((M.U ls (some 40) far : Nat) : Int))) = false := by
        rw [eqv_ints, hlast]
        simp
      rw [e] at h
      exact h
    have hl18 := hl17.mono e18
    have hb18 := hb17.mono e18
    have hlE := lastE_b hls hn1
    refine q_nx ?_
    refine q_if k18 (b := false) ?_ (fun z => by cases z) fun _ H19 G19 k19 e19 => ?_
    rotate_left
    refine ⟨G19, k19, fun b o q => ?_, _, _, _, _, _, _, _, _, _, _, _, _, rfl, (bx15.mono fun o q => e19 _ _ (e18 _ _ (e17 _ _ (e16 _ _ q)))).le (by omega), frA_trans fr (frA_trans fr15 (Fr.of (e16.trans (e17.trans (e18.trans e19)))))⟩
    rotate_left
    · have hcn : PyData.list (((List.range (lastE ls).toNat).map fun b : Nat => M.cnt ls b).map nt) = dI (cntsOf ls) := by
        unfold dI cntsOf
        rw [List.map_map, List.map_map]
        rfl
      have hco := ep_call (E := E0) (dvs := []) (σ := [some (.ref i.A), some (.int ((t : Nat) : Int)), some vl, some (.int k), some vf, some vb, some (.int (M.U ls (some k) far : Nat)), some vbe, some vso, some (.int (1 + s0)), some vt2, some vr, x12]) (A := fun ls B vs => ls.length ≤ 1000 ∧ (0 ≤ lastE ls ∧ lastE ls ≤ 1000) ∧ ∃ v, vs = [v] ∧ De B v (dl ls)) (R := fun ls => is (dN ((List.range (lastE ls).toNat).map fun b : Nat => M.cnt ls b))) ls (da_cons (ep_d (i := 2) rfl hl18) da_nil) fun G vs e p => ⟨hl1, ⟨by omega, by omega⟩, by
        obtain ⟨v, rfl, p1⟩ := p.one
        exact ⟨v, rfl, p1⟩⟩
      have hco' : EvP (tCall spCounts [] E0 (tCons (tVar 2) tNil)) [some (.ref i.A), some (.int ((t : Nat) : Int)), some vl, some (.int k), some vf, some vb, some (.int (M.U ls (some k) far : Nat)), some vbe, some vso, some (.int (1 + s0)), some vt2, some vr, x12] G18 (is (dI (cntsOf ls))) := by
        rw [← hcn]
        exact hco
      exact et_test' (ep_neM (C := fun m => m ∈ cntsOf ls ∧ ∀ y ∈ cntsOf ls, y ≤ m) (ep_few (E := E0) (keep := some 40) (far := M.bare) (ep_d (i := 2) rfl hl18) ep_int (ep_d (i := 5) rfl hb18) hl1 (by show 0 ≤ 1000; omega)) (ep_max (K := K) hco' (by unfold cntsOf; rw [List.length_map, List.length_range]; omega)) fun m ⟨h1, h2⟩ => counts_max hls hn1 h1 h2)
    · have n : b ∉ [i.A] := fun z => by rw [List.mem_singleton.mp z, gA] at q; cases q
      exact e19 _ _ (e18 _ _ (e17 _ _ (e16 _ _ (fr15 b o n (eG _ _ q)))))
  · rintro σ Hz Gz Gw _ _ eG kz ⟨x1, x2, x3, x4, x5, x6, x7, x8, x9, x10, x11, x12, rfl, bx, fr⟩
    rw [List.length_range] at bx
    exact q_ret kz ep_bl fun v H6 G6 k6 e6 hv => hret v H6 G6 k6 ⟨De.bl' hv, (bx.mono fun o => e6 _ o).le (by omega), frA_trans fr (Fr.of e6)⟩
end
end Q
/-! K75W16 -/
set_option Elab.async false
set_option linter.all false
set_option maxRecDepth 100000
set_option maxHeartbeats 4000000
/-! The law itself. -/
namespace Q
open PySem PySem.Spec PyProof.Rows L2 Evl SlX
open M (Ln)
theorem q_ifAll {σ : L2.St} {H : Hp} {te : TE} {t u : TS} {K : PySem.W.Frag} {nx : L2.St → Hp → Prop} {rt : VK} {bk ct : L2.St → Hp → Prop} (h : te σ H fun x H1 => ∃ (a : Addr) (bs : List Bool), [x] = [V.ref a] ∧ SqL K H1 a (bs.map V.bl) ∧ ∃ c, V.bl (bs.all id) = V.bl c ∧ if (!c) = true then t ⟨nx, rt, bk, ct⟩ σ H1 else u ⟨nx, rt, bk, ct⟩ σ H1) :
    tIfS (tNot (tB (tCB (rAll K) (tCons te tNil)))) t u ⟨nx, rt, bk, ct⟩ σ H := h
section
variable {P : Program} {w : World} {K : PySem.W.Frag} {mg : Str → Option Value} {base : Heap}
def ALaw (K : PySem.W.Frag) (i : List Int) : PVs := fun B vs => i.length ≤ 63 ∧ ∃ a, vs = [.ref a] ∧ SqL K B a (i.map V.int)
def spLaw (K : PySem.W.Frag) : Sp := spF (ALaw K) fun _ => is (.bool true)
abbrev dLaw (a : Fg → Addr) : Df := ⟨a, "law", "law", sLaw, []⟩
theorem scLaw : FnScope ["_law_script", "_law_cells_here", "_law_k", "_law_box_here", "_law_lap"] ["_law_script"] (defScope sLaw) := ⟨rfl, rfl, rfl, by decide +kernel, rfl, by decide +kernel, by decide +kernel⟩
theorem ok_Law {a : Fg → Addr} {f : Addr} {fd : FuncData} (F : At K (dLaw a) f fd) (T : Bt mg) (CE : C8.Cal P w K mg base 1 "_law_cells" (spCe K) []) (BX : C8.Cal P w K mg base 1 "_law_box" spBx []) (RT : C8.Cal P w K mg base 9 "_law_right" spRt []) : FnOk P w K mg base CX0 10 f fd ["_law_script"] (spLaw K) := by
  refine fok F scLaw (fun i B vs h => by obtain ⟨_, a, rfl, _⟩ := h; rfl) fun cdv A' outer s H E hr => ?_
  refine ⟨_, (pss_cons ((ps_asg ((C8.pe_c CE hr (by omega) (by rfl) (pa_cons ((pv 0)) (pa_cons (pe_int) pa_nil)))) (pg_name (i := 1) scLaw.nd rfl (by first | exact Or.inl rfl | exact Or.inr rfl)))) (pss_cons ((ps_for PassesOwn.never rfl (pi_range1 (by rfl) T.range (pa_cons ((pe_callB call_len_seq (by rfl) T.len (by decide +kernel) (pa_cons ((pv 1)) pa_nil))) pa_nil)) (pg_name (i := 2) scLaw.nd rfl (by first | exact Or.inl rfl | exact Or.inr rfl)) ((pss_cons ((ps_asg ((C8.pe_c BX hr (by omega) (by rfl) (pa_cons ((pv 1)) (pa_cons ((pv 2)) pa_nil)))) (pg_name (i := 3) scLaw.nd rfl (by first | exact Or.inl rfl | exact Or.inr rfl)))) (pss_one (ps_if (pt_not (pt_val (pe_callB (kAll K) (by rfl) T.all (by decide +kernel) (pa_cons ((pe_lc (own := [("_law_lap", 4)]) (g := gName 4) (tt := tYes) rfl scLaw.nd (pi_range1 (by rfl) T.range (pa_cons (pe_int) pa_nil)) (blkOk_by (N := ["_law_script", "_law_cells_here", "_law_k", "_law_box_here", "_law_lap"]) (sc := defScope sLaw) (by decide +kernel)) (fun _ _ _ _ _ => pg_name (i := 4) scLaw.nd rfl (by first | exact Or.inl rfl | exact Or.inr rfl)) (fun _ _ _ _ _ => pts_nil) (fun _ _ _ _ _ => (C8.pe_c RT hr (Nat.le_refl _) (by rfl) (pa_cons ((pv 3)) pa_nil))))) pa_nil)))) (pss_one (ps_ret pe_bl)) pss_nil)))))) (pss_one (ps_ret pe_bl)))), fun i B vs h => ?_⟩
  obtain ⟨hl, a0, rfl, h1⟩ := h
  refine ret_of fun H1 nx rt bk ct kn hret => ?_
  refine q_seq (q_asg kn (ep_call (A := ACe K) (R := fun i G v => ∃ ms : List Int, De G v (dI ms) ∧ 1 ≤ ms.length ∧ ms.length ≤ 3) (Ps := fun G vs => vs = [.ref a0, .int 3]) i (fun H1 e Q q => ⟨_, rfl, q _ H1 (Ex.refl _) rfl⟩) fun G vs e p => by
    have p' : vs = [.ref a0, .int 3] := p
    rw [p']
    exact ⟨hl, a0, rfl, sqL_mono e h1⟩) fun vc H2 G2 k2 e2 ⟨ms, hvc, hm1, hm3⟩ => ?_)
  have hlen := ep_lenL (K := K) (σ := [some (.ref a0), some vc, none, none, none]) (ep_d (i := 1) rfl hvc)
  rw [List.length_map] at hlen
  refine q_seq (q_for (α := Nat) (l := List.range ms.length) (ι := nt) G2 k2 (Ex.refl _) (wi_range (da_cons hlen da_nil) (by omega)) (fun j σ G' => ∃ x2 x3 x4, σ = [some (.ref a0), some vc, x2, x3, x4]) ⟨_, _, _, rfl⟩ ?_ ?_ ?_)
  · rintro j σ G1 G3 h e'
    exact h
  · rintro j t Gw σ H' G' hj eGw frs eG kn' ⟨x2, x3, x4, rfl⟩
    obtain ⟨rfl, hjn⟩ := range_at hj
    have hv' : De G' vc (dI ms) := (hvc.mono eGw).mono eG
    refine ⟨fun σ2 => σ2 = [some (.ref a0), some vc, some (.int ((t : Nat) : Int)), x3, x4], tg_name fun y hy => by rw [De.int' hy]; rfl, ?_⟩
    rintro σ2 rfl
    refine q_seq (q_asgM kn' (em_callV (Aι := ABx) (R := fun i B G G' v => ∃ A, v = .ref A ∧ G A = none ∧ BoxAt G' A 0 ∧ Ex G G') (vs := [vc, .int (t : Nat)]) ⟨ms, t, vc⟩ (fun H Q q => ⟨_, rfl, _, rfl, q⟩) ⟨rfl, ⟨hjn, hm3⟩, hv'⟩) fun vb H3 G3 k3 ⟨A, eA, gA, bxA, e3⟩ => ?_)
    have gA' : G' A = none := gA
    have e3' : Ex G' G3 := e3
    subst eA
    have hB : B A = none := fresh_back kn'.base gA'
    have em := em_lcI (σ := [some (.ref a0), some vc, some (.int ((t : Nat) : Int)), some (.ref A), x4]) (B := B) (G := G3) (te := tCall spRt [] E0 (tCons (tVar 3) tNil)) (g := gName 4) (vs := [4]) (m := 1000) (A := A) (c := 0) (l := List.range 1) (ι := nt) (wi := iRng1 (tCons (tC (.int 1)) tNil)) (El := fun _ v => v = .bl true) (wi_range (n := 1) (da_cons (ep_int (i := 1)) da_nil) (by decide)) hB bxA (by decide) (fun _ _ _ _ h => h) fun j a G4 ha ex bx => tg_name fun y hy => ⟨rfl, em_callV (Aι := ARt) (R := fun i B G G' v => v = .bl true ∧ BoxAt G' i.A (i.c + 1000) ∧ Fr [i.A] G G') (vs := [.ref A]) ⟨A, 0 + 1000 * (j : Nat)⟩ (fun H Q q => ⟨_, rfl, q⟩) ⟨rfl, by
      have := range_at ha
      show 0 ≤ 0 + 1000 * ((j : Nat) : Int) ∧ 0 + 1000 * ((j : Nat) : Int) ≤ 600000
      omega, bx, hB⟩⟩
    refine q_ifAll (em H1 H3 k3 _ fun v4 H4 G4 k4 ⟨D, xs, eD, gD, hD, bx4, fr4, hxl, hx⟩ => ?_)
    · subst eD
      have hxs : xs = [true].map V.bl := by
        rw [List.length_range] at hxl
        match xs, hxl, hx with
        | [x], _, hx => rw [hx x List.mem_cons_self]; rfl
      rw [hxs] at hD
      refine ⟨D, [true], rfl, sq_of (k4.le _ _ hD), true, rfl, ?_⟩
      refine ⟨G4, k4, fun b o q => ?_, _, _, _, rfl⟩
      have n : b ≠ A := fun z => by
        rw [z] at q
        rw [eG _ _ q] at gA'
        cases gA'
      exact fr4 b o (by simpa using n) (e3' _ _ (eG _ _ q))
  · rintro σ Hz Gz Gw _ _ eG kz ⟨x2, x3, x4, rfl⟩
    exact q_ret kz ep_bl fun v H6 G6 k6 e6 hv => hret v H6 G6 k6 hv
end
end Q
/-! K75End -/
set_option Elab.async false
set_option linter.all false
set_option maxRecDepth 100000
set_option maxHeartbeats 4000000
/-! The facts of the head, joined with the defs; the law. -/
namespace Q
open PySem PySem.Spec PyProof.Rows L2 Evl SlX He
theorem facts {P : Program} {w : World} {K : PySem.W.Frag} {h : Heap} {mg : Str → Option Value} {f : Addr} (X : K.In h) (G : h.Ns mainGlobals mg) (hfa : mg ("law" : Str) = some (.ref f)) (c : Says hdFa hdFn K) :
    ∃ fd : FuncData, (∀ (s : Shared) (v : Value), BindsTo s fd ⟨[v], []⟩ [("_law_script", v)]) ∧ ∀ base : Heap, K.In base → base.Ns mainGlobals mg → FnOk P w K mg base CX0 10 f fd ["_law_script"] (spLaw K) := by
  have T : Bt mg := ⟨free_ok X G (c.fact 35 (f := fun K => (Fa.free "len").ok K) rfl), free_ok X G (c.fact 36 (f := fun K => (Fa.free "max").ok K) rfl), free_ok X G (c.fact 37 (f := fun K => (Fa.free "range").ok K) rfl), free_ok X G (c.fact 38 (f := fun K => (Fa.free "isinstance").ok K) rfl), free_ok X G (c.fact 39 (f := fun K => (Fa.free "list").ok K) rfl), free_ok X G (c.fact 40 (f := fun K => (Fa.free "tuple").ok K) rfl), free_ok X G (c.fact 41 (f := fun K => (Fa.free "min").ok K) rfl), free_ok X G (c.fact 42 (f := fun K => (Fa.free "sorted").ok K) rfl), free_ok X G (c.fact 43 (f := fun K => (Fa.free "enumerate").ok K) rfl), free_ok X G (c.fact 44 (f := fun K => (Fa.free "iter").ok K) rfl), free_ok X G (c.fact 45 (f := fun K => (Fa.free "any").ok K) rfl), free_ok X G (c.fact 46 (f := fun K => (Fa.free "all").ok K) rfl), free_ok X G (c.fact 47 (f := fun K => (Fa.free "abs").ok K) rfl), free_ok X G (c.fact 48 (f := fun K => (Fa.free "int").ok K) rfl), free_ok X G (c.fact 49 (f := fun K => (Fa.free "set").ok K) rfl), free_ok X G (c.fact 50 (f := fun K => (Fa.free "sum").ok K) rfl), free_ok X G (c.fact 51 (f := fun K => (Fa.free "zip").ok K) rfl), free_ok X G (c.fact 52 (f := fun K => (Fa.free "bool").ok K) rfl), free_ok X G (c.fact 53 (f := fun K => (Fa.free "str").ok K) rfl)⟩
  have g_tupled := glo_ok X G (c.fact 0 (f := fun K => (Fa.glo "tupled").ok K) rfl)
  obtain ⟨d_tupled, F_tupled⟩ := c.df 0 (d := dTupled (fun K => ga K "tupled")) rfl
  have g_last_end := glo_ok X G (c.fact 1 (f := fun K => (Fa.glo "last_end").ok K) rfl)
  obtain ⟨d_last_end, F_last_end⟩ := c.df 1 (d := dLastEnd (fun K => ga K "last_end")) rfl
  have g_counts := glo_ok X G (c.fact 2 (f := fun K => (Fa.glo "counts").ok K) rfl)
  obtain ⟨d_counts, F_counts⟩ := c.df 2 (d := dCounts (fun K => ga K "counts")) rfl
  have g_things := glo_ok X G (c.fact 3 (f := fun K => (Fa.glo "things").ok K) rfl)
  obtain ⟨d_things, F_things⟩ := c.df 3 (d := dThings (fun K => ga K "things")) rfl
  have g_made_at := glo_ok X G (c.fact 4 (f := fun K => (Fa.glo "made_at").ok K) rfl)
  obtain ⟨d_made_at, F_made_at⟩ := c.df 4 (d := dMade (fun K => ga K "made_at")) rfl
  have g_handing_of := glo_ok X G (c.fact 5 (f := fun K => (Fa.glo "handing_of").ok K) rfl)
  obtain ⟨d_handing_of, F_handing_of⟩ := c.df 5 (d := dHandingOf (fun K => ga K "handing_of")) rfl
  have g_dead := glo_ok X G (c.fact 6 (f := fun K => (Fa.glo "dead").ok K) rfl)
  obtain ⟨d_dead, F_dead⟩ := c.df 6 (d := dDead (fun K => ga K "dead")) rfl
  have g_lifeless := glo_ok X G (c.fact 7 (f := fun K => (Fa.glo "lifeless").ok K) rfl)
  obtain ⟨d_lifeless, F_lifeless⟩ := c.df 7 (d := dLifeless (fun K => ga K "lifeless")) rfl
  have g_fewest_lifeless := glo_ok X G (c.fact 8 (f := fun K => (Fa.glo "fewest_lifeless").ok K) rfl)
  obtain ⟨d_fewest_lifeless, F_fewest_lifeless⟩ := c.df 8 (d := dFew (fun K => ga K "fewest_lifeless")) rfl
  have g_best_handing := glo_ok X G (c.fact 9 (f := fun K => (Fa.glo "best_handing").ok K) rfl)
  obtain ⟨d_best_handing, F_best_handing⟩ := c.df 9 (d := dBestH (fun K => ga K "best_handing")) rfl
  have g_crowd := glo_ok X G (c.fact 10 (f := fun K => (Fa.glo "crowd").ok K) rfl)
  obtain ⟨d_crowd, F_crowd⟩ := c.df 10 (d := dCrowd (fun K => ga K "crowd")) rfl
  have g_steps := glo_ok X G (c.fact 11 (f := fun K => (Fa.glo "steps").ok K) rfl)
  obtain ⟨d_steps, F_steps⟩ := c.df 11 (d := dSteps (fun K => ga K "steps")) rfl
  have g__law_box := glo_ok X G (c.fact 12 (f := fun K => (Fa.glo "_law_box").ok K) rfl)
  obtain ⟨d__law_box, F__law_box⟩ := c.df 12 (d := dBx (fun K => ga K "_law_box")) rfl
  have g__law_take := glo_ok X G (c.fact 13 (f := fun K => (Fa.glo "_law_take").ok K) rfl)
  obtain ⟨d__law_take, F__law_take⟩ := c.df 13 (d := dTk (fun K => ga K "_law_take")) rfl
  have g__law_cells := glo_ok X G (c.fact 14 (f := fun K => (Fa.glo "_law_cells").ok K) rfl)
  obtain ⟨d__law_cells, F__law_cells⟩ := c.df 14 (d := dCe (fun K => ga K "_law_cells")) rfl
  have g__law_of := glo_ok X G (c.fact 15 (f := fun K => (Fa.glo "_law_of").ok K) rfl)
  obtain ⟨d__law_of, F__law_of⟩ := c.df 15 (d := dOf (fun K => ga K "_law_of")) rfl
  have g__law_same := glo_ok X G (c.fact 16 (f := fun K => (Fa.glo "_law_same").ok K) rfl)
  obtain ⟨d__law_same, F__law_same⟩ := c.df 16 (d := dSame (fun K => ga K "_law_same")) rfl
  have g__law_loans := glo_ok X G (c.fact 17 (f := fun K => (Fa.glo "_law_loans").ok K) rfl)
  obtain ⟨d__law_loans, F__law_loans⟩ := c.df 17 (d := dLo (fun K => ga K "_law_loans")) rfl
  have g__law_keep := glo_ok X G (c.fact 18 (f := fun K => (Fa.glo "_law_keep").ok K) rfl)
  obtain ⟨d__law_keep, F__law_keep⟩ := c.df 18 (d := dKp (fun K => ga K "_law_keep")) rfl
  have g__law_gap := glo_ok X G (c.fact 19 (f := fun K => (Fa.glo "_law_gap").ok K) rfl)
  obtain ⟨d__law_gap, F__law_gap⟩ := c.df 19 (d := dWGap (fun K => ga K "_law_gap")) rfl
  have g__law_givers := glo_ok X G (c.fact 20 (f := fun K => (Fa.glo "_law_givers").ok K) rfl)
  obtain ⟨d__law_givers, F__law_givers⟩ := c.df 20 (d := dWGiv (fun K => ga K "_law_givers")) rfl
  have g__law_is_dead := glo_ok X G (c.fact 21 (f := fun K => (Fa.glo "_law_is_dead").ok K) rfl)
  obtain ⟨d__law_is_dead, F__law_is_dead⟩ := c.df 21 (d := dWDead (fun K => ga K "_law_is_dead")) rfl
  have g__law_living := glo_ok X G (c.fact 22 (f := fun K => (Fa.glo "_law_living").ok K) rfl)
  obtain ⟨d__law_living, F__law_living⟩ := c.df 22 (d := dWLiv (fun K => ga K "_law_living")) rfl
  have g__law_far := glo_ok X G (c.fact 23 (f := fun K => (Fa.glo "_law_far").ok K) rfl)
  obtain ⟨d__law_far, F__law_far⟩ := c.df 23 (d := dFar (fun K => ga K "_law_far")) rfl
  have g__law_line := glo_ok X G (c.fact 24 (f := fun K => (Fa.glo "_law_line").ok K) rfl)
  obtain ⟨d__law_line, F__law_line⟩ := c.df 24 (d := dLi (fun K => ga K "_law_line")) rfl
  have g__law_drawn := glo_ok X G (c.fact 25 (f := fun K => (Fa.glo "_law_drawn").ok K) rfl)
  obtain ⟨d__law_drawn, F__law_drawn⟩ := c.df 25 (d := dDw (fun K => ga K "_law_drawn")) rfl
  have g__law_excess := glo_ok X G (c.fact 26 (f := fun K => (Fa.glo "_law_excess").ok K) rfl)
  obtain ⟨d__law_excess, F__law_excess⟩ := c.df 26 (d := dWExc (fun K => ga K "_law_excess")) rfl
  have g__law_pieces := glo_ok X G (c.fact 27 (f := fun K => (Fa.glo "_law_pieces").ok K) rfl)
  obtain ⟨d__law_pieces, F__law_pieces⟩ := c.df 27 (d := dWPcs (fun K => ga K "_law_pieces")) rfl
  have g__law_lanes_right := glo_ok X G (c.fact 28 (f := fun K => (Fa.glo "_law_lanes_right").ok K) rfl)
  obtain ⟨d__law_lanes_right, F__law_lanes_right⟩ := c.df 28 (d := dLr (fun K => ga K "_law_lanes_right")) rfl
  have g__law_by_hand_right := glo_ok X G (c.fact 29 (f := fun K => (Fa.glo "_law_by_hand_right").ok K) rfl)
  obtain ⟨d__law_by_hand_right, F__law_by_hand_right⟩ := c.df 29 (d := dBh (fun K => ga K "_law_by_hand_right")) rfl
  have g__law_right := glo_ok X G (c.fact 30 (f := fun K => (Fa.glo "_law_right").ok K) rfl)
  obtain ⟨d__law_right, F__law_right⟩ := c.df 30 (d := dRt (fun K => ga K "_law_right")) rfl
  have g_law := glo_ok X G (c.fact 31 (f := fun K => (Fa.glo "law").ok K) rfl)
  obtain ⟨d_law, F_law⟩ := c.df 31 (d := dLaw (fun K => ga K "law")) rfl
  have g_Pool := glo_ok X G (c.fact 32 (f := fun K => (Fa.glo "Pool").ok K) rfl)
  have c_Pool := clsB_ok (c.fact 54 (f := fun K => clsB K (ga K "Pool")) rfl)
  have k_Pool := mkr_ok (c.fact 55 (f := fun K => (Fa.mkr "Pool").ok K) rfl)
  have g_Story := glo_ok X G (c.fact 33 (f := fun K => (Fa.glo "Story").ok K) rfl)
  have c_Story := clsB_ok (c.fact 72 (f := fun K => clsB K (ga K "Story")) rfl)
  have k_Story := mkr_ok (c.fact 73 (f := fun K => (Fa.mkr "Story").ok K) rfl)
  have g_Links := glo_ok X G (c.fact 34 (f := fun K => (Fa.glo "Links").ok K) rfl)
  have c_Links := clsB_ok (c.fact 82 (f := fun K => clsB K (ga K "Links")) rfl)
  have k_Links := mkr_ok (c.fact 83 (f := fun K => (Fa.mkr "Links").ok K) rfl)
  have LFk : LF K (ga K "Links") := ⟨c_Links, ⟨_, slotB_ok (c.fact 84 (f := fun K => slotB K (ga K "Links") "own_loans" 3) rfl)⟩, ⟨_, slotB_ok (c.fact 85 (f := fun K => slotB K (ga K "Links") "own_indexes" 1) rfl)⟩, ⟨_, slotB_ok (c.fact 86 (f := fun K => slotB K (ga K "Links") "own_keep" 2) rfl)⟩, ⟨_, slotB_ok (c.fact 87 (f := fun K => slotB K (ga K "Links") "own_shut" 4) rfl)⟩, ⟨_, slotB_ok (c.fact 88 (f := fun K => slotB K (ga K "Links") "own_anew" 0) rfl)⟩⟩
  have PFk : PF K (ga K "Pool") := ⟨c_Pool, ⟨_, slotB_ok (c.fact 57 (f := fun K => slotB K (ga K "Pool") "own_depth" 0) rfl)⟩, ⟨_, slotB_ok (c.fact 59 (f := fun K => slotB K (ga K "Pool") "own_idle" 1) rfl)⟩, ⟨_, slotB_ok (c.fact 56 (f := fun K => slotB K (ga K "Pool") "own_keep" 2) rfl)⟩, ⟨_, slotB_ok (c.fact 60 (f := fun K => slotB K (ga K "Pool") "own_lent" 3) rfl)⟩, ⟨_, slotB_ok (c.fact 61 (f := fun K => slotB K (ga K "Pool") "own_made" 4) rfl)⟩, ⟨_, slotB_ok (c.fact 58 (f := fun K => slotB K (ga K "Pool") "own_now" 5) rfl)⟩, ⟨_, slotB_ok (c.fact 62 (f := fun K => slotB K (ga K "Pool") "own_there" 6) rfl)⟩⟩
  have SFk : SF K (ga K "Story") := ⟨c_Story, ⟨_, slotB_ok (c.fact 77 (f := fun K => slotB K (ga K "Story") "own_gone" 0) rfl)⟩, ⟨_, slotB_ok (c.fact 76 (f := fun K => slotB K (ga K "Story") "own_made" 1) rfl)⟩, ⟨_, slotB_ok (c.fact 75 (f := fun K => slotB K (ga K "Story") "own_numbers" 2) rfl)⟩, ⟨_, slotB_ok (c.fact 74 (f := fun K => slotB K (ga K "Story") "own_things" 3) rfl)⟩⟩
  have m_P_init := meth_ok (c.fact 63 (f := fun K => (Fa.meth "Pool" "__init__").ok K) rfl)
  obtain ⟨d_P_init, F_P_init⟩ := c.df 32 (d := dPInit (fun K => ma K (ga K "Pool") "__init__")) rfl
  have m_P_len := meth_ok (c.fact 64 (f := fun K => (Fa.meth "Pool" "__len__").ok K) rfl)
  obtain ⟨d_P_len, F_P_len⟩ := c.df 33 (d := dPLen (fun K => ma K (ga K "Pool") "__len__")) rfl
  have m_P_place := meth_ok (c.fact 65 (f := fun K => (Fa.meth "Pool" "place").ok K) rfl)
  obtain ⟨d_P_place, F_P_place⟩ := c.df 34 (d := dPPlace (fun K => ma K (ga K "Pool") "place")) rfl
  have m_P_take := meth_ok (c.fact 66 (f := fun K => (Fa.meth "Pool" "take").ok K) rfl)
  obtain ⟨d_P_take, F_P_take⟩ := c.df 35 (d := dPTake (fun K => ma K (ga K "Pool") "take")) rfl
  have m_P_give := meth_ok (c.fact 67 (f := fun K => (Fa.meth "Pool" "give").ok K) rfl)
  obtain ⟨d_P_give, F_P_give⟩ := c.df 36 (d := dPGive (fun K => ma K (ga K "Pool") "give")) rfl
  have m_P_pass_on := meth_ok (c.fact 68 (f := fun K => (Fa.meth "Pool" "pass_on").ok K) rfl)
  obtain ⟨d_P_pass_on, F_P_pass_on⟩ := c.df 37 (d := dPPass (fun K => ma K (ga K "Pool") "pass_on")) rfl
  have m_P_wait := meth_ok (c.fact 69 (f := fun K => (Fa.meth "Pool" "wait").ok K) rfl)
  obtain ⟨d_P_wait, F_P_wait⟩ := c.df 38 (d := dPWait (fun K => ma K (ga K "Pool") "wait")) rfl
  have m_S_init := meth_ok (c.fact 78 (f := fun K => (Fa.meth "Story" "__init__").ok K) rfl)
  obtain ⟨d_S_init, F_S_init⟩ := c.df 41 (d := dSInit (fun K => ma K (ga K "Story") "__init__")) rfl
  have m_S_begin := meth_ok (c.fact 79 (f := fun K => (Fa.meth "Story" "begin").ok K) rfl)
  obtain ⟨d_S_begin, F_S_begin⟩ := c.df 42 (d := dSBegin (fun K => ma K (ga K "Story") "begin")) rfl
  have m_S_got := meth_ok (c.fact 80 (f := fun K => (Fa.meth "Story" "got").ok K) rfl)
  obtain ⟨d_S_got, F_S_got⟩ := c.df 43 (d := dSGot (fun K => ma K (ga K "Story") "got")) rfl
  have m_S_makings := meth_ok (c.fact 81 (f := fun K => (Fa.meth "Story" "makings").ok K) rfl)
  obtain ⟨d_S_makings, F_S_makings⟩ := c.df 44 (d := dSMak (fun K => ma K (ga K "Story") "makings")) rfl
  have m_L_init := meth_ok (c.fact 89 (f := fun K => (Fa.meth "Links" "__init__").ok K) rfl)
  obtain ⟨d_L_init, F_L_init⟩ := c.df 45 (d := dLInit (fun K => ma K (ga K "Links") "__init__")) rfl
  have m_L_len := meth_ok (c.fact 90 (f := fun K => (Fa.meth "Links" "__len__").ok K) rfl)
  obtain ⟨d_L_len, F_L_len⟩ := c.df 46 (d := dLLen (fun K => ma K (ga K "Links") "__len__")) rfl
  have m_L_iter := meth_ok (c.fact 91 (f := fun K => (Fa.meth "Links" "__iter__").ok K) rfl)
  obtain ⟨d_L_iter, F_L_iter⟩ := c.df 47 (d := dLIter (fun K => ma K (ga K "Links") "__iter__")) rfl
  have m_L_gap := meth_ok (c.fact 92 (f := fun K => (Fa.meth "Links" "gap").ok K) rfl)
  obtain ⟨d_L_gap, F_L_gap⟩ := c.df 48 (d := dLGap (fun K => ma K (ga K "Links") "gap")) rfl
  have m_L_can_follow := meth_ok (c.fact 93 (f := fun K => (Fa.meth "Links" "can_follow").ok K) rfl)
  obtain ⟨d_L_can_follow, F_L_can_follow⟩ := c.df 49 (d := dLCan (fun K => ma K (ga K "Links") "can_follow")) rfl
  have m_L_is_dead := meth_ok (c.fact 94 (f := fun K => (Fa.meth "Links" "is_dead").ok K) rfl)
  obtain ⟨d_L_is_dead, F_L_is_dead⟩ := c.df 50 (d := dLDead (fun K => ma K (ga K "Links") "is_dead")) rfl
  have m_L_givers := meth_ok (c.fact 95 (f := fun K => (Fa.meth "Links" "givers").ok K) rfl)
  obtain ⟨d_L_givers, F_L_givers⟩ := c.df 51 (d := dLGivers (fun K => ma K (ga K "Links") "givers")) rfl
  have m_L_living := meth_ok (c.fact 96 (f := fun K => (Fa.meth "Links" "living").ok K) rfl)
  obtain ⟨d_L_living, F_L_living⟩ := c.df 52 (d := dLLiving (fun K => ma K (ga K "Links") "living")) rfl
  have m_L_best := meth_ok (c.fact 97 (f := fun K => (Fa.meth "Links" "best").ok K) rfl)
  obtain ⟨d_L_best, F_L_best⟩ := c.df 53 (d := dLBest (fun K => ma K (ga K "Links") "best")) rfl
  have m_L_crowd := meth_ok (c.fact 98 (f := fun K => (Fa.meth "Links" "crowd").ok K) rfl)
  obtain ⟨d_L_crowd, F_L_crowd⟩ := c.df 54 (d := dLCrowd (fun K => ma K (ga K "Links") "crowd")) rfl
  have p_now := propB_ok (c.fact 70 (f := fun K => propB K (ga K "Pool") "now") rfl)
  obtain ⟨d_Pnow, F_Pnow⟩ := c.df 39 (d := dPNow (fun K => getter K (ga K "Pool") "now")) rfl
  have p_made := propB_ok (c.fact 71 (f := fun K => propB K (ga K "Pool") "made") rfl)
  obtain ⟨d_Pmade, F_Pmade⟩ := c.df 40 (d := dPMade (fun K => getter K (ga K "Pool") "made")) rfl
  have e := hfa.symm.trans g_law
  cases e
  have b := FunD.bindsA (ps := ["_law_script"]) F_law fun _ _ _ _ _ _ us hl => match us, hl with | [_], _ => rfl
  refine ⟨d_law, fun s v => b s [v] rfl, fun base _ _ => ?_⟩
  have C_tupled := cal (P := P) (w := w) (base := base) F_tupled (ok_tupled F_tupled T g_tupled 2) g_tupled (F_tupled.bindsN fun _ _ _ _ _ _ us hl => match us, hl with | [_], _ => rfl)
  have C_last_end := cal (P := P) (w := w) (base := base) F_last_end (ok_last_end F_last_end T) g_last_end (F_last_end.bindsN fun _ _ _ _ _ _ us hl => match us, hl with | [_], _ => rfl)
  have C_counts := cal (P := P) (w := w) (base := base) F_counts (ok_counts F_counts T C_last_end) g_counts (F_counts.bindsN fun _ _ _ _ _ _ us hl => match us, hl with | [_], _ => rfl)
  have M_L_gap : MR P w K mg base 1 (ga K "Links") "gap" (spLGap (ga K "Links")) := ⟨⟨_, c_Links, m_L_gap, ok_LGap F_L_gap T LFk⟩⟩
  have M_L_can_follow : MR P w K mg base 2 (ga K "Links") "can_follow" (spLCan (ga K "Links")) := ⟨⟨_, c_Links, m_L_can_follow, ok_LCan F_L_can_follow T LFk M_L_gap⟩⟩
  have M_L_is_dead : MR P w K mg base 2 (ga K "Links") "is_dead" (spLDead (ga K "Links")) := ⟨⟨_, c_Links, m_L_is_dead, ok_LDead F_L_is_dead T LFk M_L_gap⟩⟩
  have I_L : LI P w K mg base (ga K "Links") := ⟨⟨_, m_L_iter.at_, m_L_iter.fn, ok_LIter F_L_iter T LFk⟩⟩
  have M_L_givers : MR P w K mg base 3 (ga K "Links") "givers" (spLGivers (ga K "Links")) := ⟨⟨_, c_Links, m_L_givers, ok_LGivers F_L_givers T I_L M_L_can_follow⟩⟩
  have M_L_living : MR P w K mg base 4 (ga K "Links") "living" (spLLiving (ga K "Links")) := ⟨⟨_, c_Links, m_L_living, ok_LLiving F_L_living T M_L_givers M_L_is_dead⟩⟩
  have M_L_best : MR P w K mg base 5 (ga K "Links") "best" (spLBest (ga K "Links")) := ⟨⟨_, c_Links, m_L_best, ok_LBest F_L_best T LFk I_L M_L_living⟩⟩
  have M_L_crowd : MR P w K mg base 6 (ga K "Links") "crowd" (spLCrowd (ga K "Links")) := ⟨⟨_, c_Links, m_L_crowd, ok_LCrowd F_L_crowd T LFk I_L M_L_living M_L_best⟩⟩
  have K_L : LMk P w K mg base (ga K "Links") := ⟨⟨_, _, _, [], k_Links, ok_LInit F_L_init T LFk C_tupled, g_Links, F_L_init.bindsN fun _ _ _ _ _ _ us hl => match us, hl with | [_, _, _, _], _ => rfl, .nil⟩⟩
  have LAk : LA P w K mg base (ga K "Links") := ⟨LFk, I_L, K_L, ⟨_, m_L_len.at_, m_L_len.fn, ok_LLen F_L_len T LFk⟩, M_L_gap, M_L_is_dead, M_L_best, M_L_crowd⟩
  have C_fewest_lifeless := cal (P := P) (w := w) (base := base) F_fewest_lifeless (ok_few F_fewest_lifeless T LAk) g_fewest_lifeless (F_fewest_lifeless.bindsN fun _ _ _ _ _ _ us hl => match us, hl with | [_, _, _], _ => rfl)
  have C_best_handing := cal (P := P) (w := w) (base := base) F_best_handing (ok_bestH F_best_handing T LAk) g_best_handing (F_best_handing.bindsN fun _ _ _ _ _ _ us hl => match us, hl with | [_, _, _], _ => rfl)
  have C_crowd := cal (P := P) (w := w) (base := base) F_crowd (ok_crowd F_crowd T LAk) g_crowd (F_crowd.bindsN fun _ _ _ _ _ _ us hl => match us, hl with | [_, _, _], _ => rfl)
  have C_dead := cal (P := P) (w := w) (base := base) F_dead (ok_dead F_dead T LAk) g_dead (F_dead.bindsN fun _ _ _ _ _ _ us hl => match us, hl with | [_, _, _], _ => rfl)
  have C_lifeless := cal (P := P) (w := w) (base := base) F_lifeless (ok_lifeless F_lifeless T C_dead) g_lifeless (F_lifeless.bindsN fun _ _ _ _ _ _ us hl => match us, hl with | [_, _, _], _ => rfl)
  have C_steps := cal (P := P) (w := w) (base := base) F_steps (ok_steps F_steps T LAk C_fewest_lifeless) g_steps (F_steps.bindsN fun _ _ _ _ _ _ us hl => match us, hl with | [_, _], _ => rfl)
  have Pr_now : PrR P w K mg base 1 (ga K "Pool") "now" (spPNow (ga K "Pool")) := ⟨⟨_, _, c_Pool, p_now, ok_PNow F_Pnow PFk⟩⟩
  have Pr_made : PrR P w K mg base 1 (ga K "Pool") "made" (spPMade (ga K "Pool")) := ⟨⟨_, _, c_Pool, p_made, ok_PMade F_Pmade PFk⟩⟩
  have M_P_place : MR P w K mg base 1 (ga K "Pool") "place" (spPPlace (ga K "Pool")) := ⟨⟨_, c_Pool, m_P_place, ok_PPlace F_P_place T PFk⟩⟩
  have M_P_take : MR P w K mg base 2 (ga K "Pool") "take" (spPTake (ga K "Pool")) := ⟨⟨_, c_Pool, m_P_take, ok_PTake F_P_take T PFk M_P_place⟩⟩
  have M_P_give : MR P w K mg base 1 (ga K "Pool") "give" (spPGive (ga K "Pool")) := ⟨⟨_, c_Pool, m_P_give, ok_PGive F_P_give T PFk⟩⟩
  have M_P_pass_on : MR P w K mg base 1 (ga K "Pool") "pass_on" (spPPass (ga K "Pool")) := ⟨⟨_, c_Pool, m_P_pass_on, ok_PPass F_P_pass_on T PFk⟩⟩
  have M_P_wait : MR P w K mg base 2 (ga K "Pool") "wait" (fun vs H Q E => spPWait (ga K "Pool") (vs ++ [.int 1]) H Q E) := ⟨⟨_, c_Pool, m_P_wait, ok_PWait F_P_wait T PFk M_P_pass_on⟩⟩
  obtain ⟨dsP, hdsP, hbP⟩ := F_P_init.binds1 (ps := ["self", "keep", "depth"]) 3 1 (by simp) rfl fun T kV doc pm an cdv ct us its h1 h2 => match us, its, h1, h2 with | [_, _, _], [_], _, _ => ⟨_, rfl, rfl⟩
  have K_P : PMk P w K mg base (ga K "Pool") := ⟨⟨_, _, _, dsP, k_Pool, ok_PInit F_P_init T PFk, g_Pool, hbP, hdsP⟩⟩
  have M_S_begin : MR P w K mg base 3 (ga K "Story") "begin" (spSBegin (ga K "Story") (ga K "Pool")) := ⟨⟨_, c_Story, m_S_begin, ok_SBegin F_S_begin T SFk Pr_now Pr_made M_P_take⟩⟩
  have K_S : SMk P w K mg base (ga K "Story") (ga K "Pool") := ⟨⟨_, _, _, [], k_Story, ok_SInit F_S_init T SFk C_tupled C_last_end Pr_now m_P_len.at_ m_P_len.fn (ok_PLen F_P_len T PFk) M_P_give M_S_begin M_P_wait, g_Story, F_S_init.bindsN fun _ _ _ _ _ _ us hl => match us, hl with | [_, _, _], _ => rfl, .nil⟩⟩
  have M_S_got : MR P w K mg base 1 (ga K "Story") "got" (spSGot (ga K "Story")) := ⟨⟨_, c_Story, m_S_got, ok_SGot F_S_got T SFk⟩⟩
  have M_S_makings : MR P w K mg base 1 (ga K "Story") "makings" (spSMak (ga K "Story")) := ⟨⟨_, c_Story, m_S_makings, ok_SMak F_S_makings T SFk⟩⟩
  have C_things := cal (P := P) (w := w) (base := base) F_things (ok_things F_things T K_S K_P M_S_got) g_things (F_things.bindsN fun _ _ _ _ _ _ us hl => match us, hl with | [_, _, _], _ => rfl)
  have C_made_at := cal (P := P) (w := w) (base := base) F_made_at (ok_made F_made_at T K_S K_P M_S_makings) g_made_at (F_made_at.bindsN fun _ _ _ _ _ _ us hl => match us, hl with | [_, _, _], _ => rfl)
  have C_handing_of := cal (P := P) (w := w) (base := base) F_handing_of (ok_handing F_handing_of T C_things) g_handing_of (F_handing_of.bindsN fun _ _ _ _ _ _ us hl => match us, hl with | [_, _, _], _ => rfl)
  have C__law_take := cal (P := P) (w := w) (base := base) F__law_take (ok_Tk F__law_take T) g__law_take (F__law_take.bindsN fun _ _ _ _ _ _ us hl => match us, hl with | [_, _], _ => rfl)
  have C__law_of := cal (P := P) (w := w) (base := base) F__law_of (ok_Of F__law_of T C__law_take) g__law_of (F__law_of.bindsN fun _ _ _ _ _ _ us hl => match us, hl with | [_, _], _ => rfl)
  have C__law_keep := cal (P := P) (w := w) (base := base) F__law_keep (ok_Kp F__law_keep C__law_of) g__law_keep (F__law_keep.bindsN fun _ _ _ _ _ _ us hl => match us, hl with | [_], _ => rfl)
  have C__law_far := cal (P := P) (w := w) (base := base) F__law_far (ok_Far F__law_far T C__law_take C__law_of) g__law_far (F__law_far.bindsN fun _ _ _ _ _ _ us hl => match us, hl with | [_], _ => rfl)
  have C__law_loans := cal (P := P) (w := w) (base := base) F__law_loans (ok_Lo F__law_loans T C__law_take C__law_of) g__law_loans (F__law_loans.bindsN fun _ _ _ _ _ _ us hl => match us, hl with | [_, _, _], _ => rfl)
  have C__law_line := cal (P := P) (w := w) (base := base) F__law_line (ok_Li F__law_line T C__law_take C__law_loans) g__law_line (F__law_line.bindsN fun _ _ _ _ _ _ us hl => match us, hl with | [_, _, _], _ => rfl)
  have C__law_gap := cal (P := P) (w := w) (base := base) F__law_gap (ok_WGap F__law_gap) g__law_gap (F__law_gap.bindsN fun _ _ _ _ _ _ us hl => match us, hl with | [_, _, _], _ => rfl)
  have C__law_givers := cal (P := P) (w := w) (base := base) F__law_givers (ok_WGiv F__law_givers T C__law_gap) g__law_givers (F__law_givers.bindsN fun _ _ _ _ _ _ us hl => match us, hl with | [_, _, _], _ => rfl)
  have C__law_is_dead := cal (P := P) (w := w) (base := base) F__law_is_dead (ok_WDead F__law_is_dead T C__law_gap) g__law_is_dead (F__law_is_dead.bindsN fun _ _ _ _ _ _ us hl => match us, hl with | [_, _, _, _], _ => rfl)
  have C__law_living := cal (P := P) (w := w) (base := base) F__law_living (ok_WLiv F__law_living T C__law_givers C__law_is_dead) g__law_living (F__law_living.bindsN fun _ _ _ _ _ _ us hl => match us, hl with | [_, _, _, _], _ => rfl)
  have C__law_excess := cal (P := P) (w := w) (base := base) F__law_excess (ok_WExc F__law_excess T C__law_living) g__law_excess (F__law_excess.bindsN fun _ _ _ _ _ _ us hl => match us, hl with | [_, _, _, _], _ => rfl)
  have C__law_pieces := cal (P := P) (w := w) (base := base) F__law_pieces (ok_WPcs F__law_pieces T) g__law_pieces (F__law_pieces.bindsN fun _ _ _ _ _ _ us hl => match us, hl with | [_, _], _ => rfl)
  have C__law_drawn := cal (P := P) (w := w) (base := base) F__law_drawn (ok_Dw F__law_drawn T C__law_givers C__law_of) g__law_drawn (F__law_drawn.bindsN fun _ _ _ _ _ _ us hl => match us, hl with | [_, _, _], _ => rfl)
  have C__law_box := cal (P := P) (w := w) (base := base) F__law_box (ok_Bx F__law_box T) g__law_box (F__law_box.bindsN fun _ _ _ _ _ _ us hl => match us, hl with | [_, _], _ => rfl)
  have C__law_cells := cal (P := P) (w := w) (base := base) F__law_cells (ok_Ce F__law_cells T) g__law_cells (F__law_cells.bindsN fun _ _ _ _ _ _ us hl => match us, hl with | [_, _], _ => rfl)
  have C__law_same := cal (P := P) (w := w) (base := base) F__law_same (ok_Same1 F__law_same T g__law_same) g__law_same (F__law_same.bindsN fun _ _ _ _ _ _ us hl => match us, hl with | [_, _], _ => rfl)
  have C__law_by_hand_right := cal (P := P) (w := w) (base := base) F__law_by_hand_right (ok_Bh F__law_by_hand_right T C_fewest_lifeless C__law_same) g__law_by_hand_right (F__law_by_hand_right.bindsN fun _ _ _ _ _ _ us hl => match us, hl with | [], _ => rfl)
  have C__law_lanes_right := cal (P := P) (w := w) (base := base) F__law_lanes_right (ok_Lr F__law_lanes_right T C_fewest_lifeless C__law_excess C_crowd C_handing_of C__law_drawn C_lifeless C_best_handing) g__law_lanes_right (F__law_lanes_right.bindsN fun _ _ _ _ _ _ us hl => match us, hl with | [_, _, _, _], _ => rfl)
  have C__law_right := cal (P := P) (w := w) (base := base) F__law_right (ok_Rt F__law_right T ⟨C__law_by_hand_right, C__law_line, C__law_keep, C__law_far, C_fewest_lifeless, C_made_at, C__law_pieces, C__law_lanes_right, C__law_take, C_steps, C_counts⟩) g__law_right (F__law_right.bindsN fun _ _ _ _ _ _ us hl => match us, hl with | [_], _ => rfl)
  exact ok_Law F_law T C__law_cells C__law_box C__law_right
end Q
open PySem PySem.W PySem.Calls PyProof.Rows
theorem PySem.Challenge.cw_lentpile_k75_whole_nothing_alive_in_part_holds : PySem.Challenge.rw_lentpile_k75_whole_nothing_alive_in_part.Holds := by
  w_on; o_law
  refine HandSHeadRun.head_any (r := Q.hdR) (q := view Q.hdR.prog [42]) (H := Q.hdHk) (ob := Q.hdOb) (M := 4000) (loose := Q.hdLoose1 ++ Q.hdLoose2) (d := HandSHeadRun.topDef Q.hdR.prog 42) (kwd := []) Q.hdObEq
    (by kernel_rfl) (fun s => by kernel_rfl) Q.hdRun (by kernel_rfl) (by kernel_rfl) (by kernel_rfl) (by rfl) (by first | assumption | decide +kernel) (by decide +kernel) ⟨rfl, rfl, rfl, rfl, rfl, by decide +kernel⟩ ?hw ?hc
  case hw => w_witness2
  case hc =>
    refine L2.walk_ofE (l := PySem.Challenge.rw_lentpile_k75_whole_nothing_alive_in_part) (n := 63) (k := 10) (x := "_law_script") (CX := L2.CX0) rfl (by decide) (by kernel_rfl) ⟨rfl, by decide, by decide⟩ ?F (fun _ _ _ _ z => z)
    intro w mg hdFa h Y G hmg0
    obtain ⟨K, KX, c⟩ := Y
    have hmg : mg ("law" : PySem.Str) = some (.ref hdFa) := by
      have e : (HandSHeadRun.topDef Q.hdR.prog 42).name = ("law" : PySem.Str) := by kernel_rfl
      rw [← e]
      exact hmg0
    obtain ⟨fd, hb, hF⟩ := Q.facts (P := (PySem.Challenge.rw_lentpile_k75_whole_nothing_alive_in_part).prog) (w := w) KX G hmg c
    exact ⟨K, fd, Q.spLaw K, KX, hb, fun H a ns hl _ hS => ⟨ns, H, fun _ _ q => q, ⟨hl, a, rfl, hS⟩, fun v H2 e2 r => Q.De.bl' r⟩, hF⟩
