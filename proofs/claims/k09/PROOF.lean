import PyProof.Rows.All
import Wide.All
import OpenK.AllK
import Wide.FinOn
import PyProof.EqAt
import PyProof.EqKinds
import PyProof.TupleCall
import KE.KStateDown
import Lean
import HandS.Base
import HandS.Call
import HandS.List
import HandS.Comp
import HandS.Ends
import HandS.Dict
import HandS.Iter
import HandS.Text
import HandS.More
import HandS.Exc
import HandS.TryOnly
import HandS.TryMany
import HandS.ExcOwn
import HandS.ExcIs
import HandS.IsInst
import HandS.Conv
import HandS.Words
import HandS.WordsList
import HandS.WordsExc
import HandS.Evl
import HandS.Steps
import HandS.Defaults
import HandS.CallSlots
import HandS.Codes
import HandS.Deep
import HandS.DeepEq
import HandS.Flow
import HandS.Head0
import HandS.Head1
import HandS.Head2
import HandS.HeadEnd
import HandS.HeadHook1
import HandS.HeadHook2
import HandS.Hot
import HandS.HotCalls
import HandS.NoneIn
import HandS.RevTup
import HandS.Rev
import HandS.Sort
import HandS.SortInts
import HandS.SortKw
import HandS.SuiteRaise
import HandS.TupAny
import HandS.TupLe
import HandS.TupMul
import HandS.Wide
import HandS.Zip
import HandS.Style
import HandS.TupSets
import HandS.StrMore
import HandS.StrSplit
import HandS.Small
import HandS.RaiseMore
import KE.SortData
import KE.SortKeyHeap
import KE.KDictKeyed
import KE.KDictLaw
import KE.KDictWalk
import KE.KDictDisplayH
import KE.GoesDict
import PySem.Challenge.RW_ferrynight_k09_texts_read
set_option Elab.async false
set_option linter.all false
set_option maxRecDepth 100000
set_option maxHeartbeats 4000000

namespace Fy
open PySem PySem.Spec PyProof.Rows L2
/-! ### the head: facts by names, a Bool of one's own beside them -/
section HeadX
open PySem PySem.Spec PyProof.Rows L2
/-- what isinstance asks of an exception's class -/
def exB (K : PySem.W.Frag) (x : Str) : Bool := He.eqO (PySem.W.findIn K (.ref (He.ga K x)) "__getattribute__") (some (some (.builtin "BaseException.__getattribute__"))) && (He.eqO (PySem.W.findIn K (.ref (He.ga K x)) "__getattr__") (some none) && (decide (PySem.W.subIn K (.ref (He.ga K x)) (.type "BaseException") = some true) &&
  (PySem.W.hasDictIn K (He.ga K x) && (He.eqO (PySem.W.findIn K (.ref (He.ga K x)) "__class__") (some (some (.builtin "object.__class__"))) && (He.eqO (PySem.W.specialIn K (.builtin "object.__class__") "__get__") (some (some (.builtin "getset_descriptor.__get__"))) &&
  (decide (PySem.W.takesIn K (.builtin "object.__class__") = some true) && decide (PySem.W.mroIn K (He.ga K x) (.type "object") = some true)))))))
theorem exC_of {K : PySem.W.Frag} {x : Str} (h : exB K x = true) : ExcC K (He.ga K x) := by
  obtain ⟨h1, h⟩ := He.ba h
  obtain ⟨h2, h⟩ := He.ba h
  obtain ⟨h3, h⟩ := He.ba h
  obtain ⟨h4, h⟩ := He.ba h
  obtain ⟨h5, h⟩ := He.ba h
  obtain ⟨h6, h⟩ := He.ba h
  obtain ⟨h7, h8⟩ := He.ba h
  exact ⟨He.eqO_ok h1, He.eqO_ok h2, of_decide_eq_true h3, h4, He.eqO_ok h5, He.eqO_ok h6, of_decide_eq_true h7, of_decide_eq_true h8⟩
/-- an own exception's class, for raise -/
structure ExOk (K : PySem.W.Frag) (C : Addr) : Prop where
  ex : PySem.W.excIn K C He.veBase "ValueError.__new__" = true
  kp : PySem.W.keepIn K (.ref C) = true
  sub : PySem.W.subIn K (.ref C) (.type "BaseException") = some true
  ty : PySem.W.typeIn K (.ref C) = some (.type "type")
theorem exOk_of {K : PySem.W.Frag} {x : Str} (h : (He.Fa.exc x).ok K = true) : ExOk K (He.ga K x) := by
  obtain ⟨a, b, c, d⟩ := He.exc_ok h
  exact ⟨a, b, c, d⟩
abbrev AlX : Type := He.AlD × Bool
def obsX (fa : List He.Fa) (fn : List He.DefD) (xb : PySem.W.Frag → Bool) (K : PySem.W.Frag) : AlX := (He.obsD fa fn K, xb K)
def valX (fn : List He.DefD) : AlX := (He.valD fn, true)
def SaysX (fa : List He.Fa) (fn : List He.DefD) (xb : PySem.W.Frag → Bool) (K : PySem.W.Frag) : Prop := obsX fa fn xb K = valX fn
theorem SaysX.d {fa : List He.Fa} {fn : List He.DefD} {xb : PySem.W.Frag → Bool} {K : PySem.W.Frag} (c : SaysX fa fn xb K) : He.SaysD fa fn K := congrArg (fun z : AlX => z.1) c
theorem SaysX.x {fa : List He.Fa} {fn : List He.DefD} {xb : PySem.W.Frag → Bool} {K : PySem.W.Frag} (c : SaysX fa fn xb K) : xb K = true := congrArg (fun z : AlX => z.2) c
def obsXG (n : Nat) (fa : List He.Fa) (fn : List He.DefD) (xb : PySem.W.Frag → Bool) (g : Addr → Option Obj) : AlX := obsX fa fn xb (He.frG g (He.asD g n))
def hookX (n : Nat) (fa : List He.Fa) (fn : List He.DefD) (xb : PySem.W.Frag → Bool) : PySem.W.Hook where
  α := AlX
  obs := fun s => obsXG n fa fn xb s.heap.get?
  val := fun _ => valX fn
  says := fun _ h => ∃ K : PySem.W.Frag, K.In h ∧ SaysX fa fn xb K
  of := fun _ _ e => ⟨_, He.frG_in, e⟩
  keeps := fun _ _ _ ⟨K, hK, c⟩ k => ⟨K, PySem.W.Frag.In.keeps hK k, c⟩
theorem obsXG_eq {n : Nat} {fa : List He.Fa} {fn : List He.DefD} {xb : PySem.W.Frag → Bool} {g : Addr → Option Obj} {s : Shared} (h : ∀ a, g a = s.heap.get? a) : obsXG n fa fn xb g = (hookX n fa fn xb).obs s := by
  have e : g = s.heap.get? := funext h
  rw [e] <;> rfl
/-- which classes stand under which -/
def isx (x y : Str) : Bool := decide (x = y) || decide (y = ("FerryError" : Str))
end HeadX

end Fy

namespace Fy
open PySem PySem.Spec PyProof.Rows L2
abbrev R : PySem.W.OpenRow := PySem.W.OpenLaw.row PySem.Challenge.rw_ferrynight_k09_texts_read
def top (i : Nat) : Stmt := PySem.Challenge.pw_ferrynight_k09_texts_read.main.body.getD i (.Pass ⟨0, 0, 0, 0⟩)
abbrev s__wall : Stmt := top 0
abbrev s_look_at_things : Stmt := top 15
abbrev s_look_at_quarrel : Stmt := top 16
abbrev s_number_of : Stmt := top 20
abbrev s_thing_of : Stmt := top 21
abbrev s_quarrel_of : Stmt := top 22
abbrev s_read : Stmt := top 23
abbrev s__law_cell_at : Stmt := top 25
abbrev s__law_quarrel : Stmt := top 26
abbrev s__law_quarrels : Stmt := top 27
abbrev s__law_things : Stmt := top 28
abbrev s__law_night : Stmt := top 29
abbrev s__law_lines : Stmt := top 30
abbrev s__law_spoiled : Stmt := top 31
abbrev s__law_odd : Stmt := top 32
abbrev s__law_number : Stmt := top 33
abbrev s__law_thing : Stmt := top 34
abbrev s__law_told_quarrel : Stmt := top 35
abbrev s__law_due : Stmt := top 36
abbrev s__law_told : Stmt := top 37
abbrev s_law : Stmt := top 38
abbrev s_Night___init__ : Stmt := inClass (top 17) 0
abbrev s_Night_things : Stmt := inClass (top 17) 1
abbrev s_Night_room : Stmt := inClass (top 17) 2
abbrev s_Night_quarrels : Stmt := inClass (top 17) 3
abbrev s_Night_begins : Stmt := inClass (top 17) 4
abbrev s_Night_ends : Stmt := inClass (top 17) 5
abbrev s_Night_peace : Stmt := inClass (top 17) 6
abbrev s_Night_over_there : Stmt := inClass (top 17) 7
def fa : List He.Fa := [
  .glo "_wall",
  .glo "look_at_things",
  .glo "look_at_quarrel",
  .glo "number_of",
  .glo "thing_of",
  .glo "quarrel_of",
  .glo "read",
  .glo "_law_cell_at",
  .glo "_law_quarrel",
  .glo "_law_quarrels",
  .glo "_law_things",
  .glo "_law_night",
  .glo "_law_lines",
  .glo "_law_spoiled",
  .glo "_law_odd",
  .glo "_law_number",
  .glo "_law_thing",
  .glo "_law_told_quarrel",
  .glo "_law_due",
  .glo "_law_told",
  .glo "law",
  .glo "Night",
  .cls "Night",
  .mkr "Night",
  .noat "Night" "all_things",
  .noat "Night" "places",
  .noat "Night" "all_quarrels",
  .meth "Night" "things",
  .meth "Night" "room",
  .meth "Night" "quarrels",
  .meth "Night" "begins",
  .meth "Night" "ends",
  .meth "Night" "peace",
  .meth "Night" "over_there",
  .glo "FerryError",
  .exc "FerryError",
  .glo "BadThing",
  .exc "BadThing",
  .glo "BadRoom",
  .exc "BadRoom",
  .glo "BadQuarrel",
  .exc "BadQuarrel",
  .glo "NoStanding",
  .exc "NoStanding",
  .glo "BadStart",
  .exc "BadStart",
  .glo "NoCrew",
  .exc "NoCrew",
  .glo "BadNote",
  .exc "BadNote",
  .free "len",
  .free "range",
  .free "list",
  .free "min",
  .free "isinstance",
  .free "ValueError",
  .free "int",
  .free "str",
  .free "set",
  .int "MOST_THINGS" 6,
  .int "MOST_ROOM" 3,
  .int "MOST_QUARRELS" 30,
  .int "SLOWEST" 1000000000,
  .str "FIGURES" "0123456789"
]
def fn : List He.DefD := [
  ⟨("look_at_things", none), "look_at_things", "look_at_things", defArgs s_look_at_things, defBody s_look_at_things, defScope s_look_at_things, [], []⟩,
  ⟨("look_at_quarrel", none), "look_at_quarrel", "look_at_quarrel", defArgs s_look_at_quarrel, defBody s_look_at_quarrel, defScope s_look_at_quarrel, [], []⟩,
  ⟨("number_of", none), "number_of", "number_of", defArgs s_number_of, defBody s_number_of, defScope s_number_of, [], []⟩,
  ⟨("thing_of", none), "thing_of", "thing_of", defArgs s_thing_of, defBody s_thing_of, defScope s_thing_of, [], []⟩,
  ⟨("quarrel_of", none), "quarrel_of", "quarrel_of", defArgs s_quarrel_of, defBody s_quarrel_of, defScope s_quarrel_of, [], []⟩,
  ⟨("read", none), "read", "read", defArgs s_read, defBody s_read, defScope s_read, [], []⟩,
  ⟨("_law_cell_at", none), "_law_cell_at", "_law_cell_at", defArgs s__law_cell_at, defBody s__law_cell_at, defScope s__law_cell_at, [], []⟩,
  ⟨("_law_quarrel", none), "_law_quarrel", "_law_quarrel", defArgs s__law_quarrel, defBody s__law_quarrel, defScope s__law_quarrel, [], []⟩,
  ⟨("_law_quarrels", none), "_law_quarrels", "_law_quarrels", defArgs s__law_quarrels, defBody s__law_quarrels, defScope s__law_quarrels, [], []⟩,
  ⟨("_law_things", none), "_law_things", "_law_things", defArgs s__law_things, defBody s__law_things, defScope s__law_things, [], []⟩,
  ⟨("_law_night", none), "_law_night", "_law_night", defArgs s__law_night, defBody s__law_night, defScope s__law_night, [], []⟩,
  ⟨("_law_lines", none), "_law_lines", "_law_lines", defArgs s__law_lines, defBody s__law_lines, defScope s__law_lines, [], []⟩,
  ⟨("_law_spoiled", none), "_law_spoiled", "_law_spoiled", defArgs s__law_spoiled, defBody s__law_spoiled, defScope s__law_spoiled, [], []⟩,
  ⟨("_law_odd", none), "_law_odd", "_law_odd", defArgs s__law_odd, defBody s__law_odd, defScope s__law_odd, [], []⟩,
  ⟨("_law_number", none), "_law_number", "_law_number", defArgs s__law_number, defBody s__law_number, defScope s__law_number, [], []⟩,
  ⟨("_law_thing", none), "_law_thing", "_law_thing", defArgs s__law_thing, defBody s__law_thing, defScope s__law_thing, [], []⟩,
  ⟨("_law_told_quarrel", none), "_law_told_quarrel", "_law_told_quarrel", defArgs s__law_told_quarrel, defBody s__law_told_quarrel, defScope s__law_told_quarrel, [], []⟩,
  ⟨("_law_due", none), "_law_due", "_law_due", defArgs s__law_due, defBody s__law_due, defScope s__law_due, [], []⟩,
  ⟨("_law_told", none), "_law_told", "_law_told", defArgs s__law_told, defBody s__law_told, defScope s__law_told, [], []⟩,
  ⟨("law", none), "law", "law", defArgs s_law, defBody s_law, defScope s_law, [], []⟩,
  ⟨("Night", some "__init__"), "__init__", "Night.__init__", defArgs s_Night___init__, defBody s_Night___init__, defScope s_Night___init__, [], []⟩,
  ⟨("Night", some "things"), "things", "Night.things", defArgs s_Night_things, defBody s_Night_things, defScope s_Night_things, [], []⟩,
  ⟨("Night", some "room"), "room", "Night.room", defArgs s_Night_room, defBody s_Night_room, defScope s_Night_room, [], []⟩,
  ⟨("Night", some "quarrels"), "quarrels", "Night.quarrels", defArgs s_Night_quarrels, defBody s_Night_quarrels, defScope s_Night_quarrels, [], []⟩,
  ⟨("Night", some "begins"), "begins", "Night.begins", defArgs s_Night_begins, defBody s_Night_begins, defScope s_Night_begins, [], []⟩,
  ⟨("Night", some "ends"), "ends", "Night.ends", defArgs s_Night_ends, defBody s_Night_ends, defScope s_Night_ends, [], []⟩,
  ⟨("Night", some "peace"), "peace", "Night.peace", defArgs s_Night_peace, defBody s_Night_peace, defScope s_Night_peace, [], []⟩,
  ⟨("Night", some "over_there"), "over_there", "Night.over_there", defArgs s_Night_over_there, defBody s_Night_over_there, defScope s_Night_over_there, [], []⟩
]
def exs : List Str := ["FerryError", "BadThing", "BadRoom", "BadQuarrel", "NoStanding", "BadStart", "NoCrew", "BadNote"]
def xb (K : PySem.W.Frag) : Bool := (exs.all (fun x => exB K x) && (exs.all (fun x => exs.all fun y => decide (PySem.W.kitOne K (.ref (He.ga K x)) (.ref (He.ga K y)) = some (isx x y))) && (exs.all (fun x => decide (PySem.W.kitOne K (.ref (He.ga K x)) (.type "ValueError") = some true)) && exs.all (fun x => exs.all fun y => decide (PySem.W.exmOne K (.ref (He.ga K x)) (.ref (He.ga K y)) = some (isx x y))))))
abbrev hk : PySem.W.Hook := hookX 5 fa fn xb
def ob (s : PySem.W.SharedT) : hk.α := obsXG 5 fa fn xb (HandSHeadRun.getT s)
theorem ob_eq (s : PySem.W.SharedT) : ob s = hk.obs s.abs := obsXG_eq (HandSHeadRun.getT_eq s)
def nms0 : List PySem.Str := ["_wall", "FerryError", "BadThing", "BadRoom", "BadQuarrel", "NoStanding", "BadStart", "NoCrew", "BadNote", "MOST_THINGS", "MOST_ROOM", "MOST_QUARRELS", "SLOWEST", "look_at_things", "look_at_quarrel", "Night", "FIGURES", "number_of", "thing_of", "quarrel_of", "read", "_law_cell_at", "_law_quarrel", "_law_quarrels", "_law_things", "_law_night", "_law_lines", "_law_spoiled", "_law_odd", "_law_number"]
def nms1 : List PySem.Str := ["_law_thing", "_law_told_quarrel", "_law_due", "_law_told"]
def nms : List PySem.Str := nms0 ++ nms1
abbrev qv : Program := PySem.W.view R.prog [38]
structure Tx (K : PySem.W.Frag) (mg : Str → Option Value) : Prop where
  g__wall : mg "_wall" = some (.ref (He.ga K "_wall"))
  g_look_at_things : mg "look_at_things" = some (.ref (He.ga K "look_at_things"))
  g_look_at_quarrel : mg "look_at_quarrel" = some (.ref (He.ga K "look_at_quarrel"))
  g_number_of : mg "number_of" = some (.ref (He.ga K "number_of"))
  g_thing_of : mg "thing_of" = some (.ref (He.ga K "thing_of"))
  g_quarrel_of : mg "quarrel_of" = some (.ref (He.ga K "quarrel_of"))
  g_read : mg "read" = some (.ref (He.ga K "read"))
  g__law_cell_at : mg "_law_cell_at" = some (.ref (He.ga K "_law_cell_at"))
  g__law_quarrel : mg "_law_quarrel" = some (.ref (He.ga K "_law_quarrel"))
  g__law_quarrels : mg "_law_quarrels" = some (.ref (He.ga K "_law_quarrels"))
  g__law_things : mg "_law_things" = some (.ref (He.ga K "_law_things"))
  g__law_night : mg "_law_night" = some (.ref (He.ga K "_law_night"))
  g__law_lines : mg "_law_lines" = some (.ref (He.ga K "_law_lines"))
  g__law_spoiled : mg "_law_spoiled" = some (.ref (He.ga K "_law_spoiled"))
  g__law_odd : mg "_law_odd" = some (.ref (He.ga K "_law_odd"))
  g__law_number : mg "_law_number" = some (.ref (He.ga K "_law_number"))
  g__law_thing : mg "_law_thing" = some (.ref (He.ga K "_law_thing"))
  g__law_told_quarrel : mg "_law_told_quarrel" = some (.ref (He.ga K "_law_told_quarrel"))
  g__law_due : mg "_law_due" = some (.ref (He.ga K "_law_due"))
  g__law_told : mg "_law_told" = some (.ref (He.ga K "_law_told"))
  g_law : mg "law" = some (.ref (He.ga K "law"))
  g_Night : mg "Night" = some (.ref (He.ga K "Night"))
  cl : Cls K (He.ga K "Night")
  mkr : Mk K (He.ga K "Night") (He.ma K (He.ga K "Night") "__init__")
  na_all_things : NoAttr K (He.ga K "Night") "all_things"
  na_places : NoAttr K (He.ga K "Night") "places"
  na_all_quarrels : NoAttr K (He.ga K "Night") "all_quarrels"
  m_things : Meth K (He.ga K "Night") "things" (He.ma K (He.ga K "Night") "things")
  m_room : Meth K (He.ga K "Night") "room" (He.ma K (He.ga K "Night") "room")
  m_quarrels : Meth K (He.ga K "Night") "quarrels" (He.ma K (He.ga K "Night") "quarrels")
  m_begins : Meth K (He.ga K "Night") "begins" (He.ma K (He.ga K "Night") "begins")
  m_ends : Meth K (He.ga K "Night") "ends" (He.ma K (He.ga K "Night") "ends")
  m_peace : Meth K (He.ga K "Night") "peace" (He.ma K (He.ga K "Night") "peace")
  m_over_there : Meth K (He.ga K "Night") "over_there" (He.ma K (He.ga K "Night") "over_there")
  g_FerryError : mg "FerryError" = some (.ref (He.ga K "FerryError"))
  x_FerryError : ExOk K (He.ga K "FerryError")
  g_BadThing : mg "BadThing" = some (.ref (He.ga K "BadThing"))
  x_BadThing : ExOk K (He.ga K "BadThing")
  g_BadRoom : mg "BadRoom" = some (.ref (He.ga K "BadRoom"))
  x_BadRoom : ExOk K (He.ga K "BadRoom")
  g_BadQuarrel : mg "BadQuarrel" = some (.ref (He.ga K "BadQuarrel"))
  x_BadQuarrel : ExOk K (He.ga K "BadQuarrel")
  g_NoStanding : mg "NoStanding" = some (.ref (He.ga K "NoStanding"))
  x_NoStanding : ExOk K (He.ga K "NoStanding")
  g_BadStart : mg "BadStart" = some (.ref (He.ga K "BadStart"))
  x_BadStart : ExOk K (He.ga K "BadStart")
  g_NoCrew : mg "NoCrew" = some (.ref (He.ga K "NoCrew"))
  x_NoCrew : ExOk K (He.ga K "NoCrew")
  g_BadNote : mg "BadNote" = some (.ref (He.ga K "BadNote"))
  x_BadNote : ExOk K (He.ga K "BadNote")
  exm : ∀ x ∈ exs, ∀ y ∈ exs, PySem.W.exmOne K (.ref (He.ga K x)) (.ref (He.ga K y)) = some (isx x y)
  kit : ∀ x ∈ exs, ∀ y ∈ exs, PySem.W.kitOne K (.ref (He.ga K x)) (.ref (He.ga K y)) = some (isx x y)
  kitV : ∀ x ∈ exs, PySem.W.kitOne K (.ref (He.ga K x)) (.type "ValueError") = some true
  exc : ∀ x ∈ exs, ExcC K (He.ga K x)
  b_len : mg "len" = none
  b_range : mg "range" = none
  b_list : mg "list" = none
  b_min : mg "min" = none
  b_isinstance : mg "isinstance" = none
  b_ValueError : mg "ValueError" = none
  b_int : mg "int" = none
  b_str : mg "str" = none
  b_set : mg "set" = none
  i_MOST_THINGS : ∃ t, mg "MOST_THINGS" = some (.int 6 t)
  i_MOST_ROOM : ∃ t, mg "MOST_ROOM" = some (.int 3 t)
  i_MOST_QUARRELS : ∃ t, mg "MOST_QUARRELS" = some (.int 30 t)
  i_SLOWEST : ∃ t, mg "SLOWEST" = some (.int 1000000000 t)
  t_FIGURES : ∃ t, mg "FIGURES" = some (.str "0123456789" t)
  f_look_at_things : ∃ fd, FunD K "look_at_things" "look_at_things" (defArgs s_look_at_things) (defBody s_look_at_things) (defScope s_look_at_things) [] [] (He.ga K "look_at_things") fd
  f_look_at_quarrel : ∃ fd, FunD K "look_at_quarrel" "look_at_quarrel" (defArgs s_look_at_quarrel) (defBody s_look_at_quarrel) (defScope s_look_at_quarrel) [] [] (He.ga K "look_at_quarrel") fd
  f_number_of : ∃ fd, FunD K "number_of" "number_of" (defArgs s_number_of) (defBody s_number_of) (defScope s_number_of) [] [] (He.ga K "number_of") fd
  f_thing_of : ∃ fd, FunD K "thing_of" "thing_of" (defArgs s_thing_of) (defBody s_thing_of) (defScope s_thing_of) [] [] (He.ga K "thing_of") fd
  f_quarrel_of : ∃ fd, FunD K "quarrel_of" "quarrel_of" (defArgs s_quarrel_of) (defBody s_quarrel_of) (defScope s_quarrel_of) [] [] (He.ga K "quarrel_of") fd
  f_read : ∃ fd, FunD K "read" "read" (defArgs s_read) (defBody s_read) (defScope s_read) [] [] (He.ga K "read") fd
  f__law_cell_at : ∃ fd, FunD K "_law_cell_at" "_law_cell_at" (defArgs s__law_cell_at) (defBody s__law_cell_at) (defScope s__law_cell_at) [] [] (He.ga K "_law_cell_at") fd
  f__law_quarrel : ∃ fd, FunD K "_law_quarrel" "_law_quarrel" (defArgs s__law_quarrel) (defBody s__law_quarrel) (defScope s__law_quarrel) [] [] (He.ga K "_law_quarrel") fd
  f__law_quarrels : ∃ fd, FunD K "_law_quarrels" "_law_quarrels" (defArgs s__law_quarrels) (defBody s__law_quarrels) (defScope s__law_quarrels) [] [] (He.ga K "_law_quarrels") fd
  f__law_things : ∃ fd, FunD K "_law_things" "_law_things" (defArgs s__law_things) (defBody s__law_things) (defScope s__law_things) [] [] (He.ga K "_law_things") fd
  f__law_night : ∃ fd, FunD K "_law_night" "_law_night" (defArgs s__law_night) (defBody s__law_night) (defScope s__law_night) [] [] (He.ga K "_law_night") fd
  f__law_lines : ∃ fd, FunD K "_law_lines" "_law_lines" (defArgs s__law_lines) (defBody s__law_lines) (defScope s__law_lines) [] [] (He.ga K "_law_lines") fd
  f__law_spoiled : ∃ fd, FunD K "_law_spoiled" "_law_spoiled" (defArgs s__law_spoiled) (defBody s__law_spoiled) (defScope s__law_spoiled) [] [] (He.ga K "_law_spoiled") fd
  f__law_odd : ∃ fd, FunD K "_law_odd" "_law_odd" (defArgs s__law_odd) (defBody s__law_odd) (defScope s__law_odd) [] [] (He.ga K "_law_odd") fd
  f__law_number : ∃ fd, FunD K "_law_number" "_law_number" (defArgs s__law_number) (defBody s__law_number) (defScope s__law_number) [] [] (He.ga K "_law_number") fd
  f__law_thing : ∃ fd, FunD K "_law_thing" "_law_thing" (defArgs s__law_thing) (defBody s__law_thing) (defScope s__law_thing) [] [] (He.ga K "_law_thing") fd
  f__law_told_quarrel : ∃ fd, FunD K "_law_told_quarrel" "_law_told_quarrel" (defArgs s__law_told_quarrel) (defBody s__law_told_quarrel) (defScope s__law_told_quarrel) [] [] (He.ga K "_law_told_quarrel") fd
  f__law_due : ∃ fd, FunD K "_law_due" "_law_due" (defArgs s__law_due) (defBody s__law_due) (defScope s__law_due) [] [] (He.ga K "_law_due") fd
  f__law_told : ∃ fd, FunD K "_law_told" "_law_told" (defArgs s__law_told) (defBody s__law_told) (defScope s__law_told) [] [] (He.ga K "_law_told") fd
  f_law : ∃ fd, FunD K "law" "law" (defArgs s_law) (defBody s_law) (defScope s_law) [] [] (He.ga K "law") fd
  f_Night___init__ : ∃ fd, FunD K "__init__" "Night.__init__" (defArgs s_Night___init__) (defBody s_Night___init__) (defScope s_Night___init__) [] [] (He.ma K (He.ga K "Night") "__init__") fd
  f_Night_things : ∃ fd, FunD K "things" "Night.things" (defArgs s_Night_things) (defBody s_Night_things) (defScope s_Night_things) [] [] (He.ma K (He.ga K "Night") "things") fd
  f_Night_room : ∃ fd, FunD K "room" "Night.room" (defArgs s_Night_room) (defBody s_Night_room) (defScope s_Night_room) [] [] (He.ma K (He.ga K "Night") "room") fd
  f_Night_quarrels : ∃ fd, FunD K "quarrels" "Night.quarrels" (defArgs s_Night_quarrels) (defBody s_Night_quarrels) (defScope s_Night_quarrels) [] [] (He.ma K (He.ga K "Night") "quarrels") fd
  f_Night_begins : ∃ fd, FunD K "begins" "Night.begins" (defArgs s_Night_begins) (defBody s_Night_begins) (defScope s_Night_begins) [] [] (He.ma K (He.ga K "Night") "begins") fd
  f_Night_ends : ∃ fd, FunD K "ends" "Night.ends" (defArgs s_Night_ends) (defBody s_Night_ends) (defScope s_Night_ends) [] [] (He.ma K (He.ga K "Night") "ends") fd
  f_Night_peace : ∃ fd, FunD K "peace" "Night.peace" (defArgs s_Night_peace) (defBody s_Night_peace) (defScope s_Night_peace) [] [] (He.ma K (He.ga K "Night") "peace") fd
  f_Night_over_there : ∃ fd, FunD K "over_there" "Night.over_there" (defArgs s_Night_over_there) (defBody s_Night_over_there) (defScope s_Night_over_there) [] [] (He.ma K (He.ga K "Night") "over_there") fd
theorem tx_of {K : PySem.W.Frag} {h : Heap} {mg : Str → Option Value} (X : K.In h) (G : h.Ns mainGlobals mg) (c0 : SaysX fa fn xb K) : Tx K mg := by
  have c := c0.d
  have cx := c0.x
  obtain ⟨cx1, cx2⟩ := He.ba cx
  obtain ⟨cx2, cx3⟩ := He.ba cx2
  obtain ⟨cx3, cx4⟩ := He.ba cx3
  exact {
    g__wall := He.glo_ok X G (c.fact 0),
    g_look_at_things := He.glo_ok X G (c.fact 1),
    g_look_at_quarrel := He.glo_ok X G (c.fact 2),
    g_number_of := He.glo_ok X G (c.fact 3),
    g_thing_of := He.glo_ok X G (c.fact 4),
    g_quarrel_of := He.glo_ok X G (c.fact 5),
    g_read := He.glo_ok X G (c.fact 6),
    g__law_cell_at := He.glo_ok X G (c.fact 7),
    g__law_quarrel := He.glo_ok X G (c.fact 8),
    g__law_quarrels := He.glo_ok X G (c.fact 9),
    g__law_things := He.glo_ok X G (c.fact 10),
    g__law_night := He.glo_ok X G (c.fact 11),
    g__law_lines := He.glo_ok X G (c.fact 12),
    g__law_spoiled := He.glo_ok X G (c.fact 13),
    g__law_odd := He.glo_ok X G (c.fact 14),
    g__law_number := He.glo_ok X G (c.fact 15),
    g__law_thing := He.glo_ok X G (c.fact 16),
    g__law_told_quarrel := He.glo_ok X G (c.fact 17),
    g__law_due := He.glo_ok X G (c.fact 18),
    g__law_told := He.glo_ok X G (c.fact 19),
    g_law := He.glo_ok X G (c.fact 20),
    g_Night := He.glo_ok X G (c.fact 21),
    cl := He.cls_ok (c.fact 22),
    mkr := He.mkr_ok (c.fact 23),
    na_all_things := He.noat_ok (c.fact 24),
    na_places := He.noat_ok (c.fact 25),
    na_all_quarrels := He.noat_ok (c.fact 26),
    m_things := He.meth_ok (c.fact 27),
    m_room := He.meth_ok (c.fact 28),
    m_quarrels := He.meth_ok (c.fact 29),
    m_begins := He.meth_ok (c.fact 30),
    m_ends := He.meth_ok (c.fact 31),
    m_peace := He.meth_ok (c.fact 32),
    m_over_there := He.meth_ok (c.fact 33),
    g_FerryError := He.glo_ok X G (c.fact 34),
    x_FerryError := exOk_of (c.fact 35),
    g_BadThing := He.glo_ok X G (c.fact 36),
    x_BadThing := exOk_of (c.fact 37),
    g_BadRoom := He.glo_ok X G (c.fact 38),
    x_BadRoom := exOk_of (c.fact 39),
    g_BadQuarrel := He.glo_ok X G (c.fact 40),
    x_BadQuarrel := exOk_of (c.fact 41),
    g_NoStanding := He.glo_ok X G (c.fact 42),
    x_NoStanding := exOk_of (c.fact 43),
    g_BadStart := He.glo_ok X G (c.fact 44),
    x_BadStart := exOk_of (c.fact 45),
    g_NoCrew := He.glo_ok X G (c.fact 46),
    x_NoCrew := exOk_of (c.fact 47),
    g_BadNote := He.glo_ok X G (c.fact 48),
    x_BadNote := exOk_of (c.fact 49),
    exm := fun x hx y hy => of_decide_eq_true (List.all_eq_true.mp (List.all_eq_true.mp cx4 x hx) y hy),
    kit := fun x hx y hy => of_decide_eq_true (List.all_eq_true.mp (List.all_eq_true.mp cx2 x hx) y hy),
    kitV := fun x hx => of_decide_eq_true (List.all_eq_true.mp cx3 x hx),
    exc := fun x hx => exC_of (List.all_eq_true.mp cx1 x hx),
    b_len := He.free_ok X G (c.fact 50),
    b_range := He.free_ok X G (c.fact 51),
    b_list := He.free_ok X G (c.fact 52),
    b_min := He.free_ok X G (c.fact 53),
    b_isinstance := He.free_ok X G (c.fact 54),
    b_ValueError := He.free_ok X G (c.fact 55),
    b_int := He.free_ok X G (c.fact 56),
    b_str := He.free_ok X G (c.fact 57),
    b_set := He.free_ok X G (c.fact 58),
    i_MOST_THINGS := He.int_ok X G (c.fact 59),
    i_MOST_ROOM := He.int_ok X G (c.fact 60),
    i_MOST_QUARRELS := He.int_ok X G (c.fact 61),
    i_SLOWEST := He.int_ok X G (c.fact 62),
    t_FIGURES := He.str_ok X G (c.fact 63),
    f_look_at_things := c.def_ 0 (d := ⟨("look_at_things", none), "look_at_things", "look_at_things", defArgs s_look_at_things, defBody s_look_at_things, defScope s_look_at_things, [], []⟩) rfl,
    f_look_at_quarrel := c.def_ 1 (d := ⟨("look_at_quarrel", none), "look_at_quarrel", "look_at_quarrel", defArgs s_look_at_quarrel, defBody s_look_at_quarrel, defScope s_look_at_quarrel, [], []⟩) rfl,
    f_number_of := c.def_ 2 (d := ⟨("number_of", none), "number_of", "number_of", defArgs s_number_of, defBody s_number_of, defScope s_number_of, [], []⟩) rfl,
    f_thing_of := c.def_ 3 (d := ⟨("thing_of", none), "thing_of", "thing_of", defArgs s_thing_of, defBody s_thing_of, defScope s_thing_of, [], []⟩) rfl,
    f_quarrel_of := c.def_ 4 (d := ⟨("quarrel_of", none), "quarrel_of", "quarrel_of", defArgs s_quarrel_of, defBody s_quarrel_of, defScope s_quarrel_of, [], []⟩) rfl,
    f_read := c.def_ 5 (d := ⟨("read", none), "read", "read", defArgs s_read, defBody s_read, defScope s_read, [], []⟩) rfl,
    f__law_cell_at := c.def_ 6 (d := ⟨("_law_cell_at", none), "_law_cell_at", "_law_cell_at", defArgs s__law_cell_at, defBody s__law_cell_at, defScope s__law_cell_at, [], []⟩) rfl,
    f__law_quarrel := c.def_ 7 (d := ⟨("_law_quarrel", none), "_law_quarrel", "_law_quarrel", defArgs s__law_quarrel, defBody s__law_quarrel, defScope s__law_quarrel, [], []⟩) rfl,
    f__law_quarrels := c.def_ 8 (d := ⟨("_law_quarrels", none), "_law_quarrels", "_law_quarrels", defArgs s__law_quarrels, defBody s__law_quarrels, defScope s__law_quarrels, [], []⟩) rfl,
    f__law_things := c.def_ 9 (d := ⟨("_law_things", none), "_law_things", "_law_things", defArgs s__law_things, defBody s__law_things, defScope s__law_things, [], []⟩) rfl,
    f__law_night := c.def_ 10 (d := ⟨("_law_night", none), "_law_night", "_law_night", defArgs s__law_night, defBody s__law_night, defScope s__law_night, [], []⟩) rfl,
    f__law_lines := c.def_ 11 (d := ⟨("_law_lines", none), "_law_lines", "_law_lines", defArgs s__law_lines, defBody s__law_lines, defScope s__law_lines, [], []⟩) rfl,
    f__law_spoiled := c.def_ 12 (d := ⟨("_law_spoiled", none), "_law_spoiled", "_law_spoiled", defArgs s__law_spoiled, defBody s__law_spoiled, defScope s__law_spoiled, [], []⟩) rfl,
    f__law_odd := c.def_ 13 (d := ⟨("_law_odd", none), "_law_odd", "_law_odd", defArgs s__law_odd, defBody s__law_odd, defScope s__law_odd, [], []⟩) rfl,
    f__law_number := c.def_ 14 (d := ⟨("_law_number", none), "_law_number", "_law_number", defArgs s__law_number, defBody s__law_number, defScope s__law_number, [], []⟩) rfl,
    f__law_thing := c.def_ 15 (d := ⟨("_law_thing", none), "_law_thing", "_law_thing", defArgs s__law_thing, defBody s__law_thing, defScope s__law_thing, [], []⟩) rfl,
    f__law_told_quarrel := c.def_ 16 (d := ⟨("_law_told_quarrel", none), "_law_told_quarrel", "_law_told_quarrel", defArgs s__law_told_quarrel, defBody s__law_told_quarrel, defScope s__law_told_quarrel, [], []⟩) rfl,
    f__law_due := c.def_ 17 (d := ⟨("_law_due", none), "_law_due", "_law_due", defArgs s__law_due, defBody s__law_due, defScope s__law_due, [], []⟩) rfl,
    f__law_told := c.def_ 18 (d := ⟨("_law_told", none), "_law_told", "_law_told", defArgs s__law_told, defBody s__law_told, defScope s__law_told, [], []⟩) rfl,
    f_law := c.def_ 19 (d := ⟨("law", none), "law", "law", defArgs s_law, defBody s_law, defScope s_law, [], []⟩) rfl,
    f_Night___init__ := c.def_ 20 (d := ⟨("Night", some "__init__"), "__init__", "Night.__init__", defArgs s_Night___init__, defBody s_Night___init__, defScope s_Night___init__, [], []⟩) rfl,
    f_Night_things := c.def_ 21 (d := ⟨("Night", some "things"), "things", "Night.things", defArgs s_Night_things, defBody s_Night_things, defScope s_Night_things, [], []⟩) rfl,
    f_Night_room := c.def_ 22 (d := ⟨("Night", some "room"), "room", "Night.room", defArgs s_Night_room, defBody s_Night_room, defScope s_Night_room, [], []⟩) rfl,
    f_Night_quarrels := c.def_ 23 (d := ⟨("Night", some "quarrels"), "quarrels", "Night.quarrels", defArgs s_Night_quarrels, defBody s_Night_quarrels, defScope s_Night_quarrels, [], []⟩) rfl,
    f_Night_begins := c.def_ 24 (d := ⟨("Night", some "begins"), "begins", "Night.begins", defArgs s_Night_begins, defBody s_Night_begins, defScope s_Night_begins, [], []⟩) rfl,
    f_Night_ends := c.def_ 25 (d := ⟨("Night", some "ends"), "ends", "Night.ends", defArgs s_Night_ends, defBody s_Night_ends, defScope s_Night_ends, [], []⟩) rfl,
    f_Night_peace := c.def_ 26 (d := ⟨("Night", some "peace"), "peace", "Night.peace", defArgs s_Night_peace, defBody s_Night_peace, defScope s_Night_peace, [], []⟩) rfl,
    f_Night_over_there := c.def_ 27 (d := ⟨("Night", some "over_there"), "over_there", "Night.over_there", defArgs s_Night_over_there, defBody s_Night_over_there, defScope s_Night_over_there, [], []⟩) rfl }
end Fy

namespace Fy
open PySem PySem.Spec PyProof.Rows L2
/-! ### heaps: what stays -/
abbrev Ex := Evl.Ex
/-- tuples (and what is known) stay: true of every step of a program -/
def Up (H H' : Hp) : Prop := (∀ a xs, H a = some (.tup xs) → H' a = some (.tup xs)) ∧ ∀ a o u, H a = some (.frz o u) → H' a = some (.frz o u)
theorem Up.refl (H : Hp) : Up H H := ⟨fun _ _ h => h, fun _ _ _ h => h⟩
theorem Up.trans {H H1 H2 : Hp} (a : Up H H1) (b : Up H1 H2) : Up H H2 := ⟨fun x xs h => b.1 x xs (a.1 x xs h), fun x o u h => b.2 x o u (a.2 x o u h)⟩
theorem Ex.up {H H' : Hp} (e : Ex H H') : Up H H' := ⟨fun a xs h => e a _ h, fun a o u h => e a _ h⟩
/-- a list is changed -/
theorem Up.lst {H : Hp} {l : Addr} {xs : List V} {o : HO} (h : H l = some (.lst xs)) : Up H (upd H l o) :=
  ⟨fun a ys e => by rw [upd_ne (fun q => by rw [q, h] at e; cases e)]; exact e, fun a ob u e => by rw [upd_ne (fun q => by rw [q, h] at e; cases e)]; exact e⟩
theorem Up.new {H : Hp} {l : Addr} {o : HO} (h : H l = none) : Up H (upd H l o) := Ex.up (Evl.Ex.new h)
theorem Up.sqT {K : PySem.W.Frag} {H H' : Hp} {a : Addr} {xs : List V} (e : Up H H') (h : SqT K H a xs) : SqT K H' a xs := by
  rcases h with (h | ⟨o, h⟩) | h
  · exact .inl (.inl (e.1 _ _ h))
  · exact .inl (.inr ⟨o, e.2 _ _ _ h⟩)
  · exact .inr h
theorem ex_same {H H' : Hp} (e : Ex H H') : Same H H' := e
/-! ### data -/
mutual
theorem dp_mono {K : PySem.W.Frag} {H H' : Hp} (e : Ex H H') : ∀ (d : PyData) (v : V), Dp K H v d → Dp K H' v d
  | .none, _, h => by cases h; exact .non
  | .bool b, _, h => by cases h; exact .bl b
  | .int i, _, h => by cases h; exact .int i
  | .str x, _, h => by cases h; exact .str x
  | .list ds, _, h => by
    cases h with
    | lst hs ha => exact .lst (Evl.ex_l e hs) (dpa_mono e ds _ ha)
  | .tuple ds, _, h => by
    cases h with
    | tup hs ha => exact .tup (Evl.ex_t e hs) (dpa_mono e ds _ ha)
  | .dict _, _, h => by cases h
theorem dpa_mono {K : PySem.W.Frag} {H H' : Hp} (e : Ex H H') : ∀ (ds : List PyData) (vs : List V), DpAll K H vs ds → DpAll K H' vs ds
  | [], _, h => by cases h; exact .nil
  | d :: ds, _, h => by
    cases h with
    | cons h1 h2 => exact .cons (dp_mono e d _ h1) (dpa_mono e ds _ h2)
end
mutual
/-- no list within -/
def noL : PyData → Bool
  | .list _ => false
  | .dict _ => false
  | .tuple ds => noLs ds
  | _ => true
def noLs : List PyData → Bool
  | [] => true
  | d :: ds => noL d && noLs ds
end
mutual
theorem dp_up {K : PySem.W.Frag} {H H' : Hp} (e : Up H H') : ∀ (d : PyData) (v : V), noL d = true → Dp K H v d → Dp K H' v d
  | .none, _, _, h => by cases h; exact .non
  | .bool b, _, _, h => by cases h; exact .bl b
  | .int i, _, _, h => by cases h; exact .int i
  | .str x, _, _, h => by cases h; exact .str x
  | .list ds, _, n, h => by simp [noL] at n
  | .tuple ds, _, n, h => by
    cases h with
    | tup hs ha => exact .tup (e.sqT hs) (dpa_up e ds _ (by simpa [noL] using n) ha)
  | .dict _, _, _, h => by cases h
theorem dpa_up {K : PySem.W.Frag} {H H' : Hp} (e : Up H H') : ∀ (ds : List PyData) (vs : List V), noLs ds = true → DpAll K H vs ds → DpAll K H' vs ds
  | [], _, _, h => by cases h; exact .nil
  | d :: ds, _, n, h => by
    have n' : noL d = true ∧ noLs ds = true := by simpa [noLs] using n
    cases h with
    | cons h1 h2 => exact .cons (dp_up e d _ n'.1 h1) (dpa_up e ds _ n'.2 h2)
end
theorem noLs_map {α : Type} {f : α → PyData} (h : ∀ x, noL (f x) = true) : ∀ xs : List α, noLs (xs.map f) = true
  | [] => rfl
  | x :: xs => by simp [noLs, h x, noLs_map h xs]
section
variable {K : PySem.W.Frag} {H H' : Hp}
theorem dpa_len : ∀ {vs : List V} {ds : List PyData}, DpAll K H vs ds → vs.length = ds.length
  | _, _, .nil => rfl
  | _, _, .cons _ t => by simp [dpa_len t]
theorem dpa_get : ∀ {vs : List V} {ds : List PyData} {i : Nat} {v : V}, DpAll K H vs ds → vs[i]? = some v → ∃ d, ds[i]? = some d ∧ Dp K H v d
  | _, _, _, _, .nil, e => by simp at e
  | _, _, 0, _, .cons h _, e => by simp at e; subst e; exact ⟨_, rfl, h⟩
  | _, _, i + 1, _, .cons _ t, e => by simpa using dpa_get (i := i) t (by simpa using e)
theorem dpa_get' : ∀ {vs : List V} {ds : List PyData} {i : Nat} {d : PyData}, DpAll K H vs ds → ds[i]? = some d → ∃ v, vs[i]? = some v ∧ Dp K H v d
  | _, _, _, _, .nil, e => by simp at e
  | _, _, 0, _, .cons h _, e => by simp at e; subst e; exact ⟨_, rfl, h⟩
  | _, _, i + 1, _, .cons _ t, e => by simpa using dpa_get' (i := i) t (by simpa using e)
theorem dpa_snoc : ∀ {vs : List V} {ds : List PyData} {v : V} {d : PyData}, DpAll K H vs ds → Dp K H v d → DpAll K H (vs ++ [v]) (ds ++ [d])
  | _, _, _, _, .nil, h => .cons h .nil
  | _, _, _, _, .cons h1 t, h => .cons h1 (dpa_snoc t h)
theorem dpa_app : ∀ {vs ws : List V} {ds es : List PyData}, DpAll K H vs ds → DpAll K H ws es → DpAll K H (vs ++ ws) (ds ++ es)
  | _, _, _, _, .nil, h => h
  | _, _, _, _, .cons h1 t, h => .cons h1 (dpa_app t h)
theorem dpa_drop : ∀ {vs : List V} {ds : List PyData} (n : Nat), DpAll K H vs ds → DpAll K H (vs.drop n) (ds.drop n)
  | _, _, 0, h => h
  | _, _, _ + 1, .nil => .nil
  | _, _, n + 1, .cons _ t => dpa_drop n t
theorem dpa_take : ∀ {vs : List V} {ds : List PyData} (n : Nat), DpAll K H vs ds → DpAll K H (vs.take n) (ds.take n)
  | _, _, 0, h => .nil
  | _, _, _ + 1, .nil => .nil
  | _, _, n + 1, .cons h t => .cons h (dpa_take n t)
theorem dp_int {v : V} {i : Int} : Dp K H v (.int i) ↔ v = .int i := ⟨fun h => by cases h; rfl, fun h => by subst h; exact .int i⟩
theorem dp_bl {v : V} {b : Bool} : Dp K H v (.bool b) ↔ v = .bl b := ⟨fun h => by cases h; rfl, fun h => by subst h; exact .bl b⟩
theorem dp_str {v : V} {x : Str} : Dp K H v (.str x) ↔ v = .str x := ⟨fun h => by cases h; rfl, fun h => by subst h; exact .str x⟩
theorem dp_non {v : V} : Dp K H v .none ↔ v = .non := ⟨fun h => by cases h; rfl, fun h => by subst h; exact .non⟩
theorem dp_tup {v : V} {ds : List PyData} : Dp K H v (.tuple ds) ↔ ∃ a xs, v = .ref a ∧ SqT K H a xs ∧ DpAll K H xs ds :=
  ⟨fun h => by cases h with | tup a b => exact ⟨_, _, rfl, a, b⟩, fun ⟨a, xs, e, h1, h2⟩ => by subst e; exact .tup h1 h2⟩
theorem dp_lst {v : V} {ds : List PyData} : Dp K H v (.list ds) ↔ ∃ a xs, v = .ref a ∧ SqL K H a xs ∧ DpAll K H xs ds :=
  ⟨fun h => by cases h with | lst a b => exact ⟨_, _, rfl, a, b⟩, fun ⟨a, xs, e, h1, h2⟩ => by subst e; exact .lst h1 h2⟩
theorem dpa_ints : ∀ {g : List Int} {vs : List V}, DpAll K H vs (g.map .int) ↔ vs = g.map V.int
  | [], vs => ⟨fun h => by cases h; rfl, fun h => by subst h; exact .nil⟩
  | i :: g, vs => ⟨fun h => by
      cases h with
      | cons h1 h2 => rw [dp_int.mp h1, dpa_ints.mp h2]; rfl, fun h => by subst h; exact .cons (.int i) (dpa_ints.mpr rfl)⟩
theorem dpa_bls : ∀ {g : List Bool} {vs : List V}, DpAll K H vs (g.map .bool) ↔ vs = g.map V.bl
  | [], vs => ⟨fun h => by cases h; rfl, fun h => by subst h; exact .nil⟩
  | i :: g, vs => ⟨fun h => by
      cases h with
      | cons h1 h2 => rw [dp_bl.mp h1, dpa_bls.mp h2]; rfl, fun h => by subst h; exact .cons (.bl i) (dpa_bls.mpr rfl)⟩
theorem dpa_strs : ∀ {g : List Str} {vs : List V}, DpAll K H vs (g.map .str) ↔ vs = g.map V.str
  | [], vs => ⟨fun h => by cases h; rfl, fun h => by subst h; exact .nil⟩
  | i :: g, vs => ⟨fun h => by
      cases h with
      | cons h1 h2 => rw [dp_str.mp h1, dpa_strs.mp h2]; rfl, fun h => by subst h; exact .cons (.str i) (dpa_strs.mpr rfl)⟩
end
/-! ### the program's data -/
def eI (g : List Int) : PyData := .tuple (g.map .int)
def eT (t : Int × Bool) : PyData := .tuple [.int t.1, .bool t.2]
def eQ (q : Int × Int × Int) : PyData := .tuple [.int q.1, .int q.2.1, .int q.2.2]
def eS (s : List Int × Int) : PyData := .tuple [eI s.1, .int s.2]
section
variable {K : PySem.W.Frag} {H H' : Hp} {v : V}
theorem dp_eI {g : List Int} : Dp K H v (eI g) ↔ ∃ a, v = .ref a ∧ SqT K H a (g.map V.int) :=
  ⟨fun h => by obtain ⟨a, xs, e, h1, h2⟩ := dp_tup.mp h; rw [dpa_ints.mp h2] at h1; exact ⟨a, e, h1⟩, fun ⟨a, e, h1⟩ => dp_tup.mpr ⟨a, _, e, h1, dpa_ints.mpr rfl⟩⟩
theorem dp_eT {t : Int × Bool} : Dp K H v (eT t) ↔ ∃ a, v = .ref a ∧ SqT K H a [.int t.1, .bl t.2] :=
  ⟨fun h => by
    obtain ⟨a, xs, e, h1, h2⟩ := dp_tup.mp h
    cases h2 with
    | cons a1 h2 => cases h2 with
      | cons a2 h2 => cases h2; rw [dp_int.mp a1, dp_bl.mp a2] at h1; exact ⟨a, e, h1⟩, fun ⟨a, e, h1⟩ => dp_tup.mpr ⟨a, _, e, h1, .cons (.int _) (.cons (.bl _) .nil)⟩⟩
theorem dp_eQ {t : Int × Int × Int} : Dp K H v (eQ t) ↔ ∃ a, v = .ref a ∧ SqT K H a [.int t.1, .int t.2.1, .int t.2.2] :=
  ⟨fun h => by
    obtain ⟨a, xs, e, h1, h2⟩ := dp_tup.mp h
    rw [dpa_ints (g := [t.1, t.2.1, t.2.2]) |>.mp h2] at h1
    exact ⟨a, e, h1⟩, fun ⟨a, e, h1⟩ => dp_tup.mpr ⟨a, _, e, h1, dpa_ints (g := [t.1, t.2.1, t.2.2]) |>.mpr rfl⟩⟩
theorem dp_eS {s : List Int × Int} : Dp K H v (eS s) ↔ ∃ a g, v = .ref a ∧ SqT K H a [g, .int s.2] ∧ Dp K H g (eI s.1) :=
  ⟨fun h => by
    obtain ⟨a, xs, e, h1, h2⟩ := dp_tup.mp h
    cases h2 with
    | cons a1 h2 => cases h2 with
      | cons a2 h2 => cases h2; rw [dp_int.mp a2] at h1; exact ⟨a, _, e, h1, a1⟩, fun ⟨a, g, e, h1, h2⟩ => dp_tup.mpr ⟨a, _, e, h1, .cons h2 (.cons (.int _) .nil)⟩⟩
end
theorem noL_int : ∀ g : List Int, noLs (g.map .int) = true := fun g => noLs_map (fun _ => rfl) g
theorem noL_eI (g : List Int) : noL (eI g) = true := by show noLs _ = true; exact noL_int g
theorem noL_eT (t : Int × Bool) : noL (eT t) = true := rfl
theorem noL_eQ (t : Int × Int × Int) : noL (eQ t) = true := rfl
theorem noL_eS (s : List Int × Int) : noL (eS s) = true := by show (noL (eI s.1) && _) = true; rw [noL_eI]; rfl
/-! shapes -/
theorem lays_map {α : Type} {f : α → PyData} (h : ∀ x, (f x).canLay0 = true) : ∀ xs : List α, PyData.canLayAll0 (xs.map f) = true
  | [] => by simp [PyData.canLayAll0]
  | x :: xs => by simp [PyData.canLayAll0, h x, lays_map h xs]
theorem deps_map {α : Type} {f : α → PyData} {n : Nat} (h : ∀ x, (f x).depth ≤ n) : ∀ xs : List α, PyData.depthAll (xs.map f) ≤ n
  | [] => by simp [PyData.depthAll]
  | x :: xs => by
    have h1 := deps_map h xs
    have h2 := h x
    simp only [List.map_cons, PyData.depthAll]
    omega
theorem sh_of {d : PyData} (h : d.canLay0 = true) (h2 : d.depth ≤ 64) : SeqAt.shaped d = true := by
  show (d.canLay0 && decide (d.depth ≤ 64)) = true
  rw [Bool.and_eq_true]
  exact ⟨h, decide_eq_true h2⟩
theorem sh_lst {α : Type} {f : α → PyData} (h : ∀ x, (f x).canLay0 = true) (h2 : ∀ x, (f x).depth ≤ 60) (xs : List α) : SeqAt.shaped (.list (xs.map f)) = true :=
  sh_of (by simp only [PyData.canLay0]; exact lays_map h xs) (by simp only [PyData.depth]; have := deps_map h2 xs; omega)
theorem lay_eI (g : List Int) : (eI g).canLay0 = true := by simp only [eI, PyData.canLay0]; exact lays_map (fun _ => by simp [PyData.canLay0]) g
theorem dep_eI (g : List Int) : (eI g).depth ≤ 1 := by simp only [eI, PyData.depth]; have := deps_map (f := PyData.int) (n := 0) (fun _ => by simp [PyData.depth]) g; omega
theorem lay_eT (t : Int × Bool) : (eT t).canLay0 = true := by simp [eT, PyData.canLay0, PyData.canLayAll0]
theorem dep_eT (t : Int × Bool) : (eT t).depth ≤ 1 := by simp [eT, PyData.depth, PyData.depthAll]
theorem lay_eQ (t : Int × Int × Int) : (eQ t).canLay0 = true := by simp [eQ, PyData.canLay0, PyData.canLayAll0]
theorem dep_eQ (t : Int × Int × Int) : (eQ t).depth ≤ 1 := by simp [eQ, PyData.depth, PyData.depthAll]
theorem lay_eS (s : List Int × Int) : (eS s).canLay0 = true := by simp [eS, PyData.canLay0, PyData.canLayAll0, lay_eI]
theorem dep_eS (s : List Int × Int) : (eS s).depth ≤ 2 := by simp only [eS, PyData.depth, PyData.depthAll]; have := dep_eI s.1; omega
theorem sh_eI (g : List Int) : SeqAt.shaped (eI g) = true := sh_of (lay_eI g) (Nat.le_trans (dep_eI g) (by decide))
theorem sh_eS (s : List Int × Int) : SeqAt.shaped (eS s) = true := sh_of (lay_eS s) (Nat.le_trans (dep_eS s) (by decide))
/-! == -/
theorem eqvs_map {α : Type} {f : α → PyData} [DecidableEq α] (h : ∀ x y, PyData.eqv (f x) (f y) = decide (x = y)) : ∀ xs ys : List α, PyData.eqvAll (xs.map f) (ys.map f) = decide (xs = ys)
  | [], [] => by simp [PyData.eqvAll]
  | [], _ :: _ => by simp [PyData.eqvAll]
  | _ :: _, [] => by simp [PyData.eqvAll]
  | x :: xs, y :: ys => by
    simp only [List.map_cons, PyData.eqvAll, h x y, eqvs_map h xs ys]
    by_cases e : x = y <;> by_cases e2 : xs = ys <;> simp [e, e2]
theorem eqv_int (i j : Int) : PyData.eqv (.int i) (.int j) = decide (i = j) := by simp [PyData.eqv, Bool.beq_eq_decide_eq]
theorem eqv_eI (g k : List Int) : PyData.eqv (eI g) (eI k) = decide (g = k) := by
  simp only [eI, PyData.eqv]
  exact eqvs_map eqv_int g k
theorem eqv_eT (s t : Int × Bool) : PyData.eqv (eT s) (eT t) = decide (s = t) := by
  obtain ⟨a, b⟩ := s
  obtain ⟨c, d⟩ := t
  simp only [eT, PyData.eqv, PyData.eqvAll]
  by_cases e : a = c <;> by_cases e2 : b = d <;> simp [e, e2]
theorem eqv_eQ (s t : Int × Int × Int) : PyData.eqv (eQ s) (eQ t) = decide (s = t) := by
  obtain ⟨a, b, x⟩ := s
  obtain ⟨c, d, y⟩ := t
  simp only [eQ, PyData.eqv, PyData.eqvAll]
  by_cases e : a = c <;> by_cases e2 : b = d <;> by_cases e3 : x = y <;> simp [e, e2, e3]
theorem eqv_eS (s t : List Int × Int) : PyData.eqv (eS s) (eS t) = decide (s = t) := by
  obtain ⟨a, b⟩ := s
  obtain ⟨c, d⟩ := t
  simp only [eS, PyData.eqv, PyData.eqvAll, eqv_eI]
  by_cases e : a = c <;> by_cases e2 : b = d <;> simp [e, e2]
theorem eqv_lst {α : Type} {f : α → PyData} [DecidableEq α] (h : ∀ x y, PyData.eqv (f x) (f y) = decide (x = y)) (xs ys : List α) : PyData.eqv (.list (xs.map f)) (.list (ys.map f)) = decide (xs = ys) := by
  simp only [PyData.eqv]
  exact eqvs_map h xs ys
/-- in among ints -/
theorem inV_ints (i : Int) : ∀ g : List Int, inV (.int i) (g.map V.int) = g.contains i
  | [] => rfl
  | j :: g => by
    have h := inV_ints i g
    unfold inV at h ⊢
    rw [List.map_cons, List.any_cons, h, List.contains_cons]
    show ((j == i) || _) = _
    rw [show (j == i) = (i == j) from by rw [Bool.beq_eq_decide_eq, Bool.beq_eq_decide_eq]; exact decide_eq_decide.mpr eq_comm]
theorem flat_ints : ∀ g : List Int, (g.map V.int).all flatV = true
  | [] => rfl
  | j :: g => by rw [List.map_cons, List.all_cons, flat_ints g]; rfl
/-! ### what a def promises: an answer in a heap that keeps all -/
abbrev RetV := @Evl.RetV
def RetR (R : V → Hp → Prop) (H : Hp) (Q : VK) : Prop := ∀ v H', Ex H H' → R v H' → Q v H'
theorem RetR.go {R : V → Hp → Prop} {H H' : Hp} {Q : VK} (k : RetR R H Q) (e : Ex H H') {v : V} {H2 : Hp} (e2 : Ex H' H2) (h : R v H2) : Q v H2 := k v H2 (e.trans e2) h
theorem ne_l {H H0 : Hp} {a l : Addr} {o : HO} (h : H0 a = some o) (n : H0 l = none) : a ≠ l := ne_of_none h n
/-- an object that stood apart from l -/
theorem ex_mut {H H' : Hp} {p : Addr} {o : HO} (e : Ex H H') (h : H p = none) : Ex H (upd H' p o) := Evl.Ex.mut e h
/-- a list of one's own that reads as ds: new behind H0 -/
def NewL (K : PySem.W.Frag) (H0 : Hp) (v : V) (H : Hp) (ds : List PyData) : Prop := ∃ p xs, v = .ref p ∧ H0 p = none ∧ H p = some (.lst xs) ∧ DpAll K H xs ds
/-! ### calls of defs by their names -/
structure Has (P : Program) (w : World) (K : PySem.W.Frag) (mg : Str → Option Value) (base : Heap) (CX : CXT) (k : Nat) (x : Str) (ps : List Str) (sp : Sp) : Prop where
  g : mg x = some (.ref (He.ga K x))
  ok : ∃ fd, FnOk P w K mg base CX k (He.ga K x) fd ps sp ∧ Binds K fd ps [] ∧ PySem.W.keepIn K (.ref (He.ga K x)) = true
structure HasM (P : Program) (w : World) (K : PySem.W.Frag) (mg : Str → Option Value) (base : Heap) (CX : CXT) (k : Nat) (m : Str) (ps : List Str) (sp : Sp) : Prop where
  cl : Cls K (He.ga K "Night")
  mt : Meth K (He.ga K "Night") m (He.ma K (He.ga K "Night") m)
  ok : ∃ fd, FnOk P w K mg base CX k (He.ma K (He.ga K "Night") m) fd ps sp ∧ Binds K fd ps []
section
variable {X : Cx} {k : Nat} {x m : Str} {ps : List Str} {sp : Sp} {p pos apos : Pos} {e o : Expr} {es : List Expr} {ta : TE} {t : TA} {W : WX} {CX : CXT}
/-- a call that lets nothing out (or where nothing may come out: E0) -/
theorem pe_f0 (F : Has X.prog X.w X.K X.mg X.base CX k x ps sp) (hr : Room k X.A) (hg : Gl X x) (hx : Passes CX X E0) (ha : PA X (e :: es) t) (hdb : (x == ("__debug__" : Str)) = false := by decide)
    (he : starEach (e :: es) X.env = (false, eval e X.env) :: starEach es X.env := by rfl) (hpl : (backTo pos (starEach es X.env)).any (·.1) = false := by rfl) : PE X (.Call (.Name x p) (e :: es) [] pos) (tCall sp [] E0 t) := by
  obtain ⟨fd, G, b, kp⟩ := F.ok
  exact pe_call G hr hg F.g kp b .nil hx ha hdb he hpl
theorem pe_f (F : Has X.prog X.w X.K X.mg X.base CX0 k x ps sp) (hr : Room k X.A) (hg : Gl X x) (ha : PA X (e :: es) t) (hdb : (x == ("__debug__" : Str)) = false := by decide)
    (he : starEach (e :: es) X.env = (false, eval e X.env) :: starEach es X.env := by rfl) (hpl : (backTo pos (starEach es X.env)).any (·.1) = false := by rfl) : PE X (.Call (.Name x p) (e :: es) [] pos) (tCall sp [] E0 t) :=
  pe_f0 F hr hg pass0 ha hdb he hpl
/-- a call that may raise: the wish at the slots -/
theorem pe_fx (F : Has X.prog X.w X.K X.mg X.base (L2.CX X.prog X.w) k x ps sp) (hr : Room k X.A) (hg : Gl X x) (tk : Takes X W) (ha : PA X (e :: es) t) (hdb : (x == ("__debug__" : Str)) = false := by decide)
    (he : starEach (e :: es) X.env = (false, eval e X.env) :: starEach es X.env := by rfl) (hpl : (backTo pos (starEach es X.env)).any (·.1) = false := by rfl) : PE X (.Call (.Name x p) (e :: es) [] pos) (tCallS sp (WE W) t) := by
  obtain ⟨fd, G, b, kp⟩ := F.ok
  exact pe_callS G hr hg F.g kp b (fun σ => passAt tk σ) ha hdb he hpl
/-- a method of a night -/
theorem pe_nm {C : Addr} {pl : Sem Bool} (ho : PE X o ta) (F : HasM X.prog X.w X.K X.mg X.base CX k m ps sp) (hr : Room k X.A) (hx : Passes CX X E0) (ha : PA X (e :: es) t)
    (hst : starEach (e :: es) X.env = (false, eval e X.env) :: starEach es X.env := by rfl) (hpl : (backTo pos (starEach es X.env)).any (·.1) = false := by rfl)
    (ht : eval (.Call (.Attribute o m apos) (e :: es) [] pos) X.env = (do
      let ov ← eval o X.env
      standAt apos.atName
      let (f, first) ← holding [ov] (getMethod ov m pl)
      callWith pos f first (backTo pos (starEach (e :: es) X.env)) (backToKw pos (keywordEach [] X.env))) := by rfl) (hC : He.ga X.K "Night" = C := by rfl) :
    PE X (.Call (.Attribute o m apos) (e :: es) [] pos) (tMeth C m sp [] E0 ta t) := by
  subst hC
  obtain ⟨fd, G, b⟩ := F.ok
  exact pe_meth ho F.cl F.mt G hr b .nil hx ha hst hpl ht
theorem pe_nm0 {C : Addr} {pl : Sem Bool} (ho : PE X o ta) (F : HasM X.prog X.w X.K X.mg X.base CX k m ps sp) (hr : Room k X.A) (hx : Passes CX X E0)
    (ht : eval (.Call (.Attribute o m apos) [] [] pos) X.env = (do
      let ov ← eval o X.env
      standAt apos.atName
      let (f, first) ← holding [ov] (getMethod ov m pl)
      callWith pos f first (backTo pos (starEach [] X.env)) (backToKw pos (keywordEach [] X.env))) := by rfl) (hC : He.ga X.K "Night" = C := by rfl) :
    PE X (.Call (.Attribute o m apos) [] [] pos) (tMeth C m sp [] E0 ta tNil) := by
  subst hC
  obtain ⟨fd, G, b⟩ := F.ok
  exact pe_meth0 ho F.cl F.mt G hr b .nil hx ht
end
/-- raise C('..'), C an own exception -/
theorem ps_raiseOwn {X : Cx} {W : WX} {x m : Str} {j : Nat} {p p2 p3 pos : Pos} (hc : X.calm = true) (tk : Takes X W) (q : ExOk X.K (He.ga X.K x)) (gC : X.mg x = some (.ref (He.ga X.K x))) (hg : Gl X x) (hdb : (x == ("__debug__" : Str)) = false := by decide) :
    PS X (.Raise (some (.Call (.Name x p) [.Constant (.str m) j p2] [] p3)) none pos) (fun _ σ H => W (.ref (He.ga X.K x)) none σ H) :=
  ps_raise hc tk (pmk_own PySem.F.excBase_ValueError q.ex gC q.kp (raises_own q.sub q.ty) hg hdb)
/-! ### comprehensions whose items carry no list -/
section
variable {K : PySem.W.Frag} {g : TG} {tt : TT} {te : TE} {vs : List Nat} {σ : L2.St} {Hs : Hp}
/-- one turn, told by what it gives: f none: left out -/
def Turned (g : TG) (tt : TT) (te : TE) (vs : List Nat) (σ : L2.St) (x : V) (H : Hp) (C : Option V → Hp → Prop) : Prop :=
  g x (wipe σ vs) H fun σ2 H2 => wipe σ2 vs = wipe σ vs ∧ tt σ2 H2 fun b H3 => if b = true then te σ2 H3 fun y H4 => C (some y) H4 else C none H3
/-- what a turn must say: from any later heap, for any end that takes the due -/
def TurnOk (K : PySem.W.Frag) (g : TG) (tt : TT) (te : TE) (vs : List Nat) (σ : L2.St) (Hs : Hp) (x : V) (due : Option PyData) : Prop :=
  ∀ (H : Hp) (C : Option V → Hp → Prop), Ex Hs H → (∀ H', Ex H H' → due = none → C none H') → (∀ y d H', Ex H H' → due = some d → Dp K H' y d → C (some y) H') → Turned g tt te vs σ x H C
theorem turned_mono {x : V} {H : Hp} {C C' : Option V → Hp → Prop} (hC : ∀ o H, C o H → C' o H) (mono : ∀ C C' : Option V → Hp → Prop, (∀ o H, C o H → C' o H) → Turned g tt te vs σ x H C → Turned g tt te vs σ x H C') (h : Turned g tt te vs σ x H C) : Turned g tt te vs σ x H C' := mono C C' hC h
/-- the invariant of such a comprehension -/
def LcInv (K : PySem.W.Frag) (Hs : Hp) (D : Addr) (fs : Nat → Option PyData) (i : Nat) (H : Hp) : Prop := Hs D = none ∧ Ex Hs H ∧ ∃ acc, H D = some (.lst acc) ∧ DpAll K H acc ((List.range i).filterMap fs) ∧ acc.length ≤ i
theorem lc_turn {D : Addr} {fs : Nat → Option PyData} {i : Nat} {H : Hp} {x : V} (hn : ∀ d, fs i = some d → noL d = true) (hns : noLs ((List.range i).filterMap fs) = true) (hi : i < 1000000) (I : LcInv K Hs D fs i H) (ht : TurnOk K g tt te vs σ Hs x (fs i)) :
    g x (wipe σ vs) H fun σ2 H2 => wipe σ2 vs = wipe σ vs ∧ tt σ2 H2 fun b H3 => if b = true then te σ2 H3 fun y H4 => ∃ acc, H4 D = some (.lst acc) ∧ acc.length < sizeLine ∧ LcInv K Hs D fs (i + 1) (upd H4 D (.lst (acc ++ [y]))) else LcInv K Hs D fs (i + 1) H3 := by
  obtain ⟨n0, e0, acc, hD, ha, hl⟩ := I
  have q := ht H (fun o H4 => match o with
    | some y => ∃ acc, H4 D = some (.lst acc) ∧ acc.length < sizeLine ∧ LcInv K Hs D fs (i + 1) (upd H4 D (.lst (acc ++ [y])))
    | none => LcInv K Hs D fs (i + 1) H4) e0 (fun H' e hd => ?_) (fun y d H' e hd hy => ?_)
  · exact q
  · refine ⟨n0, e0.trans e, acc, e _ _ hD, ?_, by omega⟩
    rw [List.range_succ, List.filterMap_append]
    simp only [List.filterMap_cons, hd, List.filterMap_nil, List.append_nil]
    exact dpa_mono e _ _ ha
  · refine ⟨acc, e _ _ hD, Nat.lt_of_le_of_lt hl (Nat.lt_trans hi (by decide)), n0, (e0.trans e).mut n0, acc ++ [y], upd_same, ?_, by rw [List.length_append, List.length_singleton]; omega⟩
    have u : Up H' (upd H' D (.lst (acc ++ [y]))) := Up.lst (e _ _ hD)
    rw [List.range_succ, List.filterMap_append]
    simp only [List.filterMap_cons, hd, List.filterMap_nil]
    exact dpa_snoc (dpa_up u _ _ hns (dpa_mono e _ _ ha)) (dp_up u _ _ (hn d hd) hy)
theorem noLs_fm {fs : Nat → Option PyData} {n : Nat} (hn : ∀ i d, fs i = some d → noL d = true) : ∀ l : List Nat, noLs (l.filterMap fs) = true
  | [] => rfl
  | j :: l => by
    rw [List.filterMap_cons]
    cases h : fs j with
    | none => exact noLs_fm (n := n) hn l
    | some d => show (noL d && noLs _) = true; rw [hn j d h, noLs_fm (n := n) hn l]; rfl
/-- what is behind it: a new list of the items given -/
def LcEnd (K : PySem.W.Frag) (Hs : Hp) (ds : List PyData) (Q : VK) : Prop := ∀ D H' acc, Hs D = none → Ex Hs H' → H' D = some (.lst acc) → DpAll K H' acc ds → Q (.ref D) H'
theorem lcR {lo : Int} {n : Nat} {D : Addr} {Q : VK} (fs : Nat → Option PyData) (hn : ∀ i d, fs i = some d → noL d = true) (hz : n < 1000000) (hD : Hs D = none)
    (ht : ∀ i, i < n → TurnOk K g tt te vs σ Hs (.int (lo + i)) (fs i)) (q : LcEnd K Hs ((List.range n).filterMap fs) Q) :
    ∃ W : Nat → Nat → Hp → Prop, (∃ m, W 0 m (upd Hs D (.lst []))) ∧ ∀ i m H, W i m H →
      ((Itr lo n).stop i H ∧ Q (.ref D) H) ∨ ((Itr lo n).go i H ∧ ∃ Nx : Hp → Prop, (∀ H', Nx H' → ∃ m', m' < m ∧ W (i + 1) m' H') ∧ ∀ x H', (Itr lo n).yld i H x H' → g x (wipe σ vs) H' fun σ2 H2 => wipe σ2 vs = wipe σ vs ∧ tt σ2 H2 fun b H3 =>
        if b = true then te σ2 H3 fun y H4 => ∃ acc, H4 D = some (.lst acc) ∧ acc.length < sizeLine ∧ Nx (upd H4 D (.lst (acc ++ [y]))) else Nx H3) :=
  lc_range (LcInv K Hs D fs) ⟨hD, Evl.Ex.new hD, [], upd_same, .nil, Nat.le_refl _⟩ (fun i H hi I => lc_turn (hn i) (noLs_fm (n := 0) hn _) (Nat.lt_trans hi hz) I (ht i hi)) fun H ⟨n0, e0, acc, h1, h2, _⟩ => q D H acc n0 e0 h1 h2
theorem lcL {a : Addr} {xs : List V} {D : Addr} {Q : VK} (fs : Nat → Option PyData) (hn : ∀ i d, fs i = some d → noL d = true) (hz : xs.length < 1000000) (hD : Hs D = none) (hs : SqL K Hs a xs)
    (ht : ∀ i x, xs[i]? = some x → TurnOk K g tt te vs σ Hs x (fs i)) (q : LcEnd K Hs ((List.range xs.length).filterMap fs) Q) :
    ∃ W : Nat → Nat → Hp → Prop, (∃ m, W 0 m (upd Hs D (.lst []))) ∧ ∀ i m H, W i m H →
      ((Itl K a).stop i H ∧ Q (.ref D) H) ∨ ((Itl K a).go i H ∧ ∃ Nx : Hp → Prop, (∀ H', Nx H' → ∃ m', m' < m ∧ W (i + 1) m' H') ∧ ∀ x H', (Itl K a).yld i H x H' → g x (wipe σ vs) H' fun σ2 H2 => wipe σ2 vs = wipe σ vs ∧ tt σ2 H2 fun b H3 =>
        if b = true then te σ2 H3 fun y H4 => ∃ acc, H4 D = some (.lst acc) ∧ acc.length < sizeLine ∧ Nx (upd H4 D (.lst (acc ++ [y]))) else Nx H3) :=
  lc_list (xs := xs) (LcInv K Hs D fs) ⟨hD, Evl.Ex.new hD, [], upd_same, .nil, Nat.le_refl _⟩ (fun i H _ I => Evl.ex_l I.2.1 hs) (fun i x H hi I => lc_turn (hn i) (noLs_fm (n := 0) hn _) (Nat.lt_trans (List.getElem?_eq_some_iff.mp hi).1 hz) I (ht i x hi)) fun H ⟨n0, e0, acc, h1, h2, _⟩ => q D H acc n0 e0 h1 h2
theorem lcT {a : Addr} {xs : List V} {D : Addr} {Q : VK} (fs : Nat → Option PyData) (hn : ∀ i d, fs i = some d → noL d = true) (hz : xs.length < 1000000) (hD : Hs D = none) (hs : SqT K Hs a xs)
    (ht : ∀ i x, xs[i]? = some x → TurnOk K g tt te vs σ Hs x (fs i)) (q : LcEnd K Hs ((List.range xs.length).filterMap fs) Q) :
    ∃ W : Nat → Nat → Hp → Prop, (∃ m, W 0 m (upd Hs D (.lst []))) ∧ ∀ i m H, W i m H →
      ((Itt K a).stop i H ∧ Q (.ref D) H) ∨ ((Itt K a).go i H ∧ ∃ Nx : Hp → Prop, (∀ H', Nx H' → ∃ m', m' < m ∧ W (i + 1) m' H') ∧ ∀ x H', (Itt K a).yld i H x H' → g x (wipe σ vs) H' fun σ2 H2 => wipe σ2 vs = wipe σ vs ∧ tt σ2 H2 fun b H3 =>
        if b = true then te σ2 H3 fun y H4 => ∃ acc, H4 D = some (.lst acc) ∧ acc.length < sizeLine ∧ Nx (upd H4 D (.lst (acc ++ [y]))) else Nx H3) :=
  lc_tup (xs := xs) (LcInv K Hs D fs) ⟨hD, Evl.Ex.new hD, [], upd_same, .nil, Nat.le_refl _⟩ (fun i H _ I => Evl.ex_t I.2.1 hs) (fun i x H hi I => lc_turn (hn i) (noLs_fm (n := 0) hn _) (Nat.lt_trans (List.getElem?_eq_some_iff.mp hi).1 hz) I (ht i x hi)) fun H ⟨n0, e0, acc, h1, h2, _⟩ => q D H acc n0 e0 h1 h2
end

end Fy

namespace Fy
open PySem PySem.Spec PyProof.Rows L2
/-! ### exceptions whose context is None; making an object by slots; defs called while an exception is held -/
theorem zcOf {B : Heap} {l : List Env} {a L : Addr} {cls : Value} {d : Option Addr} {h : Heap} (x : L2.Sky B l a (L2N.Zn cls d) L h) : L2.Sky B l a (L2.Zc cls d) L h := by
  have tr : ∀ {b : Heap} {fl : Value}, HandSPX.TracedZ h b a (L2N.Zn cls d) fl → HandSPX.TracedZ h b a (L2.Zc cls d) fl := fun ⟨oe, vs, T, oT, ts, he, hz, r⟩ => ⟨oe, vs, T, oT, ts, he, hz.zc, r⟩
  rcases x with ⟨h1, h2, h3, oe, vs, h4, h5, h6⟩ | ⟨h1, h2, h3, h4⟩ | ⟨h1, h2, h3, h4⟩
  · exact .inl ⟨h1, h2, h3, oe, vs, h4, h5.zc, h6⟩
  · exact .inr (.inl ⟨h1, h2, h3, tr h4⟩)
  · exact .inr (.inr ⟨h1, h2, h3, tr h4⟩)
theorem takesN {X : Cx} {W : WX} (tk : L2.Takes X W) : L2N.Takes X W := fun u s' ⟨a, B, sI, pn, σ, H, cls, d, e, I, nb, up, sk, r⟩ => tk u s' ⟨a, B, sI, pn, σ, H, cls, d, e, I, nb, up, zcOf sk, r⟩
theorem passN {X : Cx} : Passes (L2N.CX X.prog X.w) X E0 := fun _ _ _ _ _ _ _ ⟨_, _, _, _, _, _, _, _, _, _, _, _, z⟩ => z.elim
theorem takes0N {X : Cx} : L2N.Takes X (fun _ _ _ _ => False) := fun _ _ ⟨_, _, _, _, _, _, _, _, _, _, _, _, _, _, _, _, z⟩ => z.elim
section
variable {X : Cx} {k : Nat} {x m : Str} {ps : List Str} {sp : Sp} {p pos : Pos} {e : Expr} {es : List Expr} {t : TA} {W : WX}
theorem pe_fxN (F : Has X.prog X.w X.K X.mg X.base (L2N.CX X.prog X.w) k x ps sp) (hr : Room k X.A) (hg : Gl X x) (tk : L2N.Takes X W) (ha : PA X (e :: es) t) (hdb : (x == ("__debug__" : Str)) = false := by decide)
    (he : starEach (e :: es) X.env = (false, eval e X.env) :: starEach es X.env := by rfl) (hpl : (backTo pos (starEach es X.env)).any (·.1) = false := by rfl) : PE X (.Call (.Name x p) (e :: es) [] pos) (tCallS sp (WE W) t) := by
  obtain ⟨fd, G, b, kp⟩ := F.ok
  exact pe_callS G hr hg F.g kp b (fun σ => L2N.passAt tk σ) ha hdb he hpl
theorem ps_raiseOwnN {j : Nat} {p2 p3 : Pos} (hc : X.calm = true) (tk : L2N.Takes X W) (q : ExOk X.K (He.ga X.K x)) (gC : X.mg x = some (.ref (He.ga X.K x))) (hg : Gl X x) (hdb : (x == ("__debug__" : Str)) = false := by decide) :
    PS X (.Raise (some (.Call (.Name x p) [.Constant (.str m) j p2] [] p3)) none pos) (fun _ σ H => W (.ref (He.ga X.K x)) none σ H) :=
  L2N.ps_raise hc tk (L2N.pmk_own PySem.F.excBase_ValueError q.ex gC q.kp (raises_own q.sub q.ty) hg hdb)
end
/-! making an own object, what is raised wished for at the slots -/
def tMakeS (C : Addr) (sp : Sp) (E : L2.St → XK) (t : TA) : TE := fun σ H Q => t σ H fun vs H1 => ∀ y dy, H1 y = none → H1 dy = none → dy ≠ y → sp (.ref y :: vs) (upd (upd H1 dy (.own y)) y (.ins C dy [])) (fun v H2 => v = .non ∧ Q (.ref y) H2) (E σ)
section
variable {X : Cx} {CX : CXT} {k : Nat} {f C : Addr} {fd : FuncData} {ps : List Str} {sp : Sp} {E : L2.St → XK} {x : Str} {p pos : Pos} {e : Expr} {es : List Expr} {t : TA}
theorem go_make {pns : List (Addr × Obj)} {σ : L2.St} {H : Hp} {s : Shared} {Q : VK} {us : List Value} {vs : List V} (M : Mk X.K C f) (F : FnOk X.prog X.w X.K X.mg X.base CX k f fd ps sp) (rm : Room (k + 1) X.A) (bd : Binds X.K fd ps []) (px : PassesAt CX X σ (E σ)) (I : Inv X pns σ H s) (rl : Vals vs us)
    (g : ∀ y dy, H y = none → H dy = none → dy ≠ y → sp (.ref y :: vs) (upd (upd H dy (.own y)) y (.ins C dy [])) (fun v H2 => v = .non ∧ Q (.ref y) H2) (E σ)) : wpAny (model X.prog X.w) X.A (call (.ref C) us) (EP X pns σ Q) X.xe s := by
  have sz := s.heap.objs.size
  have g1 := g (s.heap.objs.size + 1) s.heap.objs.size (I.hok.fresh (Nat.le_succ s.heap.objs.size)) (I.hok.fresh (Nat.le_refl s.heap.objs.size)) (fun z => absurd z (Nat.ne_of_lt (Nat.lt_succ_self _)))
  have J := Inv.made (C := C) I
  have rl2 : Vals (V.ref (s.heap.objs.size + 1) :: vs) (Value.ref (s.heap.objs.size + 1) :: us) := .cons rfl rl
  have ln : (Value.ref (s.heap.objs.size + 1) :: us).length = ps.length := rl2.length.symm.trans (F.len _ _ _ _ g1)
  have b1 := bd _ (Value.ref (s.heap.objs.size + 1) :: us) J.kIn (by rw [List.append_nil]; exact ln)
  rw [List.append_nil] at b1
  have w := F.run _ X.stack _ _ ⟨Value.ref (s.heap.objs.size + 1) :: us, []⟩ (Value.ref (s.heap.objs.size + 1) :: us) _ _ (E σ) (rm.make C us []) (J.env0.make C us []) b1 rl2 g1
  refine wpAny_call (make_map (f := f) I.kIn M.makes M.init (beq_iff_eq.mp M.fn) (codeAny_mono w ?_))
  rintro (u | fl) s2 q2
  · exact px pns _ _ u s2 J q2
  · rcases fl with _ | _ | _ | u
    case ret =>
      obtain ⟨v, H3, J3, rv, ev, q3⟩ := J.after q2
      cases ev
      exact ⟨rv, V.ref (s.heap.objs.size + 1), H3, J3, rfl, q3⟩
    all_goals exact False.elim q2
theorem pe_makeS (M : Mk X.K C f) (F : FnOk X.prog X.w X.K X.mg X.base CX k f fd ps sp) (rm : Room (k + 1) X.A) (hg : Gl X x) (hm : X.mg x = some (.ref C)) (bd : Binds X.K fd ps []) (px : ∀ σ, PassesAt CX X σ (E σ)) (ha : PA X (e :: es) t)
    (hdb : (x == ("__debug__" : Str)) = false := by decide) (he : starEach (e :: es) X.env = (false, eval e X.env) :: starEach es X.env := by rfl) (hpl : (backTo pos (starEach es X.env)).any (·.1) = false := by rfl) : PE X (.Call (.Name x p) (e :: es) [] pos) (tMakeS C sp E t) :=
  ⟨fun pns s σ H Q I q => wpAny_Call_Name_kw (ld_glob I hg hm (PySem.W.callWith_K (h₀ := X.base) I.ok.mod.kin M.kp (thn (ha.run pos pns s σ H _ I q) fun us s1 ⟨vs, H1, I1, r, q1⟩ => ⟨I1.kIn, go_make M F rm bd (px σ) I1 r q1⟩) he hpl) hdb)⟩
end

end Fy

namespace Fy
open PySem PySem.Spec PyProof.Rows L2
/-! ### readings by data: a term gives a datum, from any later heap -/
def EvD (K : PySem.W.Frag) (te : TE) (σ : L2.St) (H : Hp) (d : PyData) : Prop := ∀ H1, Ex H H1 → ∀ Q : VK, (∀ v H2, Ex H1 H2 → Dp K H2 v d → Q v H2) → te σ H1 Q
/-- a new list of one's own -/
def EvN (K : PySem.W.Frag) (te : TE) (σ : L2.St) (H : Hp) (ds : List PyData) : Prop := ∀ H1, Ex H H1 → ∀ Q : VK, (∀ v H2, Ex H1 H2 → NewL K H1 v H2 ds → Q v H2) → te σ H1 Q
def EvTD (tt : TT) (σ : L2.St) (H : Hp) (b : Bool) : Prop := Evl.EvT tt σ H b
def EvDs (K : PySem.W.Frag) (ta : TA) (σ : L2.St) (H : Hp) (ds : List PyData) : Prop := ∀ H1, Ex H H1 → ∀ Q : List V → Hp → Prop, (∀ vs H2, Ex H1 H2 → DpAll K H2 vs ds → Q vs H2) → ta σ H1 Q
section
variable {K : PySem.W.Frag} {σ : L2.St} {H H' : Hp} {ta tb tc te : TE} {t u : TT} {d e z : PyData} {ds es : List PyData}
theorem EvD.mono (x : Ex H H') (h : EvD K te σ H d) : EvD K te σ H' d := fun H1 a Q q => h H1 (x.trans a) Q q
theorem EvN.toD (h : EvN K te σ H ds) : EvD K te σ H (.list ds) := fun H1 x Q q => h H1 x Q fun v H2 x2 ⟨p, xs, e, n, h1, h2⟩ => q v H2 x2 (dp_lst.mpr ⟨p, xs, e, SqL.of h1, h2⟩)
theorem EvD.cast (h : EvD K te σ H d) (x : d = e) : EvD K te σ H e := x ▸ h
theorem EvN.cast (h : EvN K te σ H ds) (x : ds = es) : EvN K te σ H es := x ▸ h
theorem ed_var {i : Nat} {v : V} (h : σ[i]? = some (some v)) (hd : Dp K H v d) : EvD K (tVar i) σ H d := fun H1 x _ q => ⟨v, h, q v H1 (Evl.Ex.refl H1) (dp_mono x _ _ hd)⟩
theorem ed_int {i : Int} : EvD K (tC (.int i)) σ H (.int i) := fun H1 _ _ q => q _ H1 (Evl.Ex.refl H1) (.int i)
theorem ed_bl {i : Bool} : EvD K (tC (.bl i)) σ H (.bool i) := fun H1 _ _ q => q _ H1 (Evl.Ex.refl H1) (.bl i)
theorem ed_str {i : Str} : EvD K (tC (.str i)) σ H (.str i) := fun H1 _ _ q => q _ H1 (Evl.Ex.refl H1) (.str i)
theorem ed_non : EvD K (tC .non) σ H .none := fun H1 _ _ q => q _ H1 (Evl.Ex.refl H1) .non
/-- a two-place operation, by data -/
def RD (K : PySem.W.Frag) (r : R2) (d e z : PyData) : Prop := ∀ H x y, Dp K H x d → Dp K H y e → ∀ Q : VK, (∀ v H2, Ex H H2 → Dp K H2 v z → Q v H2) → r x y H Q
theorem ed_op {r : R2} (ha : EvD K ta σ H d) (hb : EvD K tb σ H e) (hr : RD K r d e z) : EvD K (tOp r ta tb) σ H z := fun H1 x Q q =>
  ha H1 x _ fun v1 H2 x2 h1 => hb H2 (x.trans x2) _ fun v2 H3 x3 h2 => hr H3 v1 v2 (dp_mono x3 _ _ h1) h2 Q fun v H4 x4 h => q v H4 ((x2.trans x3).trans x4) h
theorem rd_I0 {g : Int → Int → V} {i j : Int} (hz : ∀ H, Dp K H (g i j) z) : RD K (rI0 g) (.int i) (.int j) z := fun H x y hx hy Q q => ⟨i, j, dp_int.mp hx, dp_int.mp hy, q _ H (Evl.Ex.refl H) (hz H)⟩
theorem rd_I {C : Int → Int → Prop} {g : Int → Int → V} {i j : Int} (hc : C i j) (hz : ∀ H, Dp K H (g i j) z) : RD K (rI C g) (.int i) (.int j) z := fun H x y hx hy Q q => ⟨i, j, dp_int.mp hx, dp_int.mp hy, hc, q _ H (Evl.Ex.refl H) (hz H)⟩
theorem rd_eqI {i j : Int} : RD K rEq (.int i) (.int j) (.bool (decide (i = j))) := fun H x y hx hy Q q => by
  rw [dp_int.mp hx, dp_int.mp hy]
  refine ⟨rfl, ?_⟩
  rw [dec_int, Bool.beq_eq_decide_eq]
  exact q _ H (Evl.Ex.refl H) (.bl _)
theorem rd_neI {i j : Int} : RD K rNe (.int i) (.int j) (.bool (!decide (i = j))) := fun H x y hx hy Q q => by
  rw [dp_int.mp hx, dp_int.mp hy]
  refine ⟨rfl, ?_⟩
  rw [dec_int, Bool.beq_eq_decide_eq]
  exact q _ H (Evl.Ex.refl H) (.bl _)
theorem rd_eqB {i j : Bool} : RD K rEq (.bool i) (.bool j) (.bool (decide (i = j))) := fun H x y hx hy Q q => by
  rw [dp_bl.mp hx, dp_bl.mp hy]
  refine ⟨rfl, ?_⟩
  rw [dec_bl, Bool.beq_eq_decide_eq]
  exact q _ H (Evl.Ex.refl H) (.bl _)
theorem rd_neB {i j : Bool} : RD K rNe (.bool i) (.bool j) (.bool (!decide (i = j))) := fun H x y hx hy Q q => by
  rw [dp_bl.mp hx, dp_bl.mp hy]
  refine ⟨rfl, ?_⟩
  rw [dec_bl, Bool.beq_eq_decide_eq]
  exact q _ H (Evl.Ex.refl H) (.bl _)
theorem rd_eqS {i j : Str} : RD K rEq (.str i) (.str j) (.bool (decide (i = j))) := fun H x y hx hy Q q => by
  rw [dp_str.mp hx, dp_str.mp hy]
  refine ⟨rfl, ?_⟩
  have e : decide (V.str i = V.str j) = decide (i = j) := decide_eq_decide.mpr ⟨fun h => V.str.inj h, fun h => congrArg V.str h⟩
  rw [e]
  exact q _ H (Evl.Ex.refl H) (.bl _)
theorem rd_neS {i j : Str} : RD K rNe (.str i) (.str j) (.bool (!decide (i = j))) := fun H x y hx hy Q q => by
  rw [dp_str.mp hx, dp_str.mp hy]
  refine ⟨rfl, ?_⟩
  have e : decide (V.str i = V.str j) = decide (i = j) := decide_eq_decide.mpr ⟨fun h => V.str.inj h, fun h => congrArg V.str h⟩
  rw [e]
  exact q _ H (Evl.Ex.refl H) (.bl _)
theorem rd_eqD (hd : SeqAt.shaped d = true) (he : SeqAt.shaped e = true) : RD K (rEqD K) d e (.bool (PyData.eqv d e)) := fun H x y hx hy Q q => ⟨d, e, hx, hy, hd, he, q _ H (Evl.Ex.refl H) (.bl _)⟩
theorem rd_neD (hd : SeqAt.shaped d = true) (he : SeqAt.shaped e = true) : RD K (rNeD K) d e (.bool (!PyData.eqv d e)) := fun H x y hx hy Q q => ⟨d, e, hx, hy, hd, he, q _ H (Evl.Ex.refl H) (.bl _)⟩
theorem rd_inT {i : Int} {g : List Int} : RD K (rIn K false) (.int i) (eI g) (.bool (g.contains i)) := fun H x y hx hy Q q => by
  obtain ⟨a, rfl, hg⟩ := dp_eI.mp hy
  rw [dp_int.mp hx]
  refine ⟨a, _, rfl, .inr hg, rfl, flat_ints g, ?_⟩
  rw [if_neg Bool.false_ne_true, inV_ints]
  exact q _ H (Evl.Ex.refl H) (.bl _)
theorem rd_niT {i : Int} {g : List Int} : RD K (rIn K true) (.int i) (eI g) (.bool (!g.contains i)) := fun H x y hx hy Q q => by
  obtain ⟨a, rfl, hg⟩ := dp_eI.mp hy
  rw [dp_int.mp hx]
  refine ⟨a, _, rfl, .inr hg, rfl, flat_ints g, ?_⟩
  rw [if_pos rfl, inV_ints]
  exact q _ H (Evl.Ex.refl H) (.bl _)
theorem rd_inDL (hd : SeqAt.shaped d = true) (he : SeqAt.shaped (.list ds) = true) : RD K (rInD K) d (.list ds) (.bool (ds.any fun z => PyData.eqv z d)) := fun H x y hx hy Q q => ⟨d, ds, hx, hy, hd, he, q _ H (Evl.Ex.refl H) (.bl _)⟩
theorem rd_niDL (hd : SeqAt.shaped d = true) (he : SeqAt.shaped (.list ds) = true) : RD K (rNotInD K) d (.list ds) (.bool (!ds.any fun z => PyData.eqv z d)) := fun H x y hx hy Q q => ⟨d, ds, hx, hy, hd, he, q _ H (Evl.Ex.refl H) (.bl _)⟩
theorem atI_dpa {vs : List V} {i : Int} (h : DpAll K H vs ds) (ha : atI ds i = some d) : ∃ v, atI vs i = some v ∧ Dp K H v d := by
  unfold atI at ha ⊢
  rw [dpa_len h]
  cases hx : ixN ds.length i with
  | none => rw [hx] at ha; cases ha
  | some j =>
    rw [hx] at ha
    exact dpa_get' h ha
theorem rd_ixL {i : Int} (ha : atI ds i = some z) : RD K (rIxL K) (.list ds) (.int i) z := fun H x y hx hy Q q => by
  obtain ⟨a, xs, rfl, h1, h2⟩ := dp_lst.mp hx
  obtain ⟨v, h3, h4⟩ := atI_dpa h2 ha
  exact ⟨a, xs, i, v, rfl, dp_int.mp hy, h1, h3, q v H (Evl.Ex.refl H) h4⟩
theorem rd_ixT {i : Int} (ha : atI ds i = some z) : RD K (rIxT K) (.tuple ds) (.int i) z := fun H x y hx hy Q q => by
  obtain ⟨a, xs, rfl, h1, h2⟩ := dp_tup.mp hx
  obtain ⟨v, h3, h4⟩ := atI_dpa h2 ha
  exact ⟨a, xs, i, v, rfl, dp_int.mp hy, h1, h3, q v H (Evl.Ex.refl H) h4⟩
theorem ed_un {g : Int → V} {i : Int} (ha : EvD K ta σ H (.int i)) (hz : ∀ H, Dp K H (g i) z) : EvD K (tUn (rU g) ta) σ H z := fun H1 x Q q => ha H1 x _ fun v1 H2 x2 h1 => ⟨i, dp_int.mp h1, q _ H2 x2 (hz H2)⟩
theorem ed_chain {i j k : Int} (ha : EvD K ta σ H (.int i)) (hb : EvD K tb σ H (.int j)) (hc : EvD K tc σ H (.int k)) {p p' : Int → Int → Bool} :
    EvD K (tChain (rI0 fun i j => .bl (p i j)) (rI0 fun i j => .bl (p' i j)) ta tb tc) σ H (.bool (p i j && p' j k)) := fun H1 x Q q =>
  ha H1 x _ fun v1 H2 x2 h1 => hb H2 (x.trans x2) _ fun v2 H3 x3 h2 => by
    cases dp_int.mp h1
    cases dp_int.mp h2
    refine ⟨i, j, rfl, rfl, _, rfl, ?_⟩
    cases hp : p i j with
    | false => rw [if_neg Bool.false_ne_true]; rw [hp] at q; exact q _ H3 (x2.trans x3) (.bl false)
    | true =>
      rw [if_pos rfl]
      rw [hp, Bool.true_and] at q
      exact hc H3 ((x.trans x2).trans x3) _ fun v3 H4 x4 h3 => by
        cases dp_int.mp h3
        exact ⟨j, k, rfl, rfl, q _ H4 ((x2.trans x3).trans x4) (.bl _)⟩
theorem eds_nil : EvDs K tNil σ H [] := fun H1 _ _ q => q [] H1 (Evl.Ex.refl H1) .nil
theorem eds_cons {tr : TA} (h : EvD K te σ H d) (hr : EvDs K tr σ H ds) : EvDs K (tCons te tr) σ H (d :: ds) := fun H1 x _ q =>
  h H1 x _ fun v H2 x2 h1 => hr H2 (x.trans x2) _ fun vs H3 x3 h2 => q _ H3 (x2.trans x3) (.cons (dp_mono x3 _ _ h1) h2)
theorem ed_tup {tr : TA} (h : EvDs K tr σ H ds) (hl : ds.length ≤ 100000) : EvD K (tTup tr) σ H (.tuple ds) := fun H1 x _ q =>
  h H1 x _ fun vs H2 x2 h2 => ⟨Evl.sz_of (by rw [dpa_len h2]; exact hl), fun p hp => q _ _ (x2.trans (Evl.Ex.new hp)) (dp_tup.mpr ⟨p, vs, rfl, SqT.of upd_same, dpa_mono (Evl.Ex.new hp) _ _ h2⟩)⟩
theorem en_lst {tr : TA} (h : EvDs K tr σ H ds) (hl : ds.length ≤ 100000) : EvN K (tLst tr) σ H ds := fun H1 x _ q =>
  h H1 x _ fun vs H2 x2 h2 => ⟨Evl.sz_of (by rw [dpa_len h2]; exact hl), fun p hp => q _ _ (x2.trans (Evl.Ex.new hp)) ⟨p, vs, rfl, Evl.fresh_back x2 hp, upd_same, dpa_mono (Evl.Ex.new hp) _ _ h2⟩⟩
/-- a built-in's call, by data -/
def CD (K : PySem.W.Frag) (r : List V → Hp → VK → Prop) (ds : List PyData) (z : PyData) : Prop := ∀ H vs, DpAll K H vs ds → ∀ Q : VK, (∀ v H2, Ex H H2 → Dp K H2 v z → Q v H2) → r vs H Q
def CN (K : PySem.W.Frag) (r : List V → Hp → VK → Prop) (ds : List PyData) (zs : List PyData) : Prop := ∀ H vs, DpAll K H vs ds → ∀ Q : VK, (∀ v H2, Ex H H2 → NewL K H v H2 zs → Q v H2) → r vs H Q
theorem NewL.back {H0 H1 H2 : Hp} {v : V} (x : Ex H0 H1) (h : NewL K H1 v H2 ds) : NewL K H0 v H2 ds := by
  obtain ⟨p, xs, e, n, h1, h2⟩ := h
  exact ⟨p, xs, e, Evl.fresh_back x n, h1, h2⟩
theorem NewL.dp {H0 : Hp} {v : V} (h : NewL K H0 v H ds) : Dp K H v (.list ds) := by
  obtain ⟨p, xs, e, n, h1, h2⟩ := h
  exact dp_lst.mpr ⟨p, xs, e, SqL.of h1, h2⟩
theorem ed_cb {r : List V → Hp → VK → Prop} {tr : TA} (h : EvDs K tr σ H ds) (hr : CD K r ds z) : EvD K (tCB r tr) σ H z := fun H1 x Q q =>
  h H1 x _ fun vs H2 x2 h2 => hr H2 vs h2 Q fun v H3 x3 h3 => q v H3 (x2.trans x3) h3
theorem en_cb {r : List V → Hp → VK → Prop} {tr : TA} (h : EvDs K tr σ H ds) (hr : CN K r ds es) : EvN K (tCB r tr) σ H es := fun H1 x Q q =>
  h H1 x _ fun vs H2 x2 h2 => hr H2 vs h2 Q fun v H3 x3 h3 => q v H3 (x2.trans x3) (h3.back x2)
abbrev rLenQ (K : PySem.W.Frag) : List V → Hp → VK → Prop := fun xs H Q => ∃ p ys, xs = [.ref p] ∧ (SqL K H p ys ∨ SqT K H p ys) ∧ Q (.int ys.length) H
theorem cd_lenL : CD K (rLenQ K) [.list ds] (.int ds.length) := fun H vs h Q q => by
  cases h with
  | cons h1 h2 =>
    cases h2
    obtain ⟨a, xs, rfl, h3, h4⟩ := dp_lst.mp h1
    refine ⟨a, xs, rfl, .inl h3, ?_⟩
    rw [dpa_len h4]
    exact q _ H (Evl.Ex.refl H) (.int _)
theorem cd_lenT : CD K (rLenQ K) [.tuple ds] (.int ds.length) := fun H vs h Q q => by
  cases h with
  | cons h1 h2 =>
    cases h2
    obtain ⟨a, xs, rfl, h3, h4⟩ := dp_tup.mp h1
    refine ⟨a, xs, rfl, .inr h3, ?_⟩
    rw [dpa_len h4]
    exact q _ H (Evl.Ex.refl H) (.int _)
theorem cd_lenI {g : List Int} : CD K (rLenQ K) [eI g] (.int g.length) := by
  have h := cd_lenT (K := K) (ds := g.map .int)
  rw [List.length_map] at h
  exact h
abbrev rTupQ (K : PySem.W.Frag) : List V → Hp → VK → Prop := fun xs H Q => ∃ p ys, xs = [.ref p] ∧ ((SqL K H p ys ∧ ∀ l, H l = none → Q (.ref l) (upd H l (.tup ys))) ∨ (SqT K H p ys ∧ Q (.ref p) H))
theorem cd_tupL : CD K (rTupQ K) [.list ds] (.tuple ds) := fun H vs h Q q => by
  cases h with
  | cons h1 h2 =>
    cases h2
    obtain ⟨a, xs, rfl, h3, h4⟩ := dp_lst.mp h1
    exact ⟨a, xs, rfl, .inl ⟨h3, fun l hl => q _ _ (Evl.Ex.new hl) (dp_tup.mpr ⟨l, xs, rfl, SqT.of upd_same, dpa_mono (Evl.Ex.new hl) _ _ h4⟩)⟩⟩
abbrev rListQ (K : PySem.W.Frag) : List V → Hp → VK → Prop := fun xs H Q => ∃ p ys, xs = [.ref p] ∧ (SqL K H p ys ∨ SqT K H p ys) ∧ ∀ l, H l = none → Q (.ref l) (upd H l (.lst ys))
theorem cn_listL : CN K (rListQ K) [.list ds] ds := fun H vs h Q q => by
  cases h with
  | cons h1 h2 =>
    cases h2
    obtain ⟨a, xs, rfl, h3, h4⟩ := dp_lst.mp h1
    exact ⟨a, xs, rfl, .inl h3, fun l hl => q _ _ (Evl.Ex.new hl) ⟨l, xs, rfl, hl, upd_same, dpa_mono (Evl.Ex.new hl) _ _ h4⟩⟩
/-- isinstance(x, T), T built-in -/
def tyN : PyData → String
  | .none => "NoneType"
  | .bool _ => "bool"
  | .int _ => "int"
  | .str _ => "str"
  | .list _ => "list"
  | .tuple _ => "tuple"
  | .dict _ => "dict"
theorem tyx_L {a : Addr} {xs : List V} (h : SqL K H a xs) : TyX K H (.ref a) (.type "list") := by
  rcases h with (h | ⟨o, h⟩) | ⟨o, its, n, hk, hc, _⟩
  · exact .base (.lst h)
  · exact .base (.frz h)
  · exact .kList hk hc
theorem tyx_T {a : Addr} {xs : List V} (h : SqT K H a xs) : TyX K H (.ref a) (.type "tuple") := by
  rcases h with (h | ⟨o, h⟩) | ⟨o, its, n, hk, hc, _⟩
  · exact .base (.tup h)
  · exact .fTuple h
  · exact .kTuple hk hc
theorem dp_tyx {v : V} : ∀ {d : PyData}, Dp K H v d → TyX K H v (.type (tyN d))
  | .none, h => by cases h; exact .base .non
  | .bool b, h => by cases h; exact .base (.bl b)
  | .int i, h => by cases h; exact .base (.int i)
  | .str x, h => by cases h; exact .base (.str x)
  | .list ds, h => by
    obtain ⟨a, xs, rfl, h1, _⟩ := dp_lst.mp h
    exact tyx_L h1
  | .tuple ds, h => by
    obtain ⟨a, xs, rfl, h1, _⟩ := dp_tup.mp h
    exact tyx_T h1
  | .dict _, h => by cases h
/-- a call of isinstance upon a built-in class -/
def isT (T : String) : PyData → Bool
  | .none => T == "NoneType"
  | .bool _ => T == "bool" || T == "int"
  | .int _ => T == "int"
  | .str _ => T == "str"
  | .list _ => T == "list"
  | .tuple _ => T == "tuple"
  | .dict _ => T == "dict"
theorem kb_int : ∀ d, kitB (tyN d) "int" = some (isT "int" d)
  | .none => by show kitB "NoneType" "int" = some false; decide +kernel
  | .bool _ => by show kitB "bool" "int" = some true; decide +kernel
  | .int _ => by show kitB "int" "int" = some true; decide +kernel
  | .str _ => by show kitB "str" "int" = some false; decide +kernel
  | .list _ => by show kitB "list" "int" = some false; decide +kernel
  | .tuple _ => by show kitB "tuple" "int" = some false; decide +kernel
  | .dict _ => by show kitB "dict" "int" = some false; decide +kernel
theorem kb_bool : ∀ d, kitB (tyN d) "bool" = some (isT "bool" d)
  | .none => by show kitB "NoneType" "bool" = some false; decide +kernel
  | .bool _ => by show kitB "bool" "bool" = some true; decide +kernel
  | .int _ => by show kitB "int" "bool" = some false; decide +kernel
  | .str _ => by show kitB "str" "bool" = some false; decide +kernel
  | .list _ => by show kitB "list" "bool" = some false; decide +kernel
  | .tuple _ => by show kitB "tuple" "bool" = some false; decide +kernel
  | .dict _ => by show kitB "dict" "bool" = some false; decide +kernel
theorem kb_list : ∀ d, kitB (tyN d) "list" = some (isT "list" d)
  | .none => by show kitB "NoneType" "list" = some false; decide +kernel
  | .bool _ => by show kitB "bool" "list" = some false; decide +kernel
  | .int _ => by show kitB "int" "list" = some false; decide +kernel
  | .str _ => by show kitB "str" "list" = some false; decide +kernel
  | .list _ => by show kitB "list" "list" = some true; decide +kernel
  | .tuple _ => by show kitB "tuple" "list" = some false; decide +kernel
  | .dict _ => by show kitB "dict" "list" = some false; decide +kernel
theorem kb_tuple : ∀ d, kitB (tyN d) "tuple" = some (isT "tuple" d)
  | .none => by show kitB "NoneType" "tuple" = some false; decide +kernel
  | .bool _ => by show kitB "bool" "tuple" = some false; decide +kernel
  | .int _ => by show kitB "int" "tuple" = some false; decide +kernel
  | .str _ => by show kitB "str" "tuple" = some false; decide +kernel
  | .list _ => by show kitB "list" "tuple" = some false; decide +kernel
  | .tuple _ => by show kitB "tuple" "tuple" = some true; decide +kernel
  | .dict _ => by show kitB "dict" "tuple" = some false; decide +kernel
theorem kb_str : ∀ d, kitB (tyN d) "str" = some (isT "str" d)
  | .none => by show kitB "NoneType" "str" = some false; decide +kernel
  | .bool _ => by show kitB "bool" "str" = some false; decide +kernel
  | .int _ => by show kitB "int" "str" = some false; decide +kernel
  | .str _ => by show kitB "str" "str" = some true; decide +kernel
  | .list _ => by show kitB "list" "str" = some false; decide +kernel
  | .tuple _ => by show kitB "tuple" "str" = some false; decide +kernel
  | .dict _ => by show kitB "dict" "str" = some false; decide +kernel
theorem ed_isi {T : String} {b : Bool} (h : EvD K te σ H d) (hb : kitB (tyN d) T = some b) : EvD K (tCB (rIsi K) (tCons te (tCons (tC (.ty T)) tNil))) σ H (.bool b) := fun H1 x _ q =>
  h H1 x _ fun v H2 x2 h1 => ⟨v, .ty T, _, _, b, rfl, .ty T, dp_tyx h1, kit_ty hb, q _ H2 x2 (.bl b)⟩
theorem ed_isiI (h : EvD K te σ H d) : EvD K (tCB (rIsi K) (tCons te (tCons (tC (.ty "int")) tNil))) σ H (.bool (isT "int" d)) := ed_isi h (kb_int d)
theorem ed_isiB (h : EvD K te σ H d) : EvD K (tCB (rIsi K) (tCons te (tCons (tC (.ty "bool")) tNil))) σ H (.bool (isT "bool" d)) := ed_isi h (kb_bool d)
theorem ed_isiL (h : EvD K te σ H d) : EvD K (tCB (rIsi K) (tCons te (tCons (tC (.ty "list")) tNil))) σ H (.bool (isT "list" d)) := ed_isi h (kb_list d)
theorem ed_isiT (h : EvD K te σ H d) : EvD K (tCB (rIsi K) (tCons te (tCons (tC (.ty "tuple")) tNil))) σ H (.bool (isT "tuple" d)) := ed_isi h (kb_tuple d)
theorem ed_isiS (h : EvD K te σ H d) : EvD K (tCB (rIsi K) (tCons te (tCons (tC (.ty "str")) tNil))) σ H (.bool (isT "str" d)) := ed_isi h (kb_str d)
/-! calls of one's own defs -/
/-- a promise told by data: x stands for the arguments -/
def spP (K : PySem.W.Frag) {α : Type} (dom : α → Prop) (enc : α → List PyData) (out : α → PyData) : Sp := fun vs H Q _ => ∃ x : α, dom x ∧ DpAll K H vs (enc x) ∧ RetR (fun v H' => Dp K H' v (out x)) H Q
def spL (K : PySem.W.Frag) {α : Type} (dom : α → Prop) (enc : α → List PyData) (out : α → List PyData) : Sp := fun vs H Q _ => ∃ x : α, dom x ∧ DpAll K H vs (enc x) ∧ RetR (fun v H' => NewL K H v H' (out x)) H Q
theorem spP.len {α : Type} {dom : α → Prop} {enc : α → List PyData} {out : α → PyData} {n : Nat} (hn : ∀ x, (enc x).length = n) {vs : List V} {Q : VK} {E : XK} (h : spP K dom enc out vs H Q E) : vs.length = n := by
  obtain ⟨x, _, h1, _⟩ := h
  rw [dpa_len h1, hn]
theorem spL.len {α : Type} {dom : α → Prop} {enc : α → List PyData} {out : α → List PyData} {n : Nat} (hn : ∀ x, (enc x).length = n) {vs : List V} {Q : VK} {E : XK} (h : spL K dom enc out vs H Q E) : vs.length = n := by
  obtain ⟨x, _, h1, _⟩ := h
  rw [dpa_len h1, hn]
theorem ed_call {α : Type} {dom : α → Prop} {enc : α → List PyData} {out : α → PyData} {E : XK} {tr : TA} (x : α) (hx : dom x) (h : EvDs K tr σ H (enc x)) : EvD K (tCall (spP K dom enc out) [] E tr) σ H (out x) := fun H1 e Q q =>
  h H1 e _ fun vs H2 x2 h2 => ⟨x, hx, by rw [List.append_nil]; exact h2, fun v H3 x3 h3 => q v H3 (x2.trans x3) h3⟩
theorem en_call {α : Type} {dom : α → Prop} {enc : α → List PyData} {out : α → List PyData} {E : XK} {tr : TA} (x : α) (hx : dom x) (h : EvDs K tr σ H (enc x)) : EvN K (tCall (spL K dom enc out) [] E tr) σ H (out x) := fun H1 e Q q =>
  h H1 e _ fun vs H2 x2 h2 => ⟨x, hx, by rw [List.append_nil]; exact h2, fun v H3 x3 h3 => q v H3 (x2.trans x3) (h3.back x2)⟩
/-! tests -/
theorem et_d {b : Bool} (h : EvD K te σ H (.bool b)) : Evl.EvT (tTest te) σ H b := fun H1 x _ q => h H1 x _ fun v H2 x2 h1 => ⟨b, dp_bl.mp h1, q H2 x2⟩
theorem et_dB {b : Bool} (h : EvD K te σ H (.bool b)) : Evl.EvT (tB te) σ H b := fun H1 x _ q => h H1 x _ fun v H2 x2 h1 => ⟨b, dp_bl.mp h1, q H2 x2⟩
theorem et_and1 {a b : Bool} (h1 : Evl.EvT t σ H a) (h2 : Evl.EvT u σ H b) : Evl.EvT (tAnd t u) σ H (a && b) := Evl.et_and h1 fun _ => h2
theorem et_or1 {a b : Bool} (h1 : Evl.EvT t σ H a) (h2 : Evl.EvT u σ H b) : Evl.EvT (tOr t u) σ H (a || b) := Evl.et_or h1 fun _ => h2
theorem ed_andV {a b : Bool} (h1 : EvD K ta σ H (.bool a)) (h2 : a = true → EvD K tb σ H (.bool b)) : EvD K (tAndV ta tb) σ H (.bool (a && b)) := fun H1 x Q q => h1 H1 x _ fun v H2 x2 hv => ⟨a, dp_bl.mp hv, by
  cases a with
  | true => rw [if_pos rfl]; exact h2 rfl H2 (x.trans x2) Q fun v H3 x3 h3 => q v H3 (x2.trans x3) h3
  | false => rw [if_neg Bool.false_ne_true]; exact q _ H2 x2 (.bl false)⟩
theorem ed_orV {a b : Bool} (h1 : EvD K ta σ H (.bool a)) (h2 : a = false → EvD K tb σ H (.bool b)) : EvD K (tOrV ta tb) σ H (.bool (a || b)) := fun H1 x Q q => h1 H1 x _ fun v H2 x2 hv => ⟨a, dp_bl.mp hv, by
  cases a with
  | false => rw [if_neg Bool.false_ne_true]; exact h2 rfl H2 (x.trans x2) Q fun v H3 x3 h3 => q v H3 (x2.trans x3) h3
  | true => rw [if_pos rfl]; exact q _ H2 x2 (.bl true)⟩
theorem ed_notV {a : Bool} (h1 : EvD K ta σ H (.bool a)) : EvD K (tNotV ta) σ H (.bool (!a)) := fun H1 x Q q => h1 H1 x _ fun v H2 x2 hv => ⟨a, dp_bl.mp hv, q _ H2 x2 (.bl _)⟩
/-! statements, something behind -/
variable {D : Ends} {tu tw tz : TS}
theorem w_asg {i : Nat} (h : EvD K te σ H d) (k : ∀ v H1, Ex H H1 → Dp K H1 v d → tz D (σ.set i (some v)) H1) : tSeq (tAsg te (gName i)) tz D σ H := h H (Evl.Ex.refl H) _ fun v H1 x hv => k v H1 x hv
theorem w_asgN {i : Nat} (h : EvN K te σ H ds) (k : ∀ v H1, Ex H H1 → NewL K H v H1 ds → tz D (σ.set i (some v)) H1) : tSeq (tAsg te (gName i)) tz D σ H := h H (Evl.Ex.refl H) _ fun v H1 x hv => k v H1 x hv
theorem w_asg1 {i : Nat} (h : EvD K te σ H d) (k : ∀ v H1, Ex H H1 → Dp K H1 v d → D.nx (σ.set i (some v)) H1) : tAsg te (gName i) D σ H := h H (Evl.Ex.refl H) _ fun v H1 x hv => k v H1 x hv
theorem w_ret1 (h : EvD K te σ H d) (k : ∀ v H1, Ex H H1 → Dp K H1 v d → D.rt v H1) : tRet te D σ H := h H (Evl.Ex.refl H) _ k
theorem w_retN1 (h : EvN K te σ H ds) (k : ∀ v H1, Ex H H1 → NewL K H v H1 ds → D.rt v H1) : tRet te D σ H := h H (Evl.Ex.refl H) _ k
theorem w_ret (h : EvD K te σ H d) (k : RetR (fun v H' => Dp K H' v d) H D.rt) : tRet te D σ H := h H (Evl.Ex.refl H) _ fun v H1 x hv => k v H1 x hv
theorem w_retN (h : EvN K te σ H ds) (k : RetR (fun v H' => NewL K H v H' ds) H D.rt) : tRet te D σ H := h H (Evl.Ex.refl H) _ fun v H1 x hv => k v H1 x hv
/-! comprehensions -/
theorem turn_of {tt : TT} {vs : List Nat} {j : Nat} {x : V} {b : Bool} (hw : wipe ((wipe σ vs).set j (some x)) vs = wipe σ vs) (ht : Evl.EvT tt ((wipe σ vs).set j (some x)) H b) (he : b = true → EvD K te ((wipe σ vs).set j (some x)) H d) :
    TurnOk K (gName j) tt te vs σ H x (if b = true then some d else none) := by
  intro H1 C x1 c0 c1
  refine ⟨hw, ht H1 x1 _ fun H2 x2 => ?_⟩
  cases b with
  | false => rw [if_neg Bool.false_ne_true]; exact c0 H2 x2 (if_neg Bool.false_ne_true)
  | true => rw [if_pos rfl]; exact he rfl H2 (x1.trans x2) _ fun v H3 x3 h3 => c1 v d H3 (x2.trans x3) (if_pos rfl) h3
theorem turn_all {vs : List Nat} {j : Nat} {x : V} (hw : wipe ((wipe σ vs).set j (some x)) vs = wipe σ vs) (he : EvD K te ((wipe σ vs).set j (some x)) H d) :
    TurnOk K (gName j) tYes te vs σ H x (some d) := by
  intro H1 C x1 c0 c1
  refine ⟨hw, ?_⟩
  show if true = true then te ((wipe σ vs).set j (some x)) H1 (fun y H4 => C (some y) H4) else C none H1
  rw [if_pos rfl]
  exact he H1 x1 _ fun v H3 x3 h3 => c1 v d H3 x3 rfl h3
theorem TurnOk.mono {g : TG} {tt : TT} {vs : List Nat} {x : V} {o : Option PyData} (e : Ex H H') (h : TurnOk K g tt te vs σ H x o) : TurnOk K g tt te vs σ H' x o := fun H1 C x1 c0 c1 => h H1 C (e.trans x1) c0 c1
theorem en_lcR {g : TG} {tt : TT} {ta : TA} {vs : List Nat} {n : Int} (fs : Nat → Option PyData) (hn : ∀ i d, fs i = some d → noL d = true) (h : EvDs K ta σ H [.int n]) (h0 : 0 ≤ n) (hz : n ≤ 100000)
    (ht : ∀ i : Nat, (i : Int) < n → TurnOk K g tt te vs σ H (.int (i : Int)) (fs i)) : EvN K (tLc (iRng1 ta) g tt te vs) σ H ((List.range n.toNat).filterMap fs) := fun H1 x Q q =>
  h H1 x _ fun us H2 x2 h2 => by
    cases h2 with
    | cons h3 h4 =>
      cases h4
      cases dp_int.mp h3
      refine ⟨n, rfl, by omega, by omega, fun D hD => lcR (lo := 0) (n := n.toNat) fs hn (by omega) hD (fun i hi => ?_) fun D' H' acc n0 e0 h1 h2 => q _ H' (x2.trans e0) ⟨D', acc, rfl, Evl.fresh_back x2 n0, h1, h2⟩⟩
      have z := (ht i (by omega)).mono (x.trans x2)
      rw [Int.zero_add]
      exact z
theorem en_lcL {g : TG} {tt : TT} {tl : TE} {vs : List Nat} (fs : Nat → Option PyData) (hn : ∀ i d, fs i = some d → noL d = true) (h : EvD K tl σ H (.list ds)) (hz : ds.length ≤ 100000)
    (ht : ∀ (i : Nat) (d : PyData), ds[i]? = some d → ∀ x H1, Ex H H1 → Dp K H1 x d → TurnOk K g tt te vs σ H1 x (fs i)) : EvN K (tLc (iList K tl) g tt te vs) σ H ((List.range ds.length).filterMap fs) := fun H1 x Q q =>
  h H1 x _ fun v H2 x2 h2 => by
    obtain ⟨a, xs, rfl, h3, h4⟩ := dp_lst.mp h2
    have hl := dpa_len h4
    refine ⟨a, rfl, ⟨xs, h3⟩, fun D hD => lcL (xs := xs) fs hn (by omega) hD h3 (fun i y hy => ?_) fun D' H' acc n0 e0 h1 h2 => q _ H' (x2.trans e0) ⟨D', acc, rfl, Evl.fresh_back x2 n0, h1, by rw [← hl]; exact h2⟩⟩
    obtain ⟨d, hd, hdy⟩ := dpa_get h4 hy
    exact ht i d hd y H2 (x.trans x2) hdy
theorem en_lcT {g : TG} {tt : TT} {tl : TE} {vs : List Nat} (fs : Nat → Option PyData) (hn : ∀ i d, fs i = some d → noL d = true) (h : EvD K tl σ H (.tuple ds)) (hz : ds.length ≤ 100000)
    (ht : ∀ (i : Nat) (d : PyData), ds[i]? = some d → ∀ x H1, Ex H H1 → Dp K H1 x d → TurnOk K g tt te vs σ H1 x (fs i)) : EvN K (tLc (iTup K tl) g tt te vs) σ H ((List.range ds.length).filterMap fs) := fun H1 x Q q =>
  h H1 x _ fun v H2 x2 h2 => by
    obtain ⟨a, xs, rfl, h3, h4⟩ := dp_tup.mp h2
    have hl := dpa_len h4
    refine ⟨a, rfl, ⟨xs, h3⟩, fun D hD => lcT (xs := xs) fs hn (by omega) hD h3 (fun i y hy => ?_) fun D' H' acc n0 e0 h1 h2 => q _ H' (x2.trans e0) ⟨D', acc, rfl, Evl.fresh_back x2 n0, h1, by rw [← hl]; exact h2⟩⟩
    obtain ⟨d, hd, hdy⟩ := dpa_get h4 hy
    exact ht i d hd y H2 (x.trans x2) hdy
end

end Fy

namespace Fy
open PySem PySem.Spec PyProof.Rows L2
/-! ### what a night is, in plain Lean -/
structure Nt where
  things : List (Int × Bool)
  room : Int
  quarrels : List (Int × Int × Int)
def paceOk (t : Int × Bool) : Bool := decide (1 ≤ t.1 ∧ t.1 ≤ 1000000000)
def thingsOk (ts : List (Int × Bool)) : Bool := decide (1 ≤ ts.length ∧ ts.length ≤ 6) && ts.all paceOk
def roomOk (r : Int) : Bool := decide (1 ≤ r ∧ r ≤ 3)
def quarrelIn (many : Int) (q : Int × Int × Int) : Bool := decide (0 ≤ q.1 ∧ q.1 < many) && (decide (0 ≤ q.2.1 ∧ q.2.1 < many) && decide (-1 ≤ q.2.2 ∧ q.2.2 < many))
def quarrelTwo (q : Int × Int × Int) : Bool := decide (q.1 = q.2.1) || (decide (q.2.2 = q.1) || decide (q.2.2 = q.2.1))
def quarrelOk (many : Int) (q : Int × Int × Int) : Bool := quarrelIn many q && !quarrelTwo q
def quarrelsOk (many : Int) (qs : List (Int × Int × Int)) : Bool := decide (qs.length ≤ 30) && qs.all (quarrelOk many)
def Nt.ok (n : Nt) : Bool := thingsOk n.things && (roomOk n.room && quarrelsOk n.things.length n.quarrels)
/-- lo, lo + 1, .. as ints -/
def rng (n : Nat) : List Int := (List.range n).map fun i : Nat => (i : Int)
def atWar (g : List Int) (q : Int × Int × Int) : Bool := g.contains q.1 && (g.contains q.2.1 && !g.contains q.2.2)
def peace (qs : List (Int × Int × Int)) (g : List Int) : Bool := qs.all fun q => !atWar g q
def restOf (g : List Int) (many : Nat) : List Int := (rng many).filter fun t => !g.contains t
theorem rng_len (n : Nat) : (rng n).length = n := by simp [rng]
theorem mem_rng {n : Nat} {i : Int} : i ∈ rng n ↔ 0 ≤ i ∧ i < n := by
  simp only [rng, List.mem_map, List.mem_range]
  constructor
  · rintro ⟨a, h, rfl⟩; omega
  · intro h; exact ⟨i.toNat, by omega, by omega⟩
theorem rng_get {n i : Nat} (h : i < n) : (rng n)[i]? = some (i : Int) := by
  simp [rng, h]
/-- a list met by its places -/
theorem fm_range_map {α : Type} (xs : List α) : (List.range xs.length).filterMap (fun i => xs[i]?) = xs := by
  induction xs with
  | nil => rfl
  | cons a r ih =>
    rw [List.length_cons, List.range_succ_eq_map, List.filterMap_cons]
    simp only [List.getElem?_cons_zero, List.filterMap_map]
    have e : ((fun i => (a :: r)[i]?) ∘ Nat.succ) = fun i => r[i]? := by funext i; simp
    rw [e, ih]
theorem fm_range {α β : Type} (xs : List α) (f : α → Option β) : (List.range xs.length).filterMap (fun i => (xs[i]?).bind f) = xs.filterMap f := by
  have h : (List.range xs.length).filterMap (fun i => (xs[i]?).bind f) = ((List.range xs.length).filterMap (fun i => xs[i]?)).filterMap f := by
    rw [List.filterMap_filterMap]
  rw [h, fm_range_map]
theorem fm_ints (n : Nat) (p : Int → Bool) : (List.range n).filterMap (fun i : Nat => if p (i : Int) = true then some (PyData.int (i : Int)) else none) = ((rng n).filter p).map PyData.int := by
  unfold rng
  induction List.range n with
  | nil => rfl
  | cons a r ih =>
    rw [List.filterMap_cons, List.map_cons, List.filter_cons]
    by_cases h : p (a : Int) = true
    · rw [if_pos h, if_pos h]; simp [ih]
    · rw [if_neg h, if_neg h]; simpa using ih

end Fy

namespace Fy
open PySem PySem.Spec PyProof.Rows L2
/-! guards: a form is met by its head alone -/
section
variable {K : PySem.W.Frag} {σ : L2.St} {H : Hp} {ta tb tc te : TE} {t u : TT} {d e z : PyData} {ds : List PyData} {b : Bool} {v : V} {i : Nat} {r r' : R2} {tr : TA}
theorem i_C (h : EvD K (tC v) σ H d) : EvD K (tC v) σ H d := h
theorem i_Var (h : EvD K (tVar i) σ H d) : EvD K (tVar i) σ H d := h
theorem i_Op (h : EvD K (tOp r ta tb) σ H d) : EvD K (tOp r ta tb) σ H d := h
theorem i_Chain (h : EvD K (tChain r r' ta tb tc) σ H d) : EvD K (tChain r r' ta tb tc) σ H d := h
theorem i_Isi {K' : PySem.W.Frag} (h : EvD K (tCB (rIsi K') tr) σ H d) : EvD K (tCB (rIsi K') tr) σ H d := h
theorem i_IsiI {K' : PySem.W.Frag} (h : EvD K (tCB (rIsi K') (tCons te (tCons (tC (.ty "int")) tNil))) σ H d) : EvD K (tCB (rIsi K') (tCons te (tCons (tC (.ty "int")) tNil))) σ H d := h
theorem i_IsiB {K' : PySem.W.Frag} (h : EvD K (tCB (rIsi K') (tCons te (tCons (tC (.ty "bool")) tNil))) σ H d) : EvD K (tCB (rIsi K') (tCons te (tCons (tC (.ty "bool")) tNil))) σ H d := h
theorem i_IsiL {K' : PySem.W.Frag} (h : EvD K (tCB (rIsi K') (tCons te (tCons (tC (.ty "list")) tNil))) σ H d) : EvD K (tCB (rIsi K') (tCons te (tCons (tC (.ty "list")) tNil))) σ H d := h
theorem i_IsiT {K' : PySem.W.Frag} (h : EvD K (tCB (rIsi K') (tCons te (tCons (tC (.ty "tuple")) tNil))) σ H d) : EvD K (tCB (rIsi K') (tCons te (tCons (tC (.ty "tuple")) tNil))) σ H d := h
theorem i_IsiS {K' : PySem.W.Frag} (h : EvD K (tCB (rIsi K') (tCons te (tCons (tC (.ty "str")) tNil))) σ H d) : EvD K (tCB (rIsi K') (tCons te (tCons (tC (.ty "str")) tNil))) σ H d := h
theorem i_CB {rr : List V → Hp → VK → Prop} (h : EvD K (tCB rr tr) σ H d) : EvD K (tCB rr tr) σ H d := h
theorem i_Un {rr : V → Hp → VK → Prop} (h : EvD K (tUn rr ta) σ H d) : EvD K (tUn rr ta) σ H d := h
theorem i_Tup (h : EvD K (tTup tr) σ H d) : EvD K (tTup tr) σ H d := h
theorem i_AndV (h : EvD K (tAndV ta tb) σ H d) : EvD K (tAndV ta tb) σ H d := h
theorem i_OrV (h : EvD K (tOrV ta tb) σ H d) : EvD K (tOrV ta tb) σ H d := h
theorem i_NotV (h : EvD K (tNotV ta) σ H d) : EvD K (tNotV ta) σ H d := h
theorem i_Call {sp : Sp} {dvs : List V} {E : XK} (h : EvD K (tCall sp dvs E tr) σ H d) : EvD K (tCall sp dvs E tr) σ H d := h
theorem i_Nil (h : EvDs K tNil σ H ds) : EvDs K tNil σ H ds := h
theorem i_Cons (h : EvDs K (tCons ta tr) σ H ds) : EvDs K (tCons ta tr) σ H ds := h
theorem i_I0 {g : Int → Int → V} (h : RD K (rI0 g) d e z) : RD K (rI0 g) d e z := h
theorem i_I {C : Int → Int → Prop} {g : Int → Int → V} (h : RD K (rI C g) d e z) : RD K (rI C g) d e z := h
theorem i_Eq (h : RD K rEq d e z) : RD K rEq d e z := h
theorem i_Ne (h : RD K rNe d e z) : RD K rNe d e z := h
theorem i_In {K' : PySem.W.Frag} {n : Bool} (h : RD K (rIn K' n) d e z) : RD K (rIn K' n) d e z := h
theorem i_IxL {K' : PySem.W.Frag} (h : RD K (rIxL K') d e z) : RD K (rIxL K') d e z := h
theorem i_IxT {K' : PySem.W.Frag} (h : RD K (rIxT K') d e z) : RD K (rIxT K') d e z := h
/-- a test, told with K -/
def EvB (_ : PySem.W.Frag) (t : TT) (σ : L2.St) (H : Hp) (b : Bool) : Prop := Evl.EvT t σ H b
theorem i_Test (h : EvB K (tTest te) σ H b) : EvB K (tTest te) σ H b := h
theorem i_B (h : EvB K (tB te) σ H b) : EvB K (tB te) σ H b := h
theorem i_Not (h : EvB K (tNot t) σ H b) : EvB K (tNot t) σ H b := h
theorem i_And (h : EvB K (tAnd t u) σ H b) : EvB K (tAnd t u) σ H b := h
theorem i_Or (h : EvB K (tOr t u) σ H b) : EvB K (tOr t u) σ H b := h
theorem eb_d (h : EvD K te σ H (.bool b)) : EvB K (tTest te) σ H b := et_d h
theorem eb_dB (h : EvD K te σ H (.bool b)) : EvB K (tB te) σ H b := et_dB h
theorem eb_not (h : EvB K t σ H b) : EvB K (tNot t) σ H (!b) := Evl.et_not h
theorem eb_and {c : Bool} (h1 : EvB K t σ H b) (h2 : b = true → EvB K u σ H c) : EvB K (tAnd t u) σ H (b && c) := Evl.et_and h1 h2
theorem eb_or {c : Bool} (h1 : EvB K t σ H b) (h2 : b = false → EvB K u σ H c) : EvB K (tOr t u) σ H (b || c) := Evl.et_or h1 h2
variable {D : Ends} {tu tw tz : TS}
theorem w_if (K : PySem.W.Frag) (h : EvB K t σ H b) (h1 : b = true → ∀ H1, Ex H H1 → tu { D with nx := tz D } σ H1) (h2 : b = false → ∀ H1, Ex H H1 → tw { D with nx := tz D } σ H1) : tSeq (tIfS t tu tw) tz D σ H := Evl.q_if h h1 h2
theorem w_when (K : PySem.W.Frag) (h : EvB K t σ H b) (h1 : b = true → ∀ H1, Ex H H1 → tu { D with nx := tz D } σ H1) (h2 : b = false → ∀ H1, Ex H H1 → tz D σ H1) : tSeq (tIfS t tu tNext) tz D σ H := Evl.q_when h h1 h2
theorem w_if1 (K : PySem.W.Frag) (h : EvB K t σ H b) (h1 : b = true → ∀ H1, Ex H H1 → tu D σ H1) (h2 : b = false → ∀ H1, Ex H H1 → tw D σ H1) : tIfS t tu tw D σ H := Evl.s_if h h1 h2
theorem w_when1 (K : PySem.W.Frag) (h : EvB K t σ H b) (h1 : b = true → ∀ H1, Ex H H1 → tu D σ H1) (h2 : b = false → ∀ H1, Ex H H1 → D.nx σ H1) : tIfS t tu tNext D σ H := Evl.s_when h h1 h2
end

end Fy

namespace Fy
open PySem PySem.Spec PyProof.Rows L2
/-! ### loops by data -/
section
variable {K : PySem.W.Frag} {σ : L2.St} {H : Hp} {tl te : TE} {ds : List PyData} {D : Ends} {tu tz : TS} {g : TG}
theorem w_forL (h : EvD K tl σ H (.list ds)) (k : ∀ a xs H1, Ex H H1 → SqL K H1 a xs → DpAll K H1 xs ds → ∃ Pv : Nat → L2.St → Hp → Prop, Pv 0 σ H1 ∧ (∀ i σ' H', i ≤ xs.length → Pv i σ' H' → SqL K H' a xs) ∧
    (∀ i d x σ' H', ds[i]? = some d → xs[i]? = some x → Dp K H1 x d → Pv i σ' H' → g x σ' H' fun σ2 H2 => tu { D with nx := Pv (i + 1), ct := Pv (i + 1), bk := tz D } σ2 H2) ∧ (∀ σ' H', Pv ds.length σ' H' → tz D σ' H')) : tSeq (tFor (iList K tl) g tu) tz D σ H :=
  h H (Evl.Ex.refl H) _ fun v H1 x hv => by
    obtain ⟨a, xs, rfl, h1, h2⟩ := dp_lst.mp hv
    obtain ⟨Pv, p0, p1, p2, p3⟩ := k a xs H1 x h1 h2
    have hl := dpa_len h2
    refine ⟨a, rfl, ⟨xs, h1⟩, for_list (K := K) (a := a) (xs := xs) (D := { D with nx := tz D }) Pv p0 p1 (fun i y σ' H' hi hp => ?_) (by rw [hl]; exact p3)⟩
    obtain ⟨d, hd, hdy⟩ := dpa_get h2 hi
    exact p2 i d y σ' H' hd hi hdy hp
/-- where all that stood ahead of the loop stays -/
theorem w_forLx (h : EvD K tl σ H (.list ds)) (Pv : Nat → L2.St → Hp → Prop) (h0 : ∀ H1, Ex H H1 → Pv 0 σ H1)
    (hs : ∀ i d x σ' H', ds[i]? = some d → Ex H H' → Dp K H' x d → Pv i σ' H' → g x σ' H' fun σ2 H2 => tu { D with nx := fun σ3 H3 => Ex H' H3 ∧ Pv (i + 1) σ3 H3, ct := fun σ3 H3 => Ex H' H3 ∧ Pv (i + 1) σ3 H3, bk := tz D } σ2 H2)
    (hd : ∀ σ' H', Ex H H' → Pv ds.length σ' H' → tz D σ' H') : tSeq (tFor (iList K tl) g tu) tz D σ H :=
  h H (Evl.Ex.refl H) _ fun v H1 x hv => by
    obtain ⟨a, xs, rfl, h1, h2⟩ := dp_lst.mp hv
    have hl := dpa_len h2
    refine ⟨a, rfl, ⟨xs, h1⟩, fun i m σ' H' => m = xs.length - i ∧ i ≤ xs.length ∧ Ex H1 H' ∧ Pv i σ' H', ⟨xs.length, by simp, Nat.zero_le _, Evl.Ex.refl H1, h0 H1 x⟩, ?_⟩
    rintro i m σ' H' ⟨rfl, hi, e, p⟩
    have q := Evl.ex_l e h1
    by_cases hlt : i < xs.length
    · refine .inr ⟨⟨xs, xs[i], q, by simp [hlt]⟩, fun σ3 H3 => Ex H' H3 ∧ Pv (i + 1) σ3 H3, fun σ3 H3 p3 => ⟨xs.length - (i + 1), by omega, rfl, hlt, e.trans p3.1, p3.2⟩, fun y H2 yy => ?_⟩
      obtain ⟨e2, yy⟩ := yy
      subst e2
      obtain ⟨d, hd', hdy⟩ := dpa_get h2 (yy xs q)
      exact hs i d y σ' _ hd' (x.trans e) (dp_mono e _ _ hdy) p
    · have e2 : i = xs.length := by omega
      subst e2
      rw [hl] at p
      exact .inl ⟨⟨xs, q, Nat.le_refl _⟩, hd σ' H' (x.trans e) p⟩
theorem w_forTx (h : EvD K tl σ H (.tuple ds)) (Pv : Nat → L2.St → Hp → Prop) (h0 : ∀ H1, Ex H H1 → Pv 0 σ H1)
    (hs : ∀ i d x σ' H', ds[i]? = some d → Ex H H' → Dp K H' x d → Pv i σ' H' → g x σ' H' fun σ2 H2 => tu { D with nx := fun σ3 H3 => Ex H' H3 ∧ Pv (i + 1) σ3 H3, ct := fun σ3 H3 => Ex H' H3 ∧ Pv (i + 1) σ3 H3, bk := tz D } σ2 H2)
    (hd : ∀ σ' H', Ex H H' → Pv ds.length σ' H' → tz D σ' H') : tSeq (tFor (iTup K tl) g tu) tz D σ H :=
  h H (Evl.Ex.refl H) _ fun v H1 x hv => by
    obtain ⟨a, xs, rfl, h1, h2⟩ := dp_tup.mp hv
    have hl := dpa_len h2
    refine ⟨a, rfl, ⟨xs, h1⟩, fun i m σ' H' => m = xs.length - i ∧ i ≤ xs.length ∧ Ex H1 H' ∧ Pv i σ' H', ⟨xs.length, by simp, Nat.zero_le _, Evl.Ex.refl H1, h0 H1 x⟩, ?_⟩
    rintro i m σ' H' ⟨rfl, hi, e, p⟩
    have q := Evl.ex_t e h1
    by_cases hlt : i < xs.length
    · refine .inr ⟨⟨xs, xs[i], q, by simp [hlt]⟩, fun σ3 H3 => Ex H' H3 ∧ Pv (i + 1) σ3 H3, fun σ3 H3 p3 => ⟨xs.length - (i + 1), by omega, rfl, hlt, e.trans p3.1, p3.2⟩, fun y H2 yy => ?_⟩
      obtain ⟨e2, yy⟩ := yy
      subst e2
      obtain ⟨d, hd', hdy⟩ := dpa_get h2 (yy xs q)
      exact hs i d y σ' _ hd' (x.trans e) (dp_mono e _ _ hdy) p
    · have e2 : i = xs.length := by omega
      subst e2
      rw [hl] at p
      exact .inl ⟨⟨xs, q, Nat.le_refl _⟩, hd σ' H' (x.trans e) p⟩
/-- where all that stood ahead of the loop stays -/
theorem w_forLx1 (h : EvD K tl σ H (.list ds)) (Pv : Nat → L2.St → Hp → Prop) (h0 : ∀ H1, Ex H H1 → Pv 0 σ H1)
    (hs : ∀ i d x σ' H', ds[i]? = some d → Ex H H' → Dp K H' x d → Pv i σ' H' → g x σ' H' fun σ2 H2 => tu { D with nx := fun σ3 H3 => Ex H' H3 ∧ Pv (i + 1) σ3 H3, ct := fun σ3 H3 => Ex H' H3 ∧ Pv (i + 1) σ3 H3, bk := D.nx } σ2 H2)
    (hd : ∀ σ' H', Ex H H' → Pv ds.length σ' H' → D.nx σ' H') : tFor (iList K tl) g tu D σ H :=
  h H (Evl.Ex.refl H) _ fun v H1 x hv => by
    obtain ⟨a, xs, rfl, h1, h2⟩ := dp_lst.mp hv
    have hl := dpa_len h2
    refine ⟨a, rfl, ⟨xs, h1⟩, fun i m σ' H' => m = xs.length - i ∧ i ≤ xs.length ∧ Ex H1 H' ∧ Pv i σ' H', ⟨xs.length, by simp, Nat.zero_le _, Evl.Ex.refl H1, h0 H1 x⟩, ?_⟩
    rintro i m σ' H' ⟨rfl, hi, e, p⟩
    have q := Evl.ex_l e h1
    by_cases hlt : i < xs.length
    · refine .inr ⟨⟨xs, xs[i], q, by simp [hlt]⟩, fun σ3 H3 => Ex H' H3 ∧ Pv (i + 1) σ3 H3, fun σ3 H3 p3 => ⟨xs.length - (i + 1), by omega, rfl, hlt, e.trans p3.1, p3.2⟩, fun y H2 yy => ?_⟩
      obtain ⟨e2, yy⟩ := yy
      subst e2
      obtain ⟨d, hd', hdy⟩ := dpa_get h2 (yy xs q)
      exact hs i d y σ' _ hd' (x.trans e) (dp_mono e _ _ hdy) p
    · have e2 : i = xs.length := by omega
      subst e2
      rw [hl] at p
      exact .inl ⟨⟨xs, q, Nat.le_refl _⟩, hd σ' H' (x.trans e) p⟩
theorem w_forTx1 (h : EvD K tl σ H (.tuple ds)) (Pv : Nat → L2.St → Hp → Prop) (h0 : ∀ H1, Ex H H1 → Pv 0 σ H1)
    (hs : ∀ i d x σ' H', ds[i]? = some d → Ex H H' → Dp K H' x d → Pv i σ' H' → g x σ' H' fun σ2 H2 => tu { D with nx := fun σ3 H3 => Ex H' H3 ∧ Pv (i + 1) σ3 H3, ct := fun σ3 H3 => Ex H' H3 ∧ Pv (i + 1) σ3 H3, bk := D.nx } σ2 H2)
    (hd : ∀ σ' H', Ex H H' → Pv ds.length σ' H' → D.nx σ' H') : tFor (iTup K tl) g tu D σ H :=
  h H (Evl.Ex.refl H) _ fun v H1 x hv => by
    obtain ⟨a, xs, rfl, h1, h2⟩ := dp_tup.mp hv
    have hl := dpa_len h2
    refine ⟨a, rfl, ⟨xs, h1⟩, fun i m σ' H' => m = xs.length - i ∧ i ≤ xs.length ∧ Ex H1 H' ∧ Pv i σ' H', ⟨xs.length, by simp, Nat.zero_le _, Evl.Ex.refl H1, h0 H1 x⟩, ?_⟩
    rintro i m σ' H' ⟨rfl, hi, e, p⟩
    have q := Evl.ex_t e h1
    by_cases hlt : i < xs.length
    · refine .inr ⟨⟨xs, xs[i], q, by simp [hlt]⟩, fun σ3 H3 => Ex H' H3 ∧ Pv (i + 1) σ3 H3, fun σ3 H3 p3 => ⟨xs.length - (i + 1), by omega, rfl, hlt, e.trans p3.1, p3.2⟩, fun y H2 yy => ?_⟩
      obtain ⟨e2, yy⟩ := yy
      subst e2
      obtain ⟨d, hd', hdy⟩ := dpa_get h2 (yy xs q)
      exact hs i d y σ' _ hd' (x.trans e) (dp_mono e _ _ hdy) p
    · have e2 : i = xs.length := by omega
      subst e2
      rw [hl] at p
      exact .inl ⟨⟨xs, q, Nat.le_refl _⟩, hd σ' H' (x.trans e) p⟩
/-- over a list that may be changed elsewhere: what stands in the list walked and its items (that carry no list) stays -/
theorem w_forLu (h : EvD K tl σ H (.list ds)) (hn : noLs ds = true) (Pv : Hp → Nat → L2.St → Hp → Prop) (h0 : ∀ H1, Ex H H1 → Pv H1 0 σ H1)
    (hk : ∀ H1 i σ' H' a xs, Ex H H1 → SqL K H1 a xs → DpAll K H1 xs ds → Pv H1 i σ' H' → SqL K H' a xs ∧ Up H1 H')
    (hs : ∀ H1 i d x σ' H', Ex H H1 → ds[i]? = some d → Dp K H' x d → Pv H1 i σ' H' → g x σ' H' fun σ2 H2 => tu { D with nx := Pv H1 (i + 1), ct := Pv H1 (i + 1), bk := tz D } σ2 H2)
    (hd : ∀ H1 σ' H', Ex H H1 → Pv H1 ds.length σ' H' → tz D σ' H') : tSeq (tFor (iList K tl) g tu) tz D σ H :=
  w_forL h fun a xs H1 x h1 h2 => ⟨Pv H1, h0 H1 x, fun i σ' H' _ p => (hk H1 i σ' H' a xs x h1 h2 p).1, fun i d y σ' H' hd' hy hdy p => by
    have u := (hk H1 i σ' H' a xs x h1 h2 p).2
    have nd : noL d = true := by
      have : ∀ (es : List PyData) (i : Nat), noLs es = true → es[i]? = some d → noL d = true := by
        intro es
        induction es with
        | nil => intro i _ e; simp at e
        | cons c r ih =>
          intro i n e
          have n' : noL c = true ∧ noLs r = true := by simpa [noLs] using n
          cases i with
          | zero => simp at e; rw [← e]; exact n'.1
          | succ j => exact ih j n'.2 (by simpa using e)
      exact this ds i hn hd'
    exact hs H1 i d y σ' H' x hd' (dp_up u _ _ nd hdy) p, fun σ' H' p => hd H1 σ' H' x p⟩
theorem w_callS {sp : Sp} {E : L2.St → XK} {tr : TA} (h : EvDs K tr σ H ds) (k : ∀ vs H1, Ex H H1 → DpAll K H1 vs ds → sp vs H1 (fun _ H2 => tz D σ H2) (E σ)) : tSeq (tDrop (tCallS sp E tr)) tz D σ H := h H (Evl.Ex.refl H) _ fun vs H1 x hv => k vs H1 x hv
theorem w_callS1 {sp : Sp} {E : L2.St → XK} {tr : TA} (h : EvDs K tr σ H ds) (k : ∀ vs H1, Ex H H1 → DpAll K H1 vs ds → sp vs H1 (fun _ H2 => D.nx σ H2) (E σ)) : tDrop (tCallS sp E tr) D σ H := h H (Evl.Ex.refl H) _ fun vs H1 x hv => k vs H1 x hv
theorem eva_1 {n : Int} (h : EvD K te σ H (.int n)) : Evl.EvA (tCons te tNil) σ H [.int n] := fun H1 x _ q => h H1 x _ fun v H2 x2 hv => by
  cases dp_int.mp hv
  exact q H2 x2
theorem w_forR {j : Nat} {n : Int} (h : EvD K te σ H (.int n)) (hn : 0 ≤ n ∧ n ≤ 100000) (Pv : Nat → L2.St → Hp → Prop) (h0 : ∀ H1, Ex H H1 → Pv 0 σ H1)
    (hs : ∀ (i : Nat) σ' H', (i : Int) < n → Pv i σ' H' → tu { D with nx := Pv (i + 1), ct := Pv (i + 1), bk := tz D } (σ'.set j (some (.int (i : Int)))) H') (hd : ∀ σ' H', Pv n.toNat σ' H' → tz D σ' H') : tSeq (tFor (iRng1 (tCons te tNil)) (gName j) tu) tz D σ H :=
  Evl.q_forR1 (eva_1 h) hn Pv h0 hs hd
/-- a tuple taken apart -/
theorem g_tup2 {v x y : V} {i j : Nat} {a : Addr} {Q : L2.St → Hp → Prop} (e : v = .ref a) (hs : SqT K H a [x, y]) (q : Q ((σ.set i (some x)).set j (some y)) H) : gTup K 2 (gCons (gName i) (gCons (gName j) gNil)) v σ H Q :=
  ⟨a, _, e, hs, rfl, x, _, rfl, y, _, rfl, rfl, q⟩
theorem g_tup3 {v x y z : V} {i j l : Nat} {a : Addr} {Q : L2.St → Hp → Prop} (e : v = .ref a) (hs : SqT K H a [x, y, z]) (q : Q (((σ.set i (some x)).set j (some y)).set l (some z)) H) : gTup K 3 (gCons (gName i) (gCons (gName j) (gCons (gName l) gNil))) v σ H Q :=
  ⟨a, _, e, hs, rfl, x, _, rfl, y, _, rfl, z, _, rfl, rfl, q⟩
end
theorem get_map {α β : Type} {f : α → β} {xs : List α} {i : Nat} {y : β} (h : (xs.map f)[i]? = some y) : ∃ x, xs[i]? = some x ∧ y = f x := by
  rw [List.getElem?_map] at h
  cases e : xs[i]? with
  | none => rw [e] at h; cases h
  | some x => rw [e] at h; exact ⟨x, rfl, (Option.some.inj h).symm⟩
theorem take_snoc {α : Type} {xs : List α} {i : Nat} {x : α} (h : xs[i]? = some x) : xs.take (i + 1) = xs.take i ++ [x] := by
  rw [List.take_add_one, h]; rfl
theorem lt_of_get {α : Type} {xs : List α} {i : Nat} {x : α} (h : xs[i]? = some x) : i < xs.length := (List.getElem?_eq_some_iff.mp h).1
theorem all_take {α : Type} {p : α → Bool} {xs : List α} {i : Nat} {x : α} (h : xs[i]? = some x) (ht : (xs.take i).all p = true) : (xs.take (i + 1)).all p = p x := by
  rw [take_snoc h, List.all_append, ht]
  simp
theorem all_not {α : Type} {p : α → Bool} {xs : List α} {i : Nat} {x : α} (h : xs[i]? = some x) (hp : p x = false) : xs.all p = false := by
  rw [Bool.eq_false_iff]
  intro q
  have := List.all_eq_true.mp q x (List.mem_of_getElem? h)
  rw [hp] at this
  cases this
/-! ### comprehensions in their common shapes -/
section
variable {K : PySem.W.Frag} {σ : L2.St} {H : Hp} {tl te : TE} {tt : TT} {ta : TA} {vs : List Nat} {j : Nat}
theorem fm_some {α β : Type} (f : α → β) (l : List α) : l.filterMap (fun i => some (f i)) = l.map f := by
  induction l with
  | nil => rfl
  | cons a r ih => simp [ih]
/-- [t for t in range(n) if p(t)] -/
theorem en_filR {n : Int} (p : Int → Bool) (h : EvDs K ta σ H [.int n]) (h0 : 0 ≤ n ∧ n ≤ 100000) (hw : ∀ x, wipe ((wipe σ vs).set j (some x)) vs = wipe σ vs) (hj : ∀ x, ((wipe σ vs).set j (some x))[j]? = some (some x))
    (ht : ∀ i : Nat, (i : Int) < n → EvB K tt ((wipe σ vs).set j (some (.int (i : Int)))) H (p (i : Int))) : EvN K (tLc (iRng1 ta) (gName j) tt (tVar j) vs) σ H (((rng n.toNat).filter p).map .int) :=
  EvN.cast (en_lcR (fun i : Nat => if p (i : Int) = true then some (.int (i : Int)) else none) (fun i d h => by
    split at h
    · cases h; rfl
    · cases h) h h0.1 h0.2 fun i hi => turn_of (hw _) (ht i hi) fun _ => ed_var (hj _) (.int _)) (fm_ints _ p)
/-- [e for t in range(n)] -/
theorem en_mapR {n : Int} (f : Nat → PyData) (hn : ∀ i, noL (f i) = true) (h : EvDs K ta σ H [.int n]) (h0 : 0 ≤ n ∧ n ≤ 100000) (hw : ∀ x, wipe ((wipe σ vs).set j (some x)) vs = wipe σ vs)
    (he : ∀ i : Nat, (i : Int) < n → EvD K te ((wipe σ vs).set j (some (.int (i : Int)))) H (f i)) : EvN K (tLc (iRng1 ta) (gName j) tYes te vs) σ H ((List.range n.toNat).map f) :=
  EvN.cast (en_lcR (fun i => some (f i)) (fun i d h => by cases h; exact hn i) h h0.1 h0.2 fun i hi => turn_all (hw _) (he i hi)) (fm_some f _)
theorem fm_filter {α : Type} (xs : List α) (p : α → Bool) (f : α → PyData) : (List.range xs.length).filterMap (fun i => (xs[i]?).bind fun x => if p x = true then some (f x) else none) = (xs.filter p).map f := by
  rw [fm_range]
  induction xs with
  | nil => rfl
  | cons a r ih =>
    rw [List.filterMap_cons, List.filter_cons]
    by_cases h : p a = true
    · rw [if_pos h, if_pos h]; simp [ih]
    · rw [if_neg h, if_neg h]; simpa using ih
theorem noL_fm {α : Type} {xs : List α} {p : α → Bool} {f : α → PyData} (hf : ∀ x, noL (f x) = true) (i : Nat) (d : PyData) (h : (xs[i]?).bind (fun x => if p x = true then some (f x) else none) = some d) : noL d = true := by
  cases e : xs[i]? with
  | none => rw [e] at h; cases h
  | some x =>
    rw [e] at h
    by_cases hp : p x = true
    · have h' : some (f x) = some d := by rw [Option.bind_some, if_pos hp] at h; exact h
      cases h'; exact hf x
    · rw [Option.bind_some, if_neg hp] at h; cases h
/-- [f(x) for x in xs if p(x)], xs a list -/
theorem en_fmL {α : Type} (enc : α → PyData) {xs : List α} (p : α → Bool) (f : α → PyData) (hf : ∀ x, noL (f x) = true) (h : EvD K tl σ H (.list (xs.map enc))) (hz : xs.length ≤ 100000) (hw : ∀ x, wipe ((wipe σ vs).set j (some x)) vs = wipe σ vs)
    (ht : ∀ (i : Nat) (a : α) v H1, xs[i]? = some a → Ex H H1 → Dp K H1 v (enc a) → EvB K tt ((wipe σ vs).set j (some v)) H1 (p a)) (he : ∀ (i : Nat) (a : α) v H1, xs[i]? = some a → p a = true → Ex H H1 → Dp K H1 v (enc a) → EvD K te ((wipe σ vs).set j (some v)) H1 (f a)) :
    EvN K (tLc (iList K tl) (gName j) tt te vs) σ H ((xs.filter p).map f) := by
  have z := en_lcL (K := K) (g := gName j) (tt := tt) (te := te) (vs := vs) (σ := σ) (H := H) (fun i => (xs[i]?).bind fun x => if p x = true then some (f x) else none) (noL_fm hf) h (by rw [List.length_map]; exact hz) (fun i d hd x H1 x1 hx => by
    obtain ⟨a, ha, rfl⟩ := get_map hd
    have t := turn_of (K := K) (te := te) (d := f a) (hw x) (ht i a x H1 ha x1 hx) fun hp => he i a x H1 ha hp x1 hx
    simp only [ha, Option.bind_some]
    exact t)
  rw [List.length_map, fm_filter] at z
  exact z
theorem en_fmT {α : Type} (enc : α → PyData) {xs : List α} (p : α → Bool) (f : α → PyData) (hf : ∀ x, noL (f x) = true) (h : EvD K tl σ H (.tuple (xs.map enc))) (hz : xs.length ≤ 100000) (hw : ∀ x, wipe ((wipe σ vs).set j (some x)) vs = wipe σ vs)
    (ht : ∀ (i : Nat) (a : α) v H1, xs[i]? = some a → Ex H H1 → Dp K H1 v (enc a) → EvB K tt ((wipe σ vs).set j (some v)) H1 (p a)) (he : ∀ (i : Nat) (a : α) v H1, xs[i]? = some a → p a = true → Ex H H1 → Dp K H1 v (enc a) → EvD K te ((wipe σ vs).set j (some v)) H1 (f a)) :
    EvN K (tLc (iTup K tl) (gName j) tt te vs) σ H ((xs.filter p).map f) := by
  have z := en_lcT (K := K) (g := gName j) (tt := tt) (te := te) (vs := vs) (σ := σ) (H := H) (fun i => (xs[i]?).bind fun x => if p x = true then some (f x) else none) (noL_fm hf) h (by rw [List.length_map]; exact hz) (fun i d hd x H1 x1 hx => by
    obtain ⟨a, ha, rfl⟩ := get_map hd
    have t := turn_of (K := K) (te := te) (d := f a) (hw x) (ht i a x H1 ha x1 hx) fun hp => he i a x H1 ha hp x1 hx
    simp only [ha, Option.bind_some]
    exact t)
  rw [List.length_map, fm_filter] at z
  exact z
theorem eb_yes : EvB K tYes σ H true := fun H1 _ _ q => q H1 (Evl.Ex.refl H1)
/-- without a test -/
theorem en_mapL {α : Type} (enc : α → PyData) {xs : List α} (f : α → PyData) (hf : ∀ x, noL (f x) = true) (h : EvD K tl σ H (.list (xs.map enc))) (hz : xs.length ≤ 100000) (hw : ∀ x, wipe ((wipe σ vs).set j (some x)) vs = wipe σ vs)
    (he : ∀ (i : Nat) (a : α) v H1, xs[i]? = some a → Ex H H1 → Dp K H1 v (enc a) → EvD K te ((wipe σ vs).set j (some v)) H1 (f a)) : EvN K (tLc (iList K tl) (gName j) tYes te vs) σ H (xs.map f) :=
  EvN.cast (en_fmL enc (fun _ => true) f hf h hz hw (fun _ _ _ _ _ _ _ => eb_yes) fun i a v H1 ha _ x hv => he i a v H1 ha x hv) (by rw [List.filter_eq_self.mpr (fun _ _ => rfl)])
theorem en_mapT {α : Type} (enc : α → PyData) {xs : List α} (f : α → PyData) (hf : ∀ x, noL (f x) = true) (h : EvD K tl σ H (.tuple (xs.map enc))) (hz : xs.length ≤ 100000) (hw : ∀ x, wipe ((wipe σ vs).set j (some x)) vs = wipe σ vs)
    (he : ∀ (i : Nat) (a : α) v H1, xs[i]? = some a → Ex H H1 → Dp K H1 v (enc a) → EvD K te ((wipe σ vs).set j (some v)) H1 (f a)) : EvN K (tLc (iTup K tl) (gName j) tYes te vs) σ H (xs.map f) :=
  EvN.cast (en_fmT enc (fun _ => true) f hf h hz hw (fun _ _ _ _ _ _ _ => eb_yes) fun i a v H1 ha _ x hv => he i a v H1 ha x hv) (by rw [List.filter_eq_self.mpr (fun _ _ => rfl)])
end
theorem atI_zero {d : PyData} {ds : List PyData} : L2.atI (d :: ds) 0 = some d := by show L2.atI (d :: ds) ((0 : Nat) : Int) = some d; exact atI_nat rfl

end Fy

namespace Fy
open PySem PySem.Spec PyProof.Rows L2
end Fy
local macro_rules | `(tactic| walk_at "ex") => `(tactic| first | assumption | exact Evl.Ex.refl _ | (refine Evl.Ex.trans (by assumption) ?_; walk_at "ex"))
local macro_rules | `(tactic| walk_at "dp") => `(tactic| first | with_reducible exact L2.Dp.int _ | with_reducible exact L2.Dp.bl _ | with_reducible exact L2.Dp.str _ | with_reducible exact L2.Dp.non | assumption | (refine Fy.dp_mono ?_ _ _ (by assumption); walk_at "ex"))
local macro_rules | `(tactic| walk_at "side") => `(tactic| first | decide | assumption | omega | exact ⟨by decide, by decide⟩ | exact Or.inl ⟨by decide, by decide⟩ | exact Or.inr ⟨by decide, by decide⟩)
local macro_rules | `(tactic| walk_at "rd") => `(tactic| first
  | ((with_reducible refine' Fy.i_I0 ?hh); (case hh => first | exact Fy.rd_I0 (fun _ => L2.Dp.int _) | exact Fy.rd_I0 (fun _ => L2.Dp.bl _)))
  | ((with_reducible refine' Fy.i_I ?hh); (case hh => exact Fy.rd_I (by walk_at "side") (fun _ => L2.Dp.int _)))
  | ((with_reducible refine' Fy.i_Eq ?hh); (case hh => first | exact Fy.rd_eqI | exact Fy.rd_eqB | exact Fy.rd_eqS))
  | ((with_reducible refine' Fy.i_Ne ?hh); (case hh => first | exact Fy.rd_neI | exact Fy.rd_neB | exact Fy.rd_neS))
  | ((with_reducible refine' Fy.i_In ?hh); (case hh => first | exact Fy.rd_inT | exact Fy.rd_niT))
  | ((with_reducible refine' Fy.i_IxL ?hh); (case hh => exact Fy.rd_ixL (by first | rfl | exact Fy.atI_zero)))
  | ((with_reducible refine' Fy.i_IxT ?hh); (case hh => exact Fy.rd_ixT (by rfl))))
local macro_rules | `(tactic| walk_at "cd") => `(tactic| first | exact Fy.cd_lenI | exact Fy.cd_lenL | exact Fy.cd_lenT | exact Fy.cd_tupL)
local macro_rules | `(tactic| walk_at "eds") => `(tactic| first
  | ((with_reducible refine' Fy.i_Nil ?hh); (case hh => exact Fy.eds_nil))
  | ((with_reducible refine' Fy.i_Cons ?hh); (case hh => exact Fy.eds_cons (by walk_at "ed") (by walk_at "eds"))))
local macro_rules | `(tactic| walk_at "ed") => `(tactic| first
  | ((with_reducible refine' Fy.i_C ?hh); (case hh => first | exact Fy.ed_int | exact Fy.ed_bl | exact Fy.ed_str | exact Fy.ed_non))
  | ((with_reducible refine' Fy.i_Var ?hh); (case hh => exact Fy.ed_var rfl (by walk_at "dp")))
  | ((with_reducible refine' Fy.i_Op ?hh); (case hh => exact Fy.ed_op (by walk_at "ed") (by walk_at "ed") (by walk_at "rd")))
  | ((with_reducible refine' Fy.i_Chain ?hh); (case hh => exact Fy.ed_chain (by walk_at "ed") (by walk_at "ed") (by walk_at "ed")))
  | ((with_reducible refine' Fy.i_IsiI ?hh); (case hh => exact Fy.ed_isiI (by walk_at "ed")))
  | ((with_reducible refine' Fy.i_IsiB ?hh); (case hh => exact Fy.ed_isiB (by walk_at "ed")))
  | ((with_reducible refine' Fy.i_IsiL ?hh); (case hh => exact Fy.ed_isiL (by walk_at "ed")))
  | ((with_reducible refine' Fy.i_IsiT ?hh); (case hh => exact Fy.ed_isiT (by walk_at "ed")))
  | ((with_reducible refine' Fy.i_IsiS ?hh); (case hh => exact Fy.ed_isiS (by walk_at "ed")))
  | ((with_reducible refine' Fy.i_CB ?hh); (case hh => exact Fy.ed_cb (by walk_at "eds") (by walk_at "cd")))
  | ((with_reducible refine' Fy.i_Un ?hh); (case hh => exact Fy.ed_un (by walk_at "ed") (fun _ => L2.Dp.int _)))
  | ((with_reducible refine' Fy.i_Tup ?hh); (case hh => exact Fy.ed_tup (by walk_at "eds") (by simp only [List.length_cons, List.length_nil]; decide)))
  | ((with_reducible refine' Fy.i_AndV ?hh); (case hh => exact Fy.ed_andV (by walk_at "ed") (fun _ => by walk_at "ed")))
  | ((with_reducible refine' Fy.i_OrV ?hh); (case hh => exact Fy.ed_orV (by walk_at "ed") (fun _ => by walk_at "ed")))
  | ((with_reducible refine' Fy.i_NotV ?hh); (case hh => exact Fy.ed_notV (by walk_at "ed"))))
local macro_rules | `(tactic| walk_at "et") => `(tactic| first
  | ((with_reducible refine' Fy.i_Test ?hh); (case hh => exact Fy.eb_d (by walk_at "ed")))
  | ((with_reducible refine' Fy.i_B ?hh); (case hh => exact Fy.eb_dB (by walk_at "ed")))
  | ((with_reducible refine' Fy.i_Not ?hh); (case hh => exact Fy.eb_not (by walk_at "et")))
  | ((with_reducible refine' Fy.i_And ?hh); (case hh => exact Fy.eb_and (by walk_at "et") (fun _ => by walk_at "et")))
  | ((with_reducible refine' Fy.i_Or ?hh); (case hh => exact Fy.eb_or (by walk_at "et") (fun _ => by walk_at "et"))))

namespace Fy
open PySem PySem.Spec PyProof.Rows L2
/-! ### a night as an object -/
theorem n_tp : ¬ (("all_things" : Str) = "places") := by decide +kernel
theorem n_tq : ¬ (("all_things" : Str) = "all_quarrels") := by decide +kernel
theorem n_pq : ¬ (("places" : Str) = "all_quarrels") := by decide +kernel
def nf (a : Addr) (r : Int) (b : Addr) : List (Str × V) := putF "all_quarrels" (.ref b) (putF "places" (.int r) (putF "all_things" (.ref a) []))
theorem nf_t (a : Addr) (r : Int) (b : Addr) : (nf a r b).lookup ("all_things" : Str) = some (.ref a) := by
  unfold nf
  rw [lookup_putF, if_neg n_tq, lookup_putF, if_neg n_tp, lookup_putF, if_pos rfl]
theorem nf_p (a : Addr) (r : Int) (b : Addr) : (nf a r b).lookup ("places" : Str) = some (.int r) := by
  unfold nf
  rw [lookup_putF, if_neg n_pq, lookup_putF, if_pos rfl]
theorem nf_q (a : Addr) (r : Int) (b : Addr) : (nf a r b).lookup ("all_quarrels" : Str) = some (.ref b) := by
  unfold nf
  rw [lookup_putF, if_pos rfl]
theorem nf_no (a : Addr) (r : Int) (b : Addr) {m : Str} (h1 : ¬ m = "all_quarrels") (h2 : ¬ m = "places") (h3 : ¬ m = "all_things") : (nf a r b).lookup m = none := by
  unfold nf
  rw [lookup_putF, if_neg h1, lookup_putF, if_neg h2, lookup_putF, if_neg h3]
  rfl
structure NightAt (K : PySem.W.Frag) (H : Hp) (v : V) (n : Nt) : Prop where
  at_ : ∃ p dx a b ts qs, v = .ref p ∧ H p = some (.ins (He.ga K "Night") dx (nf a n.room b)) ∧ H a = some (.lst ts) ∧ DpAll K H ts (n.things.map eT) ∧ H b = some (.lst qs) ∧ DpAll K H qs (n.quarrels.map eQ)
theorem NightAt.mono {K : PySem.W.Frag} {H H' : Hp} {v : V} {n : Nt} (e : Ex H H') (h : NightAt K H v n) : NightAt K H' v n := by
  obtain ⟨p, dx, a, b, ts, qs, h0, h1, h2, h3, h4, h5⟩ := h.at_
  exact ⟨p, dx, a, b, ts, qs, h0, e _ _ h1, e _ _ h2, dpa_mono e _ _ h3, e _ _ h4, dpa_mono e _ _ h5⟩
/-- its own lists are new behind H0 -/
structure NightI (K : PySem.W.Frag) (H0 H : Hp) (v : V) (n : Nt) : Prop where
  at_ : ∃ p dx a b ts qs, v = .ref p ∧ H p = some (.ins (He.ga K "Night") dx (nf a n.room b)) ∧ H a = some (.lst ts) ∧ DpAll K H ts (n.things.map eT) ∧ H b = some (.lst qs) ∧ DpAll K H qs (n.quarrels.map eQ) ∧ H0 a = none ∧ H0 b = none
theorem NightI.na {K : PySem.W.Frag} {H0 H : Hp} {v : V} {n : Nt} (h : NightI K H0 H v n) : NightAt K H v n := by
  obtain ⟨p, dx, a, b, ts, qs, h0, h1, h2, h3, h4, h5, _⟩ := h.at_
  exact ⟨p, dx, a, b, ts, qs, h0, h1, h2, h3, h4, h5⟩
theorem NightI.mono {K : PySem.W.Frag} {H0 H H' : Hp} {v : V} {n : Nt} (e : Ex H H') (h : NightI K H0 H v n) : NightI K H0 H' v n := by
  obtain ⟨p, dx, a, b, ts, qs, h0, h1, h2, h3, h4, h5, h6⟩ := h.at_
  exact ⟨p, dx, a, b, ts, qs, h0, e _ _ h1, e _ _ h2, dpa_mono e _ _ h3, e _ _ h4, dpa_mono e _ _ h5, h6⟩
theorem NightI.back {K : PySem.W.Frag} {H0 H1 H : Hp} {v : V} {n : Nt} (e : Ex H0 H1) (h : NightI K H1 H v n) : NightI K H0 H v n := by
  obtain ⟨p, dx, a, b, ts, qs, h0, h1, h2, h3, h4, h5, h6, h7⟩ := h.at_
  exact ⟨p, dx, a, b, ts, qs, h0, h1, h2, h3, h4, h5, Evl.fresh_back e h6, Evl.fresh_back e h7⟩
/-- a list that stood ahead of its making is changed -/
theorem NightI.lst {K : PySem.W.Frag} {H0 H : Hp} {v : V} {n : Nt} {l : Addr} {o o' : HO} {xs : List V} (h : NightI K H0 H v n) (hl : H0 l = some o) (hx : H l = some (.lst xs)) : NightI K H0 (upd H l o') v n := by
  obtain ⟨p, dx, a, b, ts, qs, h0, h1, h2, h3, h4, h5, h6, h7⟩ := h.at_
  have u : Up H (upd H l o') := Up.lst hx
  refine ⟨p, dx, a, b, ts, qs, h0, ?_, ?_, dpa_up u _ _ (noLs_map noL_eT _) h3, ?_, dpa_up u _ _ (noLs_map noL_eQ _) h5, h6, h7⟩
  · rw [upd_ne (fun e => by rw [e, hx] at h1; cases h1)]; exact h1
  · rw [upd_ne (fun e => by rw [e, hl] at h6; cases h6)]; exact h2
  · rw [upd_ne (fun e => by rw [e, hl] at h7; cases h7)]; exact h4
theorem rgV_eq (n : Nat) : rgV 0 (n : Int) = (rng n).map V.int := by
  unfold rgV rng
  rw [List.map_map]
  have e : ((n : Int) - 0).toNat = n := by omega
  rw [e]
  exact List.map_congr_left fun i _ => by show V.int (0 + (i : Int)) = V.int (i : Int); rw [Int.zero_add]
/-! ### the promises -/
def spNThings (K : PySem.W.Frag) : Sp := fun vs H Q _ => ∃ v n, vs = [v] ∧ NightAt K H v n ∧ RetR (fun u H' => NewL K H u H' (n.things.map eT)) H Q
def spNQuarrels (K : PySem.W.Frag) : Sp := fun vs H Q _ => ∃ v n, vs = [v] ∧ NightAt K H v n ∧ RetR (fun u H' => NewL K H u H' (n.quarrels.map eQ)) H Q
def spNRoom (K : PySem.W.Frag) : Sp := fun vs H Q _ => ∃ v n, vs = [v] ∧ NightAt K H v n ∧ RetV (.int n.room) H Q
def spNBegins (K : PySem.W.Frag) : Sp := fun vs H Q _ => ∃ v n, vs = [v] ∧ NightAt K H v n ∧ n.things.length ≤ 1000 ∧ RetR (fun u H' => Dp K H' u (eS (rng n.things.length, 0))) H Q
def spNEnds (K : PySem.W.Frag) : Sp := fun vs H Q _ => ∃ v n, vs = [v] ∧ NightAt K H v n ∧ RetR (fun u H' => Dp K H' u (eS ([], 1))) H Q
def spNPeace (K : PySem.W.Frag) : Sp := fun vs H Q _ => ∃ v n u g, vs = [v, u] ∧ NightAt K H v n ∧ Dp K H u (eI g) ∧ RetV (.bl (peace n.quarrels g)) H Q
def spNOver (K : PySem.W.Frag) : Sp := fun vs H Q _ => ∃ v n u g, vs = [v, u] ∧ NightAt K H v n ∧ Dp K H u (eI g) ∧ n.things.length ≤ 1000 ∧ RetR (fun u H' => Dp K H' u (eI (restOf g n.things.length))) H Q
section
variable {P : Program} {w : World} {K : PySem.W.Frag} {mg : Str → Option Value} {base : Heap}
theorem sc_Night_things : FnScope ["self"] ["self"] (defScope s_Night_things) := ⟨rfl, rfl, rfl, by decide +kernel, rfl, by decide +kernel, by decide +kernel⟩
theorem ok_Night_things (T : Tx K mg) : HasM P w K mg base CX0 1 "things" ["self"] (spNThings K) := by
  obtain ⟨fd, F⟩ := T.f_Night_things
  refine ⟨T.cl, T.m_things, fd, F.ok sc_Night_things (fun vs H Q E h => ?_) (fun cdv A outer s H vs Q E hr h => ⟨_, PSs.nox (pss_one (ps_ret (pe_callTy (r := rListQ K) call_list_of (by rfl) T.b_list (by decide +kernel) (pa_cons (pe_fld (pv 0) rfl) pa_nil)))), ?_⟩), F.bindsN fun _ _ _ _ _ _ us hl => match us, hl with | [_], _ => rfl⟩
  · obtain ⟨v, n, rfl, _⟩ := h
    rfl
  · obtain ⟨v, n, rfl, N, k⟩ := h
    obtain ⟨p, dx, a, b, ts, qs, rfl, h1, h2, h3, h4, h5⟩ := N.at_
    refine ⟨_, rfl, p, _, dx, _, _, rfl, h1, T.cl, T.na_all_things, nf_t _ _ _, a, ts, rfl, .inl (SqL.of h2), fun l hl => ?_⟩
    have e := Evl.Ex.new (o := .lst ts) hl
    exact k _ _ e ⟨l, ts, rfl, hl, upd_same, dpa_mono e _ _ h3⟩
theorem sc_Night_quarrels : FnScope ["self"] ["self"] (defScope s_Night_quarrels) := ⟨rfl, rfl, rfl, by decide +kernel, rfl, by decide +kernel, by decide +kernel⟩
theorem ok_Night_quarrels (T : Tx K mg) : HasM P w K mg base CX0 1 "quarrels" ["self"] (spNQuarrels K) := by
  obtain ⟨fd, F⟩ := T.f_Night_quarrels
  refine ⟨T.cl, T.m_quarrels, fd, F.ok sc_Night_quarrels (fun vs H Q E h => ?_) (fun cdv A outer s H vs Q E hr h => ⟨_, PSs.nox (pss_one (ps_ret (pe_callTy (r := rListQ K) call_list_of (by rfl) T.b_list (by decide +kernel) (pa_cons (pe_fld (pv 0) rfl) pa_nil)))), ?_⟩), F.bindsN fun _ _ _ _ _ _ us hl => match us, hl with | [_], _ => rfl⟩
  · obtain ⟨v, n, rfl, _⟩ := h
    rfl
  · obtain ⟨v, n, rfl, N, k⟩ := h
    obtain ⟨p, dx, a, b, ts, qs, rfl, h1, h2, h3, h4, h5⟩ := N.at_
    refine ⟨_, rfl, p, _, dx, _, _, rfl, h1, T.cl, T.na_all_quarrels, nf_q _ _ _, b, qs, rfl, .inl (SqL.of h4), fun l hl => ?_⟩
    have e := Evl.Ex.new (o := .lst qs) hl
    exact k _ _ e ⟨l, qs, rfl, hl, upd_same, dpa_mono e _ _ h5⟩
theorem sc_Night_room : FnScope ["self"] ["self"] (defScope s_Night_room) := ⟨rfl, rfl, rfl, by decide +kernel, rfl, by decide +kernel, by decide +kernel⟩
theorem ok_Night_room (T : Tx K mg) : HasM P w K mg base CX0 1 "room" ["self"] (spNRoom K) := by
  obtain ⟨fd, F⟩ := T.f_Night_room
  refine ⟨T.cl, T.m_room, fd, F.ok sc_Night_room (fun vs H Q E h => ?_) (fun cdv A outer s H vs Q E hr h => ⟨_, PSs.nox (pss_one (ps_ret (pe_fld (pv 0) rfl))), ?_⟩), F.bindsN fun _ _ _ _ _ _ us hl => match us, hl with | [_], _ => rfl⟩
  · obtain ⟨v, n, rfl, _⟩ := h
    rfl
  · obtain ⟨v, n, rfl, N, k⟩ := h
    obtain ⟨p, dx, a, b, ts, qs, rfl, h1, h2, h3, h4, h5⟩ := N.at_
    exact ⟨_, rfl, p, _, dx, _, _, rfl, h1, T.cl, T.na_places, nf_p _ _ _, k _ (Evl.Ex.refl H)⟩
theorem sc_Night_peace : FnScope ["self", "group", "one", "other", "keeper"] ["self", "group"] (defScope s_Night_peace) := ⟨rfl, rfl, rfl, by decide +kernel, rfl, by decide +kernel, by decide +kernel⟩
theorem ok_Night_peace (T : Tx K mg) : HasM P w K mg base CX0 1 "peace" ["self", "group"] (spNPeace K) := by
  obtain ⟨fd, F⟩ := T.f_Night_peace
  refine ⟨T.cl, T.m_peace, fd, F.ok sc_Night_peace (fun vs H Q E h => ?_) (fun cdv A outer s H vs Q E hr h => ⟨_, PSs.nox (pss_cons (ps_for PassesOwn.never rfl (pi_list (pe_fld (pv 0) rfl)) (pg_tup (by rfl) (pgs_cons (pg_name (i := 2) sc_Night_peace.nd rfl (.inl rfl)) (pgs_cons (pg_name (i := 3) sc_Night_peace.nd rfl (.inl rfl)) (pgs_cons (pg_name (i := 4) sc_Night_peace.nd rfl (.inl rfl)) pgs_nil)))) (pss_one (ps_if (PW.pt (pw_and (pt_cmpR (r := rIn K false) op_in_seq (pv 2) (pv 1) (by rfl)) (pw_and (pt_cmpR (r := rIn K false) op_in_seq (pv 3) (pv 1) (by rfl)) (pw_and1 (pt_cmpR (r := rIn K true) op_notIn_seq (pv 4) (pv 1) (by rfl)))))) (pss_one (ps_ret pe_bl)) pss_nil)))
      (pss_one (ps_ret pe_bl))), ?_⟩), F.bindsN fun _ _ _ _ _ _ us hl => match us, hl with | [_, _], _ => rfl⟩
  · obtain ⟨v, n, u, g, rfl, _⟩ := h
    rfl
  · obtain ⟨v, n, u, g, rfl, N, G, k⟩ := h
    obtain ⟨p, dx, a, b, ts, qs, rfl, h1, h2, h3, h4, h5⟩ := N.at_
    obtain ⟨ga, rfl, hg⟩ := dp_eI.mp G
    refine ⟨_, rfl, p, _, dx, _, _, rfl, h1, T.cl, T.na_all_quarrels, nf_q _ _ _, b, rfl, ⟨_, SqL.of h4⟩, for_list (K := K) (a := b) (xs := qs) (fun i σ H' => ∃ x y z, σ = [some (.ref p), some (.ref ga), x, y, z] ∧ H' = H ∧ peace (n.quarrels.take i) g = true) ⟨none, none, none, rfl, rfl, rfl⟩ (fun i σ H' _ ⟨_, _, _, _, e, _⟩ => by rw [e]; exact SqL.of h4) ?_ ?_⟩
    · rintro i x σ H' hi ⟨x0, y0, z0, rfl, rfl, hp⟩
      obtain ⟨d, hd, hx⟩ := dpa_get h5 hi
      rw [List.getElem?_map] at hd
      cases hq : n.quarrels[i]? with
      | none => rw [hq] at hd; cases hd
      | some q =>
        rw [hq] at hd
        cases hd
        obtain ⟨qa, rfl, hqa⟩ := dp_eQ.mp hx
        refine ⟨qa, _, rfl, hqa, rfl, _, _, rfl, _, _, rfl, _, _, rfl, rfl, ?_⟩
        have tk : n.quarrels.take (i + 1) = n.quarrels.take i ++ [q] := by rw [List.take_add_one, hq]; rfl
        have pk : peace (n.quarrels.take (i + 1)) g = !atWar g q := by rw [tk]; unfold peace at hp ⊢; rw [List.all_append, hp]; simp
        refine ⟨_, rfl, _, rfl, ga, _, rfl, .inr hg, rfl, flat_ints g, _, rfl, ?_⟩
        have fin : (if atWar g q = true then Q (.bl false) H' else (∃ x y z, [some (V.ref p), some (V.ref ga), some (.int q.1), some (.int q.2.1), some (.int q.2.2)] = [some (V.ref p), some (V.ref ga), x, y, z] ∧ H' = H' ∧ peace (n.quarrels.take (i + 1)) g = true)) := by
          cases hw : atWar g q with
          | true =>
            rw [if_pos rfl]
            have e : peace n.quarrels g = false := by
              unfold peace
              rw [Bool.eq_false_iff]
              intro h
              have := List.all_eq_true.mp h q (List.mem_of_getElem? hq)
              rw [hw] at this
              cases this
            have := k H' (Evl.Ex.refl H')
            rw [e] at this
            exact this
          | false =>
            rw [if_neg Bool.false_ne_true]
            exact ⟨_, _, _, rfl, rfl, by rw [pk, hw]; rfl⟩
        rw [if_neg Bool.false_ne_true, inV_ints]
        unfold atWar at fin
        cases c1 : g.contains q.1 with
        | false => rw [c1, Bool.false_and] at fin; exact fin
        | true =>
          rw [c1, Bool.true_and] at fin
          refine ⟨_, rfl, _, rfl, ga, _, rfl, .inr hg, rfl, flat_ints g, _, rfl, ?_⟩
          rw [if_neg Bool.false_ne_true, inV_ints]
          cases c2 : g.contains q.2.1 with
          | false => rw [c2, Bool.false_and] at fin; exact fin
          | true =>
            rw [c2, Bool.true_and] at fin
            refine ⟨_, rfl, _, rfl, ga, _, rfl, .inr hg, rfl, flat_ints g, _, rfl, ?_⟩
            rw [if_pos rfl, inV_ints]
            exact fin
    · rintro σ H' ⟨x0, y0, z0, rfl, rfl, hp⟩
      have hl : qs.length = n.quarrels.length := by have := dpa_len h5; rw [List.length_map] at this; exact this
      rw [hl, List.take_length] at hp
      have := k H' (Evl.Ex.refl H')
      rw [hp] at this
      exact this
end

end Fy

namespace Fy
open PySem PySem.Spec PyProof.Rows L2
/-! ### the making of a night -/
def spThings (K : PySem.W.Frag) : Sp := fun vs H Q E => ∃ v ts, vs = [v] ∧ Dp K H v (.list (ts.map eT)) ∧ (thingsOk ts = true → ∀ H', Ex H H' → Q .non H') ∧ (thingsOk ts = false → ∀ H', Ex H H' → E (.ref (He.ga K "BadThing")) none H')
def spQuarrel (K : PySem.W.Frag) : Sp := fun vs H Q E => ∃ (many : Int) (q : Int × Int × Int), DpAll K H vs ([many, q.1, q.2.1, q.2.2].map PyData.int) ∧ (quarrelOk many q = true → ∀ H', Ex H H' → Q .non H') ∧ (quarrelOk many q = false → ∀ H', Ex H H' → E (.ref (He.ga K "BadQuarrel")) none H')
/-- Night(..): what it raises, or a night -/
def spInit (K : PySem.W.Frag) : Sp := fun vs H Q E => ∃ (p dx : Addr) (t q : V) (n : Nt), vs = [.ref p, t, .int n.room, q] ∧ H p = some (.ins (He.ga K "Night") dx []) ∧ Dp K H t (.list (n.things.map eT)) ∧ Dp K H q (.list (n.quarrels.map eQ)) ∧
  (∀ H', n.ok = true → (∀ b o, H b = some o → b ≠ p → H' b = some o) → NightI K H H' (.ref p) n → Q .non H') ∧
  (∀ H', thingsOk n.things = false → Ex H H' → E (.ref (He.ga K "BadThing")) none H') ∧
  (∀ H', thingsOk n.things = true → roomOk n.room = false → Ex H H' → E (.ref (He.ga K "BadRoom")) none H') ∧
  (∀ H', thingsOk n.things = true → roomOk n.room = true → quarrelsOk n.things.length n.quarrels = false → Ex H H' → E (.ref (He.ga K "BadQuarrel")) none H')
section
variable {P : Program} {w : World} {K : PySem.W.Frag} {mg : Str → Option Value} {base : Heap}
theorem sc_look_at_things : FnScope ["things", "pace", "rows"] ["things"] (defScope s_look_at_things) := ⟨rfl, rfl, rfl, by decide +kernel, rfl, by decide +kernel, by decide +kernel⟩
theorem ok_look_at_things (T : Tx K mg) : Has P w K mg base (L2N.CX P w) 1 "look_at_things" ["things"] (spThings K) := by
  obtain ⟨fd, F⟩ := T.f_look_at_things
  obtain ⟨t_SLOWEST, m_SLOWEST⟩ := T.i_SLOWEST
  obtain ⟨t_MOST_THINGS, m_MOST_THINGS⟩ := T.i_MOST_THINGS
  refine ⟨T.g_look_at_things, fd, F.ok sc_look_at_things (fun vs H Q E h => ?_) (fun cdv A outer s H vs Q E hr h => ⟨_, (pss_cons (ps_if (pt_not (pt_chain op_le op_le pe_int (pe_callB (r := rLenQ K) call_len_seq (by rfl) T.b_len (by decide +kernel) (pa_cons (pv 0) pa_nil)) (pe_glob rfl m_MOST_THINGS (v := .int 6) ⟨_, rfl⟩))) (pss_one (ps_raiseOwnN rfl (L2N.takes_of rfl rfl rfl rfl) T.x_BadThing T.g_BadThing rfl)) pss_nil)
      (pss_one (ps_for (passes_of rfl) rfl (pi_list (pv 0)) (pg_tup (by rfl) (pgs_cons (pg_name (i := 1) sc_look_at_things.nd rfl (.inl rfl)) (pgs_cons (pg_name (i := 2) sc_look_at_things.nd rfl (.inl rfl)) pgs_nil))) (pss_one (ps_if (pt_not (pt_chain op_le op_le pe_int (pv 1) (pe_glob rfl m_SLOWEST (v := .int 1000000000) ⟨_, rfl⟩))) (pss_one (ps_raiseOwnN rfl (L2N.takes_of rfl rfl rfl rfl) T.x_BadThing T.g_BadThing rfl)) pss_nil))))), ?_⟩), F.bindsN fun _ _ _ _ _ _ us hl => match us, hl with | [_], _ => rfl, F.kp⟩
  · obtain ⟨v, n, rfl, _⟩ := h
    rfl
  · obtain ⟨v, ts, rfl, hv, kq, ke⟩ := h
    refine' w_when K ?t (fun hb H1 x1 => ?_) (fun hb H1 x1 => ?_)
    case t => walk_at "et"
    · refine ke ?_ H1 x1
      rw [List.length_map] at hb
      unfold thingsOk
      rw [show decide (1 ≤ ts.length ∧ ts.length ≤ 6) = false from decide_eq_false (by simp at hb; omega)]
      rfl
    · rw [List.length_map] at hb
      have hlen : decide (1 ≤ ts.length ∧ ts.length ≤ 6) = true := decide_eq_true (by simp at hb; omega)
      refine w_forLx1 (K := K) (ed_var rfl (dp_mono x1 _ _ hv)) (fun i σ H' => ∃ x y, σ = [some v, x, y] ∧ (ts.take i).all paceOk = true) (fun H2 x2 => ⟨none, none, rfl, rfl⟩) ?_ ?_
      · rintro i d x σ H' hd x2 hx ⟨y, z, rfl, ha⟩
        obtain ⟨t, ht, rfl⟩ := get_map hd
        obtain ⟨a, rfl, hs⟩ := dp_eT.mp hx
        refine g_tup2 rfl hs ?_
        refine' w_when1 K ?t (fun hb H3 x3 => ?_) (fun hb H3 x3 => ?_)
        case t => walk_at "et"
        · refine ke ?_ H3 ((x1.trans x2).trans x3)
          unfold thingsOk
          rw [all_not ht (show paceOk t = false from decide_eq_false (by simp at hb; omega)), Bool.and_false]
        · refine ⟨x3, _, _, rfl, ?_⟩
          rw [all_take ht ha]
          exact decide_eq_true (by simp at hb; omega)
      · rintro σ H' x2 ⟨y, z, rfl, ha⟩
        rw [List.length_map, List.take_length] at ha
        refine kq ?_ H' (x1.trans x2)
        unfold thingsOk
        rw [hlen, ha]
        rfl
theorem sc_look_at_quarrel : FnScope ["many", "one", "other", "keeper"] ["many", "one", "other", "keeper"] (defScope s_look_at_quarrel) := ⟨rfl, rfl, rfl, by decide +kernel, rfl, by decide +kernel, by decide +kernel⟩
theorem ok_look_at_quarrel (T : Tx K mg) : Has P w K mg base (L2N.CX P w) 1 "look_at_quarrel" ["many", "one", "other", "keeper"] (spQuarrel K) := by
  obtain ⟨fd, F⟩ := T.f_look_at_quarrel
  refine ⟨T.g_look_at_quarrel, fd, F.ok sc_look_at_quarrel (fun vs H Q E h => ?_) (fun cdv A outer s H vs Q E hr h => ⟨_, (pss_cons (ps_if (PW.pt (pw_or (pt_not (pt_chain op_le op_lt pe_int (pv 1) (pv 0))) (pw_or (pt_not (pt_chain op_le op_lt pe_int (pv 2) (pv 0))) (pw_or1 (pt_not (pt_chain op_le op_lt (pe_un un_neg pe_int) (pv 3) (pv 0))))))) (pss_one (ps_raiseOwnN rfl (L2N.takes_of rfl rfl rfl rfl) T.x_BadQuarrel T.g_BadQuarrel rfl)) pss_nil)
      (pss_one (ps_if (PW.pt (pw_or (pt_cmpR op_eq (pv 1) (pv 2) (nomark _)) (pw_or (pt_cmpR op_eq (pv 3) (pv 1) (nomark _)) (pw_or1 (pt_cmpR op_eq (pv 3) (pv 2) (nomark _)))))) (pss_one (ps_raiseOwnN rfl (L2N.takes_of rfl rfl rfl rfl) T.x_BadQuarrel T.g_BadQuarrel rfl)) pss_nil))), ?_⟩), F.bindsN fun _ _ _ _ _ _ us hl => match us, hl with | [_, _, _, _], _ => rfl, F.kp⟩
  · obtain ⟨many, q, h, _⟩ := h
    exact dpa_len h
  · obtain ⟨many, q, h, kq, ke⟩ := h
    obtain rfl := dpa_ints.mp h
    refine' w_when K ?t (fun hb H1 x1 => ?_) (fun hb H1 x1 => ?_)
    case t => walk_at "et"
    · refine ke ?_ H1 x1
      unfold quarrelOk quarrelIn
      rw [Bool.and_eq_false_iff]
      left
      simp at hb ⊢
      omega
    · have hin : quarrelIn many q = true := by
        unfold quarrelIn
        simp at hb ⊢
        omega
      refine' w_when1 K ?t (fun hb H2 x2 => ?_) (fun hb H2 x2 => ?_)
      case t => walk_at "et"
      · refine ke ?_ H2 (x1.trans x2)
        unfold quarrelOk quarrelTwo
        rw [Bool.and_eq_false_iff]
        right
        simp at hb ⊢
        omega
      · refine kq ?_ H2 (x1.trans x2)
        unfold quarrelOk quarrelTwo
        rw [hin]
        simp at hb ⊢
        omega
theorem sc_Night___init__ : FnScope ["self", "things", "room", "quarrels", "one", "other", "keeper"] ["self", "things", "room", "quarrels"] (defScope s_Night___init__) := ⟨rfl, rfl, rfl, by decide +kernel, rfl, by decide +kernel, by decide +kernel⟩
theorem ok_Night___init__ (T : Tx K mg) : ∃ fd, FnOk P w K mg base (L2N.CX P w) 2 (He.ma K (He.ga K "Night") "__init__") fd ["self", "things", "room", "quarrels"] (spInit K) ∧ Binds K fd ["self", "things", "room", "quarrels"] [] := by
  obtain ⟨fd, F⟩ := T.f_Night___init__
  have G_look_at_quarrel := ok_look_at_quarrel (P := P) (w := w) (base := base) T
  have G_look_at_things := ok_look_at_things (P := P) (w := w) (base := base) T
  obtain ⟨t_MOST_QUARRELS, m_MOST_QUARRELS⟩ := T.i_MOST_QUARRELS
  obtain ⟨t_MOST_ROOM, m_MOST_ROOM⟩ := T.i_MOST_ROOM
  refine ⟨fd, F.ok sc_Night___init__ (fun vs H Q E h => ?_) (fun cdv A outer s H vs Q E hr h => ⟨_, (pss_cons (ps_expr (pe_fxN G_look_at_things (hr.mono (by decide)) rfl (L2N.takes_of rfl rfl rfl rfl) (pa_cons (pv 1) pa_nil)))
      (pss_cons (ps_if (pt_not (pt_chain op_le op_le pe_int (pv 2) (pe_glob rfl m_MOST_ROOM (v := .int 3) ⟨_, rfl⟩))) (pss_one (ps_raiseOwnN rfl (L2N.takes_of rfl rfl rfl rfl) T.x_BadRoom T.g_BadRoom rfl)) pss_nil)
      (pss_cons (ps_if (pt_cmpR op_gt (pe_callB (r := rLenQ K) call_len_seq (by rfl) T.b_len (by decide +kernel) (pa_cons (pv 3) pa_nil)) (pe_glob rfl m_MOST_QUARRELS (v := .int 30) ⟨_, rfl⟩) (nomark _)) (pss_one (ps_raiseOwnN rfl (L2N.takes_of rfl rfl rfl rfl) T.x_BadQuarrel T.g_BadQuarrel rfl)) pss_nil)
      (pss_cons (ps_for (passes_of rfl) rfl (pi_list (pv 3)) (pg_tup (by rfl) (pgs_cons (pg_name (i := 4) sc_Night___init__.nd rfl (.inl rfl)) (pgs_cons (pg_name (i := 5) sc_Night___init__.nd rfl (.inl rfl)) (pgs_cons (pg_name (i := 6) sc_Night___init__.nd rfl (.inl rfl)) pgs_nil)))) (pss_one (ps_expr (pe_fxN G_look_at_quarrel (hr.mono (by decide)) rfl (L2N.takes_of rfl rfl rfl rfl) (pa_cons (pe_callB (r := rLenQ K) call_len_seq (by rfl) T.b_len (by decide +kernel) (pa_cons (pv 1) pa_nil)) (pa_cons (pv 4) (pa_cons (pv 5) (pa_cons (pv 6) pa_nil))))))))
      (pss_cons (ps_fld (pv 0) (pe_callTy (r := rListQ K) call_list_of (by rfl) T.b_list (by decide +kernel) (pa_cons (pv 1) pa_nil)) rfl)
      (pss_cons (ps_fld (pv 0) (pv 2) rfl)
      (pss_one (ps_fld (pv 0) (pe_callTy (r := rListQ K) call_list_of (by rfl) T.b_list (by decide +kernel) (pa_cons (pv 3) pa_nil)) rfl)))))))), ?_⟩), F.bindsN fun _ _ _ _ _ _ us hl => match us, hl with | [_, _, _, _], _ => rfl⟩
  · obtain ⟨p, dx, t, q, n, rfl, _⟩ := h
    rfl
  · obtain ⟨p, dx, t, q, n, rfl, hp, ht, hq, kq, kT, kR, kQ⟩ := h
    refine' w_callS (K := K) (ds := [.list (n.things.map eT)]) ?a (fun vs H0 x0 hv => ?_)
    case a => walk_at "eds"
    obtain ⟨t', rfl, ht'⟩ : ∃ t', vs = [t'] ∧ Dp K H0 t' (.list (n.things.map eT)) := by
      cases hv with
      | cons h1 h2 => cases h2; exact ⟨_, rfl, h1⟩
    refine ⟨t', n.things, rfl, ht', fun okT H1 x1' => ?_, fun okT H1 x1' => kT H1 okT (x0.trans x1')⟩
    have x1 := x0.trans x1'
    clear x1'
    have fr : ∀ b o, H b = some o → b ≠ p → H1 b = some o := fun b o e _ => x1 b o e
    refine' w_when K ?t (fun hb H2 x2 => ?_) (fun hb H2 x2 => ?_)
    case t => walk_at "et"
    · exact kR H2 okT (decide_eq_false (by simp at hb; omega)) (x1.trans x2)
    · have okR : roomOk n.room = true := decide_eq_true (by simp at hb; omega)
      refine' w_when K ?t (fun hb H3 x3 => ?_) (fun hb H3 x3 => ?_)
      case t => walk_at "et"
      · refine kQ H3 okT okR ?_ ((x1.trans x2).trans x3)
        unfold quarrelsOk
        rw [decide_eq_false (by simp at hb; omega)]
        rfl
      · have hlen : n.quarrels.length ≤ 30 := by simp at hb; omega
        have e3 := (x1.trans x2).trans x3
        refine w_forLx (K := K) (ed_var rfl (dp_mono e3 _ _ hq)) (fun i σ H' => ∃ x y z, σ = [some (.ref p), some t, some (.int n.room), some q, x, y, z] ∧ (n.quarrels.take i).all (quarrelOk n.things.length) = true) (fun H4 x4 => ⟨none, none, none, rfl, rfl⟩) ?_ ?_
        · rintro i d x σ H' hd x4 hx ⟨y0, y1, y2, rfl, ha⟩
          obtain ⟨u, hu, rfl⟩ := get_map hd
          obtain ⟨a, rfl, hs⟩ := dp_eQ.mp hx
          refine g_tup3 rfl hs ?_
          have ht4 := dp_mono (e3.trans x4) _ _ ht
          refine' w_callS1 (K := K) (ds := [.int ((n.things.map eT).length : Nat), .int u.1, .int u.2.1, .int u.2.2]) ?a (fun vs H5 x5 hvs => ?_)
          case a => walk_at "eds"
          rw [List.length_map] at hvs
          refine ⟨(n.things.length : Int), u, hvs, fun ok H6 x6 => ?_, fun ok H6 x6 => ?_⟩
          · refine ⟨x5.trans x6, _, _, _, rfl, ?_⟩
            rw [all_take hu ha]
            exact ok
          · refine kQ H6 okT okR ?_ (((e3.trans x4).trans x5).trans x6)
            unfold quarrelsOk
            rw [all_not hu ok, Bool.and_false]
        · rintro σ H' x4 ⟨y0, y1, y2, rfl, ha⟩
          rw [List.length_map, List.take_length] at ha
          have okQ : quarrelsOk n.things.length n.quarrels = true := by
            unfold quarrelsOk
            rw [ha, decide_eq_true hlen]
            rfl
          have okN : n.ok = true := by
            unfold Nt.ok
            rw [okT, okR, okQ]
            rfl
          have e4 := e3.trans x4
          obtain ⟨ta, ts, rfl, hta, hts⟩ := dp_lst.mp (dp_mono e4 _ _ ht)
          obtain ⟨qa, qs, rfl, hqa, hqs⟩ := dp_lst.mp (dp_mono e4 _ _ hq)
          have hp4 := e4 _ _ hp
          refine ⟨_, rfl, ta, ts, rfl, .inl hta, fun l hl => ?_⟩
          have el := Evl.Ex.new (o := .lst ts) hl
          have npl : p ≠ l := ne_of_none hp4 hl
          have tl : DpAll K (upd H' l (.lst ts)) ts (n.things.map eT) := dpa_mono el _ _ hts
          have ql : DpAll K (upd H' l (.lst ts)) qs (n.quarrels.map eQ) := dpa_mono el _ _ hqs
          have hqa' : SqL K (upd H' l (.lst ts)) qa qs := Evl.ex_l el hqa
          refine ⟨_, rfl, p, _, dx, [], rfl, el _ _ hp4, T.cl, T.na_all_things, (by show 0 < 1000; decide), ?_⟩
          -- self.all_things stands
          have up1 : ∀ (H : Hp) (o : HO) (C dx : Addr) (fs : List (Str × V)), H p = some (.ins C dx fs) → Up H (upd H p o) := fun H o C dx fs h => ⟨fun a xs e => by rw [upd_ne (fun q => by rw [q, h] at e; cases e)]; exact e, fun a ob u e => by rw [upd_ne (fun q => by rw [q, h] at e; cases e)]; exact e⟩
          have nT : noLs (n.things.map eT) = true := noLs_map noL_eT _
          have nQ : noLs (n.quarrels.map eQ) = true := noLs_map noL_eQ _
          refine ⟨_, rfl, _, rfl, p, _, dx, _, rfl, upd_same, T.cl, T.na_places, (by have := length_putF "all_things" (.ref l) []; simp at this; omega), ?_⟩
          have sq : ∀ (o : HO) (H0 : Hp) (C dx : Addr) (fs : List (Str × V)), H0 p = some (.ins C dx fs) → SqL K H0 qa qs → SqL K (upd H0 p o) qa qs := fun o H0 C dx fs h0 h => by
            rcases h with (h | ⟨ob, h⟩) | h
            · exact .inl (.inl (by rw [upd_ne (fun q => by rw [q, h0] at h; cases h)]; exact h))
            · exact .inl (.inr ⟨ob, by rw [upd_ne (fun q => by rw [q, h0] at h; cases h)]; exact h⟩)
            · exact .inr h
          have hqa2 := sq (.ins (He.ga K "Night") dx (putF "places" (.int n.room) (putF "all_things" (.ref l) []))) _ _ _ _ upd_same (sq (.ins (He.ga K "Night") dx (putF "all_things" (.ref l) [])) _ _ _ _ (el _ _ hp4) hqa')
          refine ⟨_, rfl, qa, qs, rfl, .inl hqa2, fun m hm => ?_⟩
          have npm : p ≠ m := fun z => by rw [z, upd_same] at hm; cases hm
          have nlm : l ≠ m := fun z => by rw [← z, upd_ne npl.symm, upd_ne npl.symm, upd_same] at hm; cases hm
          refine ⟨_, rfl, p, _, dx, _, rfl, Eq.trans (upd_ne npm) upd_same, T.cl, T.na_all_quarrels, (by have h1 := length_putF "places" (.int n.room) (putF "all_things" (.ref l) []); have h2 := length_putF "all_things" (.ref l) []; simp at h2; omega), ?_⟩
          have hm4 : H' m = none := by
            rw [upd_ne npm.symm, upd_ne npm.symm, upd_ne nlm.symm] at hm
            exact hm
          have uA := up1 (upd H' l (.lst ts)) (.ins (He.ga K "Night") dx (putF "all_things" (.ref l) [])) _ _ _ (el _ _ hp4)
          have uB := up1 (upd (upd H' l (.lst ts)) p (.ins (He.ga K "Night") dx (putF "all_things" (.ref l) []))) (.ins (He.ga K "Night") dx (putF "places" (.int n.room) (putF "all_things" (.ref l) []))) _ _ _ upd_same
          have uC : Up _ (upd (upd (upd (upd H' l (.lst ts)) p (.ins (He.ga K "Night") dx (putF "all_things" (.ref l) []))) p (.ins (He.ga K "Night") dx (putF "places" (.int n.room) (putF "all_things" (.ref l) [])))) m (.lst qs)) := Up.new hm
          have uD := up1 (upd (upd (upd (upd H' l (.lst ts)) p (.ins (He.ga K "Night") dx (putF "all_things" (.ref l) []))) p (.ins (He.ga K "Night") dx (putF "places" (.int n.room) (putF "all_things" (.ref l) [])))) m (.lst qs)) (.ins (He.ga K "Night") dx (nf l n.room m)) _ _ _ (Eq.trans (upd_ne npm) upd_same)
          have uu := ((uA.trans uB).trans uC).trans uD
          refine kq _ okN (fun b o e hb => ?_) ⟨p, dx, l, m, ts, qs, rfl, upd_same, ?_, dpa_up uu _ _ nT tl, ?_, dpa_up uu _ _ nQ ql, Evl.fresh_back e4 hl, Evl.fresh_back e4 hm4⟩
          · have eb := e4 b o e
            rw [upd_ne hb, upd_ne (ne_of_none eb hm4), upd_ne hb, upd_ne hb, upd_ne (ne_of_none eb hl)]
            exact eb
          · rw [upd_ne npl.symm, upd_ne nlm, upd_ne npl.symm, upd_ne npl.symm, upd_same]
          · rw [upd_ne npm.symm, upd_same]
end

end Fy

namespace Fy
open PySem PySem.Spec PyProof.Rows L2
/-! ### what the laws' own helpers reckon -/
def cell (ns : List Int) (k : Int) : Int := ns.getD k.toNat 0
def lqOther (c m : Int) : Int := (c % m + 1 + c / m % (m - 1)) % m
def lqLeft (c m : Int) : List Int := (rng m.toNat).filter fun t => !decide (t = c % m) && !decide (t = lqOther c m)
def lqKeep (c m : Int) : Int := if (decide (0 < c / (m * (m - 1)) % 3) && decide (0 < ((lqLeft c m).length : Int))) = true then (lqLeft c m).getD ((c / (m * (m - 1)) / 3) % ((lqLeft c m).length : Int)).toNat 0 else -1
def lawQuarrel (c m : Int) : Int × Int × Int := (c % m, lqOther c m, lqKeep c m)
def lawQuarrels (ns : List Int) (start m : Int) : List (Int × Int × Int) := if m = 1 then [] else (List.range (cell ns start % 5).toNat).map fun k : Nat => lawQuarrel (cell ns (start + 1 + k) % 1000000000) m
def ltMost (ns : List Int) (start : Int) : Int := ([20, 4, 1000000000] : List Int).getD (cell ns start % 3).toNat 0
def lawThing (ns : List Int) (start k : Int) : Int × Bool := (1 + cell ns (start + 1 + k) / 3 % ltMost ns start, decide (cell ns (start + 1 + k) % 3 < 2))
def lawThings (ns : List Int) (start m : Int) : List (Int × Bool) := (List.range m.toNat).map fun k : Nat => lawThing ns start k
def lawMany (ns : List Int) (most : Int) : Int := if cell ns 0 / 8 % 2 = 1 then most else 1 + cell ns 0 % most
def lawRoom (ns : List Int) : Int := ([2, 3, 2, 1] : List Int).getD (cell ns 1 % 4).toNat 0
def lawNight (ns : List Int) (most : Int) : Nt := ⟨lawThings ns 2 (lawMany ns most), lawRoom ns, lawQuarrels ns 10 (lawMany ns most)⟩
def bitsL (x : Int) (m : Nat) : List Int := (rng m).filter fun i => decide (x / 2 ^ i.toNat % 2 = 1)
def groups (m : Nat) : List (List Int) := (List.range (2 ^ m)).map fun x : Nat => bitsL x m
def good (qs : List (Int × Int × Int)) (g : List Int) (m : Nat) : Bool := peace qs g && peace qs (restOf g m)
theorem rng_succ (n : Nat) : rng (n + 1) = rng n ++ [(n : Int)] := by simp [rng, List.range_succ]
theorem rng_nodup (n : Nat) : (rng n).Nodup := by
  unfold rng
  rw [List.nodup_iff_pairwise_ne, List.pairwise_map]
  have h := List.nodup_range (n := n)
  rw [List.nodup_iff_pairwise_ne] at h
  exact h.imp fun {a b} h e => h (by omega)
theorem lawMany_le {ns : List Int} {most : Int} (h : 1 ≤ most) : 1 ≤ lawMany ns most ∧ lawMany ns most ≤ most := by
  unfold lawMany
  have h1 := Int.emod_nonneg (cell ns 0) (show most ≠ 0 by omega)
  have h2 := Int.emod_lt_of_pos (cell ns 0) (show 0 < most by omega)
  split <;> omega
theorem lawThings_len (ns : List Int) (start m : Int) : (lawThings ns start m).length = m.toNat := by simp [lawThings]
theorem ltMost_ok (ns : List Int) (start : Int) : 0 < ltMost ns start ∧ ltMost ns start ≤ 1000000000 := by
  unfold ltMost
  have h1 := Int.emod_nonneg (cell ns start) (show (3 : Int) ≠ 0 by decide)
  have h2 := Int.emod_lt_of_pos (cell ns start) (show (0 : Int) < 3 by decide)
  obtain h | h | h : cell ns start % 3 = 0 ∨ cell ns start % 3 = 1 ∨ cell ns start % 3 = 2 := by omega
  all_goals rw [h]; decide
theorem lawRoom_ok (ns : List Int) : roomOk (lawRoom ns) = true := by
  unfold lawRoom roomOk
  have h1 := Int.emod_nonneg (cell ns 1) (show (4 : Int) ≠ 0 by decide)
  have h2 := Int.emod_lt_of_pos (cell ns 1) (show (0 : Int) < 4 by decide)
  obtain h | h | h | h : cell ns 1 % 4 = 0 ∨ cell ns 1 % 4 = 1 ∨ cell ns 1 % 4 = 2 ∨ cell ns 1 % 4 = 3 := by omega
  all_goals rw [h]; decide
theorem lawThing_ok (ns : List Int) (start k : Int) : paceOk (lawThing ns start k) = true := by
  obtain ⟨h0, h1⟩ := ltMost_ok ns start
  have h2 := Int.emod_nonneg (cell ns (start + 1 + k) / 3) (show ltMost ns start ≠ 0 by omega)
  have h3 := Int.emod_lt_of_pos (cell ns (start + 1 + k) / 3) h0
  exact decide_eq_true ⟨show 1 ≤ 1 + _ by omega, show 1 + _ ≤ 1000000000 by omega⟩
theorem lawThings_ok (ns : List Int) (start m : Int) (h1 : 1 ≤ m) (h2 : m ≤ 6) : thingsOk (lawThings ns start m) = true := by
  unfold thingsOk
  rw [lawThings_len, decide_eq_true (by omega : 1 ≤ m.toNat ∧ m.toNat ≤ 6)]
  simp only [lawThings, Bool.true_and, List.all_map, List.all_eq_true]
  intro x _
  exact lawThing_ok ns start x
theorem lqOther_ok (c m : Int) (h : 2 ≤ m) : 0 ≤ lqOther c m ∧ lqOther c m < m ∧ lqOther c m ≠ c % m := by
  unfold lqOther
  have a1 := Int.emod_nonneg c (show m ≠ 0 by omega)
  have a2 := Int.emod_lt_of_pos c (show 0 < m by omega)
  have b1 := Int.emod_nonneg (c / m) (show m - 1 ≠ 0 by omega)
  have b2 := Int.emod_lt_of_pos (c / m) (show 0 < m - 1 by omega)
  refine ⟨Int.emod_nonneg _ (by omega), Int.emod_lt_of_pos _ (by omega), ?_⟩
  by_cases hc : c % m + 1 + c / m % (m - 1) < m
  · rw [Int.emod_eq_of_lt (by omega) hc]; omega
  · have e : (c % m + 1 + c / m % (m - 1)) % m = c % m + 1 + c / m % (m - 1) - m := by
      rw [← Int.sub_emod_right, Int.emod_eq_of_lt (by omega) (by omega)]
    rw [e]; omega
theorem lawQuarrel_ok (c m : Int) (h : 2 ≤ m) : quarrelOk m (lawQuarrel c m) = true := by
  have a1 := Int.emod_nonneg c (show m ≠ 0 by omega)
  have a2 := Int.emod_lt_of_pos c (show 0 < m by omega)
  obtain ⟨o1, o2, o3⟩ := lqOther_ok c m h
  have k : (lqKeep c m = -1) ∨ (0 ≤ lqKeep c m ∧ lqKeep c m < m ∧ lqKeep c m ≠ c % m ∧ lqKeep c m ≠ lqOther c m) := by
    unfold lqKeep
    split
    · rename_i hc
      right
      simp only [Bool.and_eq_true, decide_eq_true_eq] at hc
      have hl : 0 < ((lqLeft c m).length : Int) := hc.2
      have i1 := Int.emod_nonneg (c / (m * (m - 1)) / 3) (show ((lqLeft c m).length : Int) ≠ 0 by omega)
      have i2 := Int.emod_lt_of_pos (c / (m * (m - 1)) / 3) hl
      have hi : ((c / (m * (m - 1)) / 3) % ((lqLeft c m).length : Int)).toNat < (lqLeft c m).length := by omega
      have hm : (lqLeft c m).getD ((c / (m * (m - 1)) / 3) % ((lqLeft c m).length : Int)).toNat 0 ∈ lqLeft c m := by
        rw [List.getD_eq_getElem?_getD, List.getElem?_eq_getElem hi]
        exact List.getElem_mem hi
      have hm2 := hm
      unfold lqLeft at hm2
      rw [List.mem_filter, mem_rng] at hm2
      simp only [Bool.and_eq_true, Bool.not_eq_true', decide_eq_false_iff_not] at hm2
      obtain ⟨⟨g1, g2⟩, g3, g4⟩ := hm2
      have e : (m.toNat : Int) = m := by omega
      rw [e] at g2
      exact ⟨g1, g2, g3, g4⟩
    · left; rfl
  unfold quarrelOk quarrelIn quarrelTwo lawQuarrel
  simp only [Bool.and_eq_true, Bool.not_eq_true', Bool.or_eq_false_iff, decide_eq_true_eq, decide_eq_false_iff_not]
  omega
theorem lawQuarrels_ok (ns : List Int) (start m : Int) (h : 1 ≤ m) : quarrelsOk m (lawQuarrels ns start m) = true ∧ (lawQuarrels ns start m).length ≤ 4 := by
  have h1 := Int.emod_nonneg (cell ns start) (show (5 : Int) ≠ 0 by decide)
  have h2 := Int.emod_lt_of_pos (cell ns start) (show (0 : Int) < 5 by decide)
  have hl : (lawQuarrels ns start m).length ≤ 4 := by
    unfold lawQuarrels
    split
    · simp
    · rw [List.length_map, List.length_range]; omega
  refine ⟨?_, hl⟩
  unfold quarrelsOk
  rw [decide_eq_true (Nat.le_trans hl (by decide)), Bool.true_and]
  unfold lawQuarrels
  split
  · rfl
  · rw [List.all_map, List.all_eq_true]
    intro x _
    exact lawQuarrel_ok _ _ (by omega)
theorem lawNight_ok (ns : List Int) (most : Int) (h1 : 1 ≤ most) (h2 : most ≤ 6) : (lawNight ns most).ok = true := by
  obtain ⟨a, b⟩ := lawMany_le (ns := ns) h1
  unfold Nt.ok lawNight
  rw [lawThings_ok _ _ _ a (by omega), lawRoom_ok]
  simp only [Bool.true_and]
  rw [lawThings_len, show (((lawMany ns most).toNat : Nat) : Int) = lawMany ns most by omega]
  exact (lawQuarrels_ok ns 10 _ a).1
theorem bitsL_succ (x : Int) (m : Nat) : bitsL x (m + 1) = bitsL x m ++ (if x / 2 ^ m % 2 = 1 then [(m : Int)] else []) := by
  unfold bitsL
  rw [rng_succ, List.filter_append]
  congr 1
  rw [List.filter_cons]
  by_cases h : x / 2 ^ m % 2 = 1
  · rw [if_pos (by simpa using h), if_pos h]; rfl
  · rw [if_neg (by simpa using h), if_neg h]; rfl
theorem pow_step (x : Int) (m : Nat) : x / 2 ^ m / 2 = x / 2 ^ (m + 1) := by
  rw [Int.pow_succ, Int.ediv_ediv_of_nonneg (Int.le_of_lt (Int.pow_pos (by decide)))]

end Fy

namespace Fy
open PySem PySem.Spec PyProof.Rows L2
/-! ### the laws' own helpers, walked -/
def eNt (n : Nt) : PyData := .tuple [.list (n.things.map eT), .int n.room, .list (n.quarrels.map eQ)]
def eScript (ns : List Int) : PyData := .list (ns.map .int)
def spCell (K : PySem.W.Frag) : Sp := spP K (fun x : List Int × Int => 0 ≤ x.2 ∧ x.1.length ≤ 63) (fun x => [eScript x.1, .int x.2]) (fun x => .int (cell x.1 x.2))
def spQ1 (K : PySem.W.Frag) : Sp := spP K (fun x : Int × Int => 2 ≤ x.2 ∧ x.2 ≤ 1000) (fun x => [.int x.1, .int x.2]) (fun x => eQ (lawQuarrel x.1 x.2))
def spQs (K : PySem.W.Frag) : Sp := spL K (fun x : List Int × Int × Int => 0 ≤ x.2.1 ∧ 1 ≤ x.2.2 ∧ x.2.2 ≤ 1000 ∧ x.1.length ≤ 63) (fun x => [eScript x.1, .int x.2.1, .int x.2.2]) (fun x => (lawQuarrels x.1 x.2.1 x.2.2).map eQ)
def spTs (K : PySem.W.Frag) : Sp := spL K (fun x : List Int × Int × Int => 0 ≤ x.2.1 ∧ 1 ≤ x.2.2 ∧ x.2.2 ≤ 1000 ∧ x.1.length ≤ 63) (fun x => [eScript x.1, .int x.2.1, .int x.2.2]) (fun x => (lawThings x.1 x.2.1 x.2.2).map eT)
/-- the law's own night: a tuple whose lists are its own -/
def NightT (K : PySem.W.Frag) (H0 : Hp) (v : V) (H : Hp) (n : Nt) : Prop := ∃ a t q, v = .ref a ∧ SqT K H a [t, .int n.room, q] ∧ NewL K H0 t H (n.things.map eT) ∧ NewL K H0 q H (n.quarrels.map eQ)
theorem NightT.dp {K : PySem.W.Frag} {H0 H : Hp} {v : V} {n : Nt} (h : NightT K H0 v H n) : Dp K H v (eNt n) := by
  obtain ⟨a, t, q, rfl, h1, h2, h3⟩ := h
  exact dp_tup.mpr ⟨a, _, rfl, h1, .cons h2.dp (.cons (.int _) (.cons h3.dp .nil))⟩
theorem NewL.mono {K : PySem.W.Frag} {H0 H H' : Hp} {v : V} {ds : List PyData} (e : Ex H H') (h : NewL K H0 v H ds) : NewL K H0 v H' ds := by
  obtain ⟨p, xs, e1, n, h1, h2⟩ := h
  exact ⟨p, xs, e1, n, e _ _ h1, dpa_mono e _ _ h2⟩
theorem NightT.mono {K : PySem.W.Frag} {H0 H H' : Hp} {v : V} {n : Nt} (e : Ex H H') (h : NightT K H0 v H n) : NightT K H0 v H' n := by
  obtain ⟨a, t, q, rfl, h1, h2, h3⟩ := h
  exact ⟨a, t, q, rfl, Evl.ex_t e h1, h2.mono e, h3.mono e⟩
def spNt (K : PySem.W.Frag) : Sp := fun vs H Q _ => ∃ x : List Int × Int, (1 ≤ x.2 ∧ x.2 ≤ 6 ∧ x.1.length ≤ 63) ∧ DpAll K H vs [eScript x.1, .int x.2] ∧ RetR (fun v H' => NightT K H v H' (lawNight x.1 x.2)) H Q
theorem w_asgNt {K : PySem.W.Frag} {σ : L2.St} {H : Hp} {tr : TA} {i : Nat} {D : Ends} {tz : TS} (ns : List Int) (most : Int) (hx : 1 ≤ most ∧ most ≤ 6 ∧ ns.length ≤ 63) (h : EvDs K tr σ H [eScript ns, .int most])
    (k : ∀ v H1, Ex H H1 → NightT K H v H1 (lawNight ns most) → tz D (σ.set i (some v)) H1) : tSeq (tAsg (tCall (spNt K) [] E0 tr) (gName i)) tz D σ H :=
  h H (Evl.Ex.refl H) _ fun vs H2 x2 h2 => ⟨(ns, most), hx, by rw [List.append_nil]; exact h2, fun v H3 x3 h3 => k v H3 (x2.trans x3) (by
    obtain ⟨a, t, q, e, h1, h4, h5⟩ := h3
    exact ⟨a, t, q, e, h1, h4.back x2, h5.back x2⟩)⟩
section
variable {K : PySem.W.Frag} {σ : L2.St} {H : Hp} {ta tb tc : TE} {E : XK}
theorem ed_cell {ns : List Int} {k : Int} (hs : EvD K ta σ H (eScript ns)) (hk : EvD K tb σ H (.int k)) (h0 : 0 ≤ k ∧ ns.length ≤ 63) : EvD K (tCall (spCell K) [] E (tCons ta (tCons tb tNil))) σ H (.int (cell ns k)) :=
  ed_call (x := (ns, k)) h0 (eds_cons hs (eds_cons hk eds_nil))
theorem ed_q1 {c m : Int} (hs : EvD K ta σ H (.int c)) (hk : EvD K tb σ H (.int m)) (h0 : 2 ≤ m ∧ m ≤ 1000) : EvD K (tCall (spQ1 K) [] E (tCons ta (tCons tb tNil))) σ H (eQ (lawQuarrel c m)) :=
  ed_call (x := (c, m)) h0 (eds_cons hs (eds_cons hk eds_nil))
theorem i_Cell {tr : TA} {d : PyData} {K' : PySem.W.Frag} (h : EvD K (tCall (spCell K') [] E tr) σ H d) : EvD K (tCall (spCell K') [] E tr) σ H d := h
theorem i_Q1 {tr : TA} {d : PyData} {K' : PySem.W.Frag} (h : EvD K (tCall (spQ1 K') [] E tr) σ H d) : EvD K (tCall (spQ1 K') [] E tr) σ H d := h
end
def spPe (K : PySem.W.Frag) : Sp := spP K (fun _ : List (Int × Int × Int) × List Int => True) (fun x => [.list (x.1.map eQ), eI x.2]) (fun x => .bool (peace x.1 x.2))
def spBits (K : PySem.W.Frag) : Sp := spP K (fun x : Int × Nat => x.2 ≤ 1000) (fun x => [.int x.1, .int (x.2 : Int)]) (fun x => eI (bitsL x.1 x.2))
def spGroups (K : PySem.W.Frag) : Sp := spL K (fun x : Nat => x ≤ 6) (fun x => [.int (x : Int)]) (fun x => (groups x).map eI)
def spRest (K : PySem.W.Frag) : Sp := spP K (fun x : List Int × Nat => x.2 ≤ 1000) (fun x => [eI x.1, .int (x.2 : Int)]) (fun x => eI (restOf x.1 x.2))
def spGood (K : PySem.W.Frag) : Sp := spP K (fun x : List (Int × Int × Int) × List Int × Nat => x.2.2 ≤ 1000) (fun x => [.list (x.1.map eQ), eI x.2.1, .int (x.2.2 : Int)]) (fun x => .bool (good x.1 x.2.1 x.2.2))
def spWhole (K : PySem.W.Frag) : Sp := spP K (fun _ : PyData => True) (fun x => [x]) (fun x => .bool (decide (tyN x = "int")))
section
variable {K : PySem.W.Frag} {σ : L2.St} {H : Hp} {ta tb tc : TE} {E : XK}
theorem ed_pe {qs : List (Int × Int × Int)} {g : List Int} (h1 : EvD K ta σ H (.list (qs.map eQ))) (h2 : EvD K tb σ H (eI g)) : EvD K (tCall (spPe K) [] E (tCons ta (tCons tb tNil))) σ H (.bool (peace qs g)) :=
  ed_call (x := (qs, g)) trivial (eds_cons h1 (eds_cons h2 eds_nil))
theorem ed_bits {c : Int} {m : Nat} (h1 : EvD K ta σ H (.int c)) (h2 : EvD K tb σ H (.int (m : Int))) (h0 : m ≤ 1000) : EvD K (tCall (spBits K) [] E (tCons ta (tCons tb tNil))) σ H (eI (bitsL c m)) :=
  ed_call (x := (c, m)) h0 (eds_cons h1 (eds_cons h2 eds_nil))
theorem en_groups {m : Nat} (h2 : EvD K tb σ H (.int (m : Int))) (h0 : m ≤ 6) : EvN K (tCall (spGroups K) [] E (tCons tb tNil)) σ H ((groups m).map eI) :=
  en_call (x := m) h0 (eds_cons h2 eds_nil)
theorem ed_rest {g : List Int} {m : Nat} (h1 : EvD K ta σ H (eI g)) (h2 : EvD K tb σ H (.int (m : Int))) (h0 : m ≤ 1000) : EvD K (tCall (spRest K) [] E (tCons ta (tCons tb tNil))) σ H (eI (restOf g m)) :=
  ed_call (x := (g, m)) h0 (eds_cons h1 (eds_cons h2 eds_nil))
theorem ed_good {qs : List (Int × Int × Int)} {g : List Int} {m : Nat} (h1 : EvD K ta σ H (.list (qs.map eQ))) (h2 : EvD K tb σ H (eI g)) (h3 : EvD K tc σ H (.int (m : Int))) (h0 : m ≤ 1000) : EvD K (tCall (spGood K) [] E (tCons ta (tCons tb (tCons tc tNil)))) σ H (.bool (good qs g m)) :=
  ed_call (x := (qs, g, m)) h0 (eds_cons h1 (eds_cons h2 (eds_cons h3 eds_nil)))
theorem ed_whole {d : PyData} (h1 : EvD K ta σ H d) : EvD K (tCall (spWhole K) [] E (tCons ta tNil)) σ H (.bool (decide (tyN d = "int"))) := ed_call (x := d) trivial (eds_cons h1 eds_nil)
variable {tr : TA} {d : PyData} {K' : PySem.W.Frag}
theorem i_Pe (h : EvD K (tCall (spPe K') [] E tr) σ H d) : EvD K (tCall (spPe K') [] E tr) σ H d := h
theorem i_Bits (h : EvD K (tCall (spBits K') [] E tr) σ H d) : EvD K (tCall (spBits K') [] E tr) σ H d := h
theorem i_Rest (h : EvD K (tCall (spRest K') [] E tr) σ H d) : EvD K (tCall (spRest K') [] E tr) σ H d := h
theorem i_Good (h : EvD K (tCall (spGood K') [] E tr) σ H d) : EvD K (tCall (spGood K') [] E tr) σ H d := h
theorem i_Whole (h : EvD K (tCall (spWhole K') [] E tr) σ H d) : EvD K (tCall (spWhole K') [] E tr) σ H d := h
end
def spSame (K : PySem.W.Frag) : Sp := spP K (fun x : List PyData × List PyData => SeqAt.shaped (.list x.1) = true ∧ SeqAt.shaped (.list x.2) = true) (fun x => [.list x.1, .list x.2]) (fun x => .bool (PyData.eqvAll x.1 x.2 && x.1.all (isT "tuple")))
theorem ed_same {K : PySem.W.Frag} {σ : L2.St} {H : Hp} {ta tb : TE} {E : XK} {α : Type} [DecidableEq α] {f : α → PyData} (hf : ∀ x y, PyData.eqv (f x) (f y) = decide (x = y)) (ht : ∀ x, isT "tuple" (f x) = true) (hs : ∀ xs : List α, SeqAt.shaped (.list (xs.map f)) = true) {xs ys : List α} (h1 : EvD K ta σ H (.list (xs.map f))) (h2 : EvD K tb σ H (.list (ys.map f))) :
    EvD K (tCall (spSame K) [] E (tCons ta (tCons tb tNil))) σ H (.bool (decide (xs = ys))) :=
  EvD.cast (ed_call (x := (xs.map f, ys.map f)) ⟨hs xs, hs ys⟩ (eds_cons h1 (eds_cons h2 eds_nil))) (by
    have e : (xs.map f).all (isT "tuple") = true := by rw [List.all_eq_true]; intro d hd; obtain ⟨a, _, rfl⟩ := List.mem_map.mp hd; exact ht a
    show PyData.bool (PyData.eqvAll _ _ && _) = _
    rw [e, Bool.and_true, eqvs_map hf])

end Fy

namespace Fy
open PySem PySem.Spec PyProof.Rows L2
end Fy
local macro_rules | `(tactic| walk_at "side") => `(tactic| first | decide | assumption | omega | exact ⟨by decide, by decide⟩ | exact Or.inl ⟨by decide, by decide⟩ | exact Or.inr ⟨by decide, by decide⟩ | exact ⟨by omega, by assumption⟩ | exact ⟨by omega, by omega⟩)
local macro_rules | `(tactic| walk_at "ed") => `(tactic| ((with_reducible refine' Fy.i_Cell ?hh); (case hh => exact Fy.ed_cell (by walk_at "ed") (by walk_at "ed") (by walk_at "side"))))
local macro_rules | `(tactic| walk_at "ed") => `(tactic| ((with_reducible refine' Fy.i_Q1 ?hh); (case hh => exact Fy.ed_q1 (by walk_at "ed") (by walk_at "ed") (by walk_at "side"))))
local macro_rules | `(tactic| walk_at "ed") => `(tactic| ((with_reducible refine' Fy.i_Pe ?hh); (case hh => exact Fy.ed_pe (by walk_at "ed") (by walk_at "ed"))))
local macro_rules | `(tactic| walk_at "ed") => `(tactic| ((with_reducible refine' Fy.i_Bits ?hh); (case hh => exact Fy.ed_bits (by walk_at "ed") (by walk_at "ed") (by walk_at "side"))))
local macro_rules | `(tactic| walk_at "ed") => `(tactic| ((with_reducible refine' Fy.i_Rest ?hh); (case hh => exact Fy.ed_rest (by walk_at "ed") (by walk_at "ed") (by walk_at "side"))))
local macro_rules | `(tactic| walk_at "ed") => `(tactic| ((with_reducible refine' Fy.i_Good ?hh); (case hh => exact Fy.ed_good (by walk_at "ed") (by walk_at "ed") (by walk_at "ed") (by walk_at "side"))))
local macro_rules | `(tactic| walk_at "ed") => `(tactic| ((with_reducible refine' Fy.i_Whole ?hh); (case hh => exact Fy.ed_whole (by walk_at "ed"))))

namespace Fy
open PySem PySem.Spec PyProof.Rows L2
theorem dpa2 {K : PySem.W.Frag} {H : Hp} {vs : List V} {d e : PyData} (h : DpAll K H vs [d, e]) : ∃ v u, vs = [v, u] ∧ Dp K H v d ∧ Dp K H u e := by
  cases h with
  | cons h1 h2 => cases h2 with
    | cons h2 h3 => cases h3; exact ⟨_, _, rfl, h1, h2⟩
theorem dpa3 {K : PySem.W.Frag} {H : Hp} {vs : List V} {d e f : PyData} (h : DpAll K H vs [d, e, f]) : ∃ v u t, vs = [v, u, t] ∧ Dp K H v d ∧ Dp K H u e ∧ Dp K H t f := by
  cases h with
  | cons h1 h2 =>
    obtain ⟨u, t, rfl, h2, h3⟩ := dpa2 h2
    exact ⟨_, _, _, rfl, h1, h2, h3⟩
theorem dpa1 {K : PySem.W.Frag} {H : Hp} {vs : List V} {d : PyData} (h : DpAll K H vs [d]) : ∃ v, vs = [v] ∧ Dp K H v d := by
  cases h with
  | cons h1 h2 => cases h2; exact ⟨_, rfl, h1⟩
theorem atI_ints {ns : List Int} {k : Int} (h0 : 0 ≤ k) (h1 : k < ns.length) : atI (ns.map PyData.int) k = some (.int (ns.getD k.toNat 0)) := by
  have e : k = ((k.toNat : Nat) : Int) := by omega
  have hk : k.toNat < ns.length := by omega
  rw [e]
  refine atI_nat ?_
  rw [List.getElem?_map, List.getElem?_eq_getElem hk, List.getD_eq_getElem?_getD, show ((k.toNat : Int)).toNat = k.toNat by omega, List.getElem?_eq_getElem hk]
  rfl
section
variable {P : Program} {w : World} {K : PySem.W.Frag} {mg : Str → Option Value} {base : Heap}
theorem sc__law_cell_at : FnScope ["script", "k"] ["script", "k"] (defScope s__law_cell_at) := ⟨rfl, rfl, rfl, by decide +kernel, rfl, by decide +kernel, by decide +kernel⟩
theorem ok__law_cell_at (T : Tx K mg) : Has P w K mg base CX0 1 "_law_cell_at" ["script", "k"] (spCell K) := by
  obtain ⟨fd, F⟩ := T.f__law_cell_at
  refine ⟨T.g__law_cell_at, fd, F.ok sc__law_cell_at (fun vs H Q E h => ?_) (fun cdv A outer s H vs Q E hr h => ⟨_, PSs.nox (pss_cons (ps_if (pt_cmpR op_lt (pv 1) (pe_callB (r := rLenQ K) call_len_seq (by rfl) T.b_len (by decide +kernel) (pa_cons (pv 0) pa_nil)) (nomark _)) (pss_one (ps_ret (pe_ix (r := rIxL K) ix_list (pv 0) (pv 1) (fun _ _ => rfl)))) pss_nil)
      (pss_one (ps_ret pe_int))), ?_⟩), F.bindsN fun _ _ _ _ _ _ us hl => match us, hl with | [_, _], _ => rfl, F.kp⟩
  · exact spP.len (n := 2) (fun _ => rfl) h
  · obtain ⟨⟨ns, k⟩, ⟨h0, hl⟩, hv0, q⟩ := h
    obtain ⟨v, u, rfl, hv, hu⟩ := dpa2 hv0
    cases dp_int.mp hu
    have hv' : Dp K H v (.list (ns.map .int)) := hv
    refine' w_when K ?t (fun hb H1 x1 => ?_) (fun hb H1 x1 => ?_)
    case t => walk_at "et"
    · have hb' : k < ns.length := by simpa using hb
      have e : atI (ns.map PyData.int) k = some (.int (ns.getD k.toNat 0)) := atI_ints h0 hb'
      exact w_ret1 (ed_op (by walk_at "ed") (by walk_at "ed") (rd_ixL e)) fun v' H2 x2 h2 => q v' H2 (x1.trans x2) h2
    · have hb' : ¬ k < ns.length := by simpa using hb
      refine w_ret1 (ed_int (K := K)) fun v' H2 x2 h2 => q v' H2 (x1.trans x2) ?_
      have e : cell ns k = 0 := by
        unfold cell
        rw [List.getD_eq_getElem?_getD, List.getElem?_eq_none (by omega)]
        rfl
      show Dp K H2 v' (.int (cell ns k))
      rw [e]
      exact h2
theorem sc__law_quarrel : FnScope ["cell", "many", "one", "other", "left", "keeper", "thing"] ["cell", "many"] (defScope s__law_quarrel) := ⟨rfl, rfl, rfl, by decide +kernel, rfl, by decide +kernel, by decide +kernel⟩
theorem ok__law_quarrel (T : Tx K mg) : Has P w K mg base CX0 1 "_law_quarrel" ["cell", "many"] (spQ1 K) := by
  obtain ⟨fd, F⟩ := T.f__law_quarrel
  refine ⟨T.g__law_quarrel, fd, F.ok sc__law_quarrel (fun vs H Q E h => ?_) (fun cdv A outer s H vs Q E hr h => ⟨_, PSs.nox (pss_cons (ps_set (i := 2) sc__law_quarrel.nd rfl (.inr rfl) (pe_op op_mod (pv 0) (pv 1)))
      (pss_cons (ps_set (i := 3) sc__law_quarrel.nd rfl (.inr rfl) (pe_op op_mod (pe_op op_add (pe_op op_add (pv 2) pe_int) (pe_op op_mod (pe_op op_fdiv (pv 0) (pv 1)) (pe_op op_sub (pv 1) pe_int))) (pv 1)))
      (pss_cons (ps_setLc (i := 4) (hy := by rfl) (hyl := by rfl) (hsw := sw_true rfl rfl rfl (by decide +kernel)) (hc := by rfl) (hN := sc__law_quarrel.nd) (own := [("thing", 6)]) (g := gName 6) (hi := (pi_range1 rfl T.b_range (pa_cons (pv 1) pa_nil))) (ok := blkOk_by (N := ["cell", "many", "one", "other", "left", "keeper", "thing"]) (sc := defScope s__law_quarrel) (by decide +kernel)) (hg := fun _ _ _ _ _ => pg_name (i := 6) sc__law_quarrel.nd rfl (.inl rfl)) (ht := fun _ _ _ _ _ => (pts_one (PW.pt (pw_and (pt_cmpR op_ne (pv 6) (pv 2) (nomark _)) (pw_and1 (pt_cmpR op_ne (pv 6) (pv 3) (nomark _))))))) (he := fun _ _ _ _ _ => (pv 6)))
      (pss_cons (ps_set (i := 0) sc__law_quarrel.nd rfl (.inl rfl) (pe_op op_fdiv (pv 0) (pe_op op_mul (pv 1) (pe_op op_sub (pv 1) pe_int))))
      (pss_cons (ps_set (i := 5) sc__law_quarrel.nd rfl (.inl rfl) (pe_un un_neg pe_int))
      (pss_cons (ps_if (PW.pt (pw_and (pt_cmpR op_gt (pe_op op_mod (pv 0) pe_int) pe_int (nomark _)) (pw_and1 (pt_cmpR op_gt (pe_callB (r := rLenQ K) call_len_seq (by rfl) T.b_len (by decide +kernel) (pa_cons (pv 4) pa_nil)) pe_int (nomark _))))) (pss_one (ps_set (i := 5) sc__law_quarrel.nd rfl (.inl rfl) (pe_ix (r := rIxL K) ix_list (pv 4) (pe_op op_mod (pe_op op_fdiv (pv 0) pe_int) (pe_callB (r := rLenQ K) call_len_seq (by rfl) T.b_len (by decide +kernel) (pa_cons (pv 4) pa_nil))) (fun _ _ => rfl)))) pss_nil)
      (pss_one (ps_ret (pe_tup (pa_cons (pv 2) (pa_cons (pv 3) (pa_cons (pv 5) pa_nil)))))))))))), ?_⟩), F.bindsN fun _ _ _ _ _ _ us hl => match us, hl with | [_, _], _ => rfl, F.kp⟩
  · exact spP.len (n := 2) (fun _ => rfl) h
  · obtain ⟨⟨c, m⟩, ⟨h0, hl⟩, hv0, q⟩ := h
    obtain ⟨v, u, rfl, hv, hu⟩ := dpa2 hv0
    cases dp_int.mp hv
    cases dp_int.mp hu
    have h2 : 2 ≤ m := h0
    have h3 : m ≤ 1000 := hl
    clear h0 hl hv hu hv0
    have m0 : 0 < m := by omega
    have m1 : 0 < m - 1 := by omega
    have m2 : CDiv c m := ⟨m0, by omega⟩
    have m3 : 0 < m * (m - 1) := Int.mul_pos m0 m1
    have m4 : m * (m - 1) ≤ 1000 * 1000 := Int.mul_le_mul h3 (by omega) (by omega) (by decide)
    have m5 : CDiv c (m * (m - 1)) := ⟨m3, by omega⟩
    have m6 : CMul m (m - 1) := Or.inl ⟨by omega, by omega⟩
    refine' w_asg (K := K) (d := .int (c % m)) ?t (fun v1 H1 x1 h1 => ?_)
    case t => walk_at "ed"
    cases dp_int.mp h1
    refine' w_asg (K := K) (d := .int (lqOther c m)) ?t (fun v1 H2 x2 h1 => ?_)
    case t => walk_at "ed"
    cases dp_int.mp h1
    refine' w_asgN (K := K) (ds := (lqLeft c m).map .int) (en_filR (fun t => !decide (t = c % m) && !decide (t = lqOther c m)) ?a (by omega) (fun _ => rfl) (fun _ => rfl) (fun i hi => ?b)) (fun v1 H3 x3 h3 => ?_)
    case a => walk_at "eds"
    case b => walk_at "et"
    have hL := h3.dp
    refine' w_asg (K := K) (d := .int (c / (m * (m - 1)))) ?t (fun v2 H4 x4 h1 => ?_)
    case t => walk_at "ed"
    cases dp_int.mp h1
    refine' w_asg (K := K) (d := .int (-1)) ?t (fun v2 H5 x5 h1 => ?_)
    case t => walk_at "ed"
    cases dp_int.mp h1
    have xx := (((x1.trans x2).trans x3).trans x4).trans x5
    have fin : ∀ H6 k, Ex H5 H6 → k = lqKeep c m → tRet (tTup (tCons (tVar 2) (tCons (tVar 3) (tCons (tVar 5) tNil)))) { nx := fun x H' => Q V.non H', rt := Q } [some (.int (c / (m * (m - 1)))), some (.int m), some (.int (c % m)), some (.int (lqOther c m)), some v1, some (.int k), none] H6 := fun H6 k x6 hk => by
      refine' w_ret1 (K := K) (d := .tuple [.int (c % m), .int (lqOther c m), .int k]) ?t (fun v7 H7 x7 h7 => ?_)
      case t => walk_at "ed"
      refine q v7 H7 ((xx.trans x6).trans x7) ?_
      rw [hk] at h7
      exact h7
    refine' w_when K ?t (fun hb H6 x6 => ?_) (fun hb H6 x6 => ?_)
    case t => walk_at "et"
    · have hb2 := hb
      rw [List.length_map] at hb2
      have hl : 0 < ((lqLeft c m).length : Int) := by simp at hb2; omega
      have i1 := Int.emod_nonneg (c / (m * (m - 1)) / 3) (show ((lqLeft c m).length : Int) ≠ 0 by omega)
      have i2 := Int.emod_lt_of_pos (c / (m * (m - 1)) / 3) hl
      have hl' : 0 < (((lqLeft c m).map PyData.int).length : Int) := by rw [List.length_map]; exact hl
      have ix : atI ((lqLeft c m).map PyData.int) ((c / (m * (m - 1)) / 3) % (((lqLeft c m).map PyData.int).length : Int)) = some (.int ((lqLeft c m).getD ((c / (m * (m - 1)) / 3) % ((lqLeft c m).length : Int)).toNat 0)) := by
        rw [List.length_map]
        exact atI_ints i1 i2
      refine' w_asg1 (K := K) (ed_op ?a ?b (rd_ixL ix)) (fun v2 H7 x7 h1 => ?_)
      case a => walk_at "ed"
      case b => walk_at "ed"
      cases dp_int.mp h1
      refine fin H7 _ (x6.trans x7) ?_
      unfold lqKeep
      rw [if_pos hb2]
    · refine fin H6 _ x6 ?_
      rw [List.length_map] at hb
      unfold lqKeep
      rw [if_neg (by rw [hb]; exact Bool.false_ne_true)]
theorem sc__law_quarrels : FnScope ["script", "start", "many", "count", "k"] ["script", "start", "many"] (defScope s__law_quarrels) := ⟨rfl, rfl, rfl, by decide +kernel, rfl, by decide +kernel, by decide +kernel⟩
theorem ok__law_quarrels (T : Tx K mg) : Has P w K mg base CX0 2 "_law_quarrels" ["script", "start", "many"] (spQs K) := by
  obtain ⟨fd, F⟩ := T.f__law_quarrels
  have G__law_quarrel := ok__law_quarrel (P := P) (w := w) (base := base) T
  have G__law_cell_at := ok__law_cell_at (P := P) (w := w) (base := base) T
  refine ⟨T.g__law_quarrels, fd, F.ok sc__law_quarrels (fun vs H Q E h => ?_) (fun cdv A outer s H vs Q E hr h => ⟨_, PSs.nox (pss_cons (ps_if (pt_cmpR op_eq (pv 2) pe_int (nomark _)) (pss_one (ps_ret (pe_lst pa_nil))) pss_nil)
      (pss_cons (ps_set (i := 3) sc__law_quarrels.nd rfl (.inl rfl) (pe_op op_mod (pe_f G__law_cell_at (hr.mono (by decide)) rfl (pa_cons (pv 0) (pa_cons (pv 1) pa_nil))) pe_int))
      (pss_one (ps_ret (pe_lc (own := [("k", 4)]) (g := gName 4) (by rfl) sc__law_quarrels.nd (pi_range1 rfl T.b_range (pa_cons (pv 3) pa_nil)) (blkOk_by (N := ["script", "start", "many", "count", "k"]) (sc := defScope s__law_quarrels) (by decide +kernel)) (fun _ _ _ _ _ => pg_name (i := 4) sc__law_quarrels.nd rfl (.inl rfl)) (fun _ _ _ _ _ => pts_nil) (fun _ _ _ _ _ => (pe_f G__law_quarrel (hr.mono (by decide)) rfl (pa_cons (pe_op op_mod (pe_f G__law_cell_at (hr.mono (by decide)) rfl (pa_cons (pv 0) (pa_cons (pe_op op_add (pe_op op_add (pv 1) pe_int) (pv 4)) pa_nil))) (pe_op op_pow pe_int pe_int)) (pa_cons (pv 2) pa_nil))))))))), ?_⟩), F.bindsN fun _ _ _ _ _ _ us hl => match us, hl with | [_, _, _], _ => rfl, F.kp⟩
  · exact spL.len (n := 3) (fun _ => rfl) h
  · obtain ⟨⟨ns, start, m⟩, ⟨h0, h1, h2, hl⟩, hv0, q⟩ := h
    dsimp only at h0 h1 h2 hl hv0 q
    obtain ⟨v, u, t, rfl, hv, hu, ht⟩ := dpa3 hv0
    cases dp_int.mp hu
    cases dp_int.mp ht
    refine' w_when K ?t (fun hb H1 x1 => ?_) (fun hb H1 x1 => ?_)
    case t => walk_at "et"
    · have hm : m = 1 := by simpa using hb
      refine w_retN1 (K := K) (en_lst eds_nil (by decide)) fun v' H2 x2 h2 => q v' H2 (x1.trans x2) ?_
      unfold lawQuarrels
      rw [if_pos hm]
      exact h2.back x1
    · have hm : ¬ m = 1 := by simpa using hb
      have b1 := Int.emod_nonneg (cell ns start) (show (5 : Int) ≠ 0 by decide)
      have b2 := Int.emod_lt_of_pos (cell ns start) (show (0 : Int) < 5 by decide)
      refine' w_asg (K := K) (d := .int (cell ns start % 5)) ?t (fun v1 H2 x2 h1 => ?_)
      case t => walk_at "ed"
      cases dp_int.mp h1
      refine' w_retN1 (K := K) (ds := (List.range (cell ns start % 5).toNat).map fun k : Nat => eQ (lawQuarrel (cell ns (start + 1 + k) % 1000000000) m)) (en_mapR _ (fun _ => noL_eQ _) ?a (by omega) (fun _ => rfl) (fun i hi => ?b)) (fun v' H3 x3 h3 => ?_)
      case a => walk_at "eds"
      case b => walk_at "ed"
      refine q v' H3 ((x1.trans x2).trans x3) ?_
      unfold lawQuarrels
      rw [if_neg hm, List.map_map]
      exact h3.back (x1.trans x2)
theorem sc__law_things : FnScope ["script", "start", "many", "most", "things", "k", "cell"] ["script", "start", "many"] (defScope s__law_things) := ⟨rfl, rfl, rfl, by decide +kernel, rfl, by decide +kernel, by decide +kernel⟩
theorem ok__law_things (T : Tx K mg) : Has P w K mg base CX0 2 "_law_things" ["script", "start", "many"] (spTs K) := by
  obtain ⟨fd, F⟩ := T.f__law_things
  have G__law_cell_at := ok__law_cell_at (P := P) (w := w) (base := base) T
  refine ⟨T.g__law_things, fd, F.ok sc__law_things (fun vs H Q E h => ?_) (fun cdv A outer s H vs Q E hr h => ⟨_, PSs.nox (pss_cons (ps_set (i := 3) sc__law_things.nd rfl (.inl rfl) (pe_ix (r := rIxL K) ix_list (pe_lst (pa_cons pe_int (pa_cons pe_int (pa_cons (pe_op op_pow pe_int pe_int) pa_nil)))) (pe_op op_mod (pe_f G__law_cell_at (hr.mono (by decide)) rfl (pa_cons (pv 0) (pa_cons (pv 1) pa_nil))) pe_int) (fun _ _ => rfl)))
      (pss_cons (ps_set (i := 4) sc__law_things.nd rfl (.inl rfl) (pe_lst pa_nil))
      (pss_cons (ps_for PassesOwn.never rfl (pi_range1 rfl T.b_range (pa_cons (pv 2) pa_nil)) (pg_name (i := 5) sc__law_things.nd rfl (.inl rfl)) (pss_cons (ps_set (i := 6) sc__law_things.nd rfl (.inl rfl) (pe_f G__law_cell_at (hr.mono (by decide)) rfl (pa_cons (pv 0) (pa_cons (pe_op op_add (pe_op op_add (pv 1) pe_int) (pv 5)) pa_nil))))
      (pss_one (ps_expr (pe_bm PySem.F.plainAttrs_list PySem.F.slot_list_append PySem.F.type_list_append mt_append (pv 4) (pa_cons (pe_tup (pa_cons (pe_op op_add pe_int (pe_op op_mod (pe_op op_fdiv (pv 6) pe_int) (pv 3))) (pa_cons (pe_cmpR op_lt (pe_op op_mod (pv 6) pe_int) pe_int (nomark _)) pa_nil))) pa_nil))))))
      (pss_one (ps_ret (pv 4)))))), ?_⟩), F.bindsN fun _ _ _ _ _ _ us hl => match us, hl with | [_, _, _], _ => rfl, F.kp⟩
  · exact spL.len (n := 3) (fun _ => rfl) h
  · obtain ⟨⟨ns, start, m⟩, ⟨h0, h1, h2, hl⟩, hv0, q⟩ := h
    dsimp only at h0 h1 h2 hl hv0 q
    obtain ⟨v, u, t, rfl, hv, hu, ht⟩ := dpa3 hv0
    cases dp_int.mp hu
    cases dp_int.mp ht
    have b1 := Int.emod_nonneg (cell ns start) (show (3 : Int) ≠ 0 by decide)
    have b2 := Int.emod_lt_of_pos (cell ns start) (show (0 : Int) < 3 by decide)
    obtain ⟨mo1, mo2⟩ := ltMost_ok ns start
    refine' w_asg (K := K) (ed_op (en_lst ?a (by decide)).toD ?b (rd_ixL (atI_ints (ns := [20, 4, 1000000000]) b1 b2))) (fun v1 H1 x1 hm => ?_)
    case a => walk_at "eds"
    case b => walk_at "ed"
    have hm' : Dp K H1 v1 (.int (ltMost ns start)) := hm
    cases dp_int.mp hm'
    refine' w_asgN (K := K) (ds := []) (en_lst eds_nil (by decide)) (fun v2 H2 x2 hL => ?_)
    obtain ⟨l, xs, rfl, l0, l1, l2⟩ := hL
    cases l2
    have e2 := x1.trans x2
    have lH : H l = none := Evl.fresh_back x1 l0
    refine' w_forR (K := K) (n := m) ?a (by omega) (fun i σ H' => ∃ a b, σ = [some v, some (.int start), some (.int m), some (.int (ltMost ns start)), some (.ref l), a, b] ∧ Ex H H' ∧ ∃ acc, H' l = some (.lst acc) ∧ DpAll K H' acc ((List.range i).map fun k : Nat => eT (lawThing ns start k)) ∧ acc.length = i) (fun H3 x3 => ⟨none, none, rfl, e2.trans x3, [], x3 _ _ l1, .nil, rfl⟩) ?_ ?_
    case a => walk_at "ed"
    · rintro i σ H' hi ⟨a, b, rfl, x3, acc, hA, hD, hlen⟩
      refine' w_asg (K := K) (d := .int (cell ns (start + 1 + i))) ?t (fun v1 H4 x4 h1 => ?_)
      case t => walk_at "ed"
      cases dp_int.mp h1
      have hA4 := x4 _ _ hA
      refine ⟨_, rfl, .inl ⟨rfl, _, SqL.of hA4⟩, ?_⟩
      have mp : 0 < ltMost ns start := mo1
      have te : EvD K (tTup (tCons (tOp (rI0 fun i j => .int (i + j)) (tC (.int 1)) (tOp (rI (fun _ j => 0 < j) fun i j => .int (i % j)) (tOp (rI CDiv fun i j => .int (i / j)) (tVar 6) (tC (.int 3))) (tVar 3))) (tCons (tOp (rI0 fun i j => .bl (decide (i < j))) (tOp (rI (fun _ j => 0 < j) fun i j => .int (i % j)) (tVar 6) (tC (.int 3))) (tC (.int 2))) tNil))) [some v, some (.int start), some (.int m), some (.int (ltMost ns start)), some (.ref l), some (.int (i : Int)), some (.int (cell ns (start + 1 + i)))] H4 (eT (lawThing ns start i)) := by
        refine (?t : EvD K _ _ _ (.tuple [_, _]))
        walk_at "ed"
      refine te H4 (Evl.Ex.refl H4) _ fun v5 H5 x5 h5 => ?_
      have hA5 := x5 _ _ hA4
      have hz : acc.length < sizeLine := Nat.lt_of_le_of_lt (show acc.length ≤ 100000 by omega) (by decide)
      refine ⟨l, acc, v5, rfl, rfl, hA5, hz, _, _, rfl, ((x3.trans x4).trans x5).mut lH, acc ++ [v5], upd_same, ?_, by rw [List.length_append, hlen]; rfl⟩
      have u5 : Up H5 (upd H5 l (.lst (acc ++ [v5]))) := Up.lst hA5
      rw [List.range_succ, List.map_append]
      exact dpa_snoc (dpa_up u5 _ _ (noLs_map (fun _ => noL_eT _) _) (dpa_mono (x4.trans x5) _ _ hD)) (dp_up u5 _ _ (noL_eT _) h5)
    · rintro σ H' ⟨a, b, rfl, x3, acc, hA, hD, hlen⟩
      refine ⟨_, rfl, q _ H' x3 ⟨l, acc, rfl, lH, hA, ?_⟩⟩
      unfold lawThings
      rw [List.map_map]
      exact hD
theorem sc__law_night : FnScope ["script", "most", "many", "room"] ["script", "most"] (defScope s__law_night) := ⟨rfl, rfl, rfl, by decide +kernel, rfl, by decide +kernel, by decide +kernel⟩
theorem ok__law_night (T : Tx K mg) : Has P w K mg base CX0 3 "_law_night" ["script", "most"] (spNt K) := by
  obtain ⟨fd, F⟩ := T.f__law_night
  have G__law_quarrels := ok__law_quarrels (P := P) (w := w) (base := base) T
  have G__law_things := ok__law_things (P := P) (w := w) (base := base) T
  have G__law_cell_at := ok__law_cell_at (P := P) (w := w) (base := base) T
  refine ⟨T.g__law_night, fd, F.ok sc__law_night (fun vs H Q E h => ?_) (fun cdv A outer s H vs Q E hr h => ⟨_, PSs.nox (pss_cons (ps_set (i := 2) sc__law_night.nd rfl (.inl rfl) (pe_op op_add pe_int (pe_op op_mod (pe_f G__law_cell_at (hr.mono (by decide)) rfl (pa_cons (pv 0) (pa_cons pe_int pa_nil))) (pv 1))))
      (pss_cons (ps_if (pt_cmpR op_eq (pe_op op_mod (pe_op op_fdiv (pe_f G__law_cell_at (hr.mono (by decide)) rfl (pa_cons (pv 0) (pa_cons pe_int pa_nil))) pe_int) pe_int) pe_int (nomark _)) (pss_one (ps_set (i := 2) sc__law_night.nd rfl (.inl rfl) (pv 1))) pss_nil)
      (pss_cons (ps_set (i := 3) sc__law_night.nd rfl (.inl rfl) (pe_ix (r := rIxL K) ix_list (pe_lst (pa_cons pe_int (pa_cons pe_int (pa_cons pe_int (pa_cons pe_int pa_nil))))) (pe_op op_mod (pe_f G__law_cell_at (hr.mono (by decide)) rfl (pa_cons (pv 0) (pa_cons pe_int pa_nil))) pe_int) (fun _ _ => rfl)))
      (pss_one (ps_ret (pe_tup (pa_cons (pe_f G__law_things (hr.mono (by decide)) rfl (pa_cons (pv 0) (pa_cons pe_int (pa_cons (pv 2) pa_nil)))) (pa_cons (pv 3) (pa_cons (pe_f G__law_quarrels (hr.mono (by decide)) rfl (pa_cons (pv 0) (pa_cons pe_int (pa_cons (pv 2) pa_nil)))) pa_nil))))))))), ?_⟩), F.bindsN fun _ _ _ _ _ _ us hl => match us, hl with | [_, _], _ => rfl, F.kp⟩
  · obtain ⟨x, _, h1, _⟩ := h
    exact dpa_len h1
  · obtain ⟨⟨ns, most⟩, ⟨h0, h1, hl⟩, hv0, q⟩ := h
    dsimp only at h0 h1 hl hv0 q
    obtain ⟨v, u, rfl, hv, hu⟩ := dpa2 hv0
    cases dp_int.mp hu
    have a1 := Int.emod_nonneg (cell ns 0) (show most ≠ 0 by omega)
    have a2 := Int.emod_lt_of_pos (cell ns 0) (show 0 < most by omega)
    have a3 : 0 < most := by omega
    obtain ⟨m1, m2⟩ := lawMany_le (ns := ns) h0
    refine' w_asg (K := K) (d := .int (1 + cell ns 0 % most)) ?t (fun v1 H1 x1 h1 => ?_)
    case t => walk_at "ed"
    cases dp_int.mp h1
    have go : ∀ H2, Ex H1 H2 → tSeq (tAsg (tOp (rIxL K) (tLst (tCons (tC (.int 2)) (tCons (tC (.int 3)) (tCons (tC (.int 2)) (tCons (tC (.int 1)) tNil))))) (tOp (rI (fun _ j => 0 < j) fun i j => .int (i % j)) (tCall (spCell K) [] E0 (tCons (tVar 0) (tCons (tC (.int 1)) tNil))) (tC (.int 4)))) (gName 3))
        (tRet (tTup (tCons (tCall (spTs K) [] E0 (tCons (tVar 0) (tCons (tC (.int 2)) (tCons (tVar 2) tNil)))) (tCons (tVar 3) (tCons (tCall (spQs K) [] E0 (tCons (tVar 0) (tCons (tC (.int 10)) (tCons (tVar 2) tNil)))) tNil))))) { nx := fun x H' => Q V.non H', rt := Q } [some v, some (.int most), some (.int (lawMany ns most)), none] H2 := fun H2 x2 => by
      have b1 := Int.emod_nonneg (cell ns 1) (show (4 : Int) ≠ 0 by decide)
      have b2 := Int.emod_lt_of_pos (cell ns 1) (show (0 : Int) < 4 by decide)
      refine' w_asg (K := K) (ed_op (en_lst ?a (by decide)).toD ?b (rd_ixL (atI_ints (ns := [2, 3, 2, 1]) b1 b2))) (fun v1 H3 x3 hm => ?_)
      case a => walk_at "eds"
      case b => walk_at "ed"
      have hm' : Dp K H3 v1 (.int (lawRoom ns)) := hm
      cases dp_int.mp hm'
      have t1 : EvN K (tCall (spTs K) [] E0 (tCons (tVar 0) (tCons (tC (.int 2)) (tCons (tVar 2) tNil)))) [some v, some (.int most), some (.int (lawMany ns most)), some (.int (lawRoom ns))] H3 ((lawThings ns 2 (lawMany ns most)).map eT) := by
        refine' en_call (x := (ns, 2, lawMany ns most)) ⟨(by show (0 : Int) ≤ 2; decide), m1, (by show lawMany ns most ≤ 1000; omega), hl⟩ ?a
        case a => walk_at "eds"
      have t2 : EvN K (tCall (spQs K) [] E0 (tCons (tVar 0) (tCons (tC (.int 10)) (tCons (tVar 2) tNil)))) [some v, some (.int most), some (.int (lawMany ns most)), some (.int (lawRoom ns))] H3 ((lawQuarrels ns 10 (lawMany ns most)).map eQ) := by
        refine' en_call (x := (ns, 10, lawMany ns most)) ⟨(by show (0 : Int) ≤ 10; decide), m1, (by show lawMany ns most ≤ 1000; omega), hl⟩ ?a
        case a => walk_at "eds"
      refine t1 H3 (Evl.Ex.refl H3) _ fun t4 H4 x4 h4 => ⟨_, rfl, t2 H4 x4 _ fun q5 H5 x5 h5 => ?_⟩
      refine ⟨by show 3 ≤ sizeLine; decide, fun p hp => ?_⟩
      have e6 := Evl.Ex.new (o := HO.tup [t4, .int (lawRoom ns), q5]) hp
      have ee := (x1.trans x2).trans x3
      exact q _ _ (((ee.trans x4).trans x5).trans e6) ⟨p, t4, q5, rfl, SqT.of upd_same, ((h4.mono x5).mono e6).back ee, (h5.mono e6).back (ee.trans x4)⟩
    refine' w_when K ?t (fun hb H2 x2 => ?_) (fun hb H2 x2 => ?_)
    case t => walk_at "et"
    · have hb' : cell ns 0 / 8 % 2 = 1 := by simpa using hb
      refine' w_asg1 (K := K) (d := .int most) ?t (fun v1 H3 x3 h1 => ?_)
      case t => walk_at "ed"
      cases dp_int.mp h1
      have e : lawMany ns most = most := by unfold lawMany; rw [if_pos hb']
      have g := go H3 (x2.trans x3)
      rw [e] at g
      exact g
    · have hb' : ¬ cell ns 0 / 8 % 2 = 1 := by simpa using hb
      have e : lawMany ns most = 1 + cell ns 0 % most := by unfold lawMany; rw [if_neg hb']
      have g := go H2 x2
      rw [e] at g
      exact g
end

end Fy

namespace Fy
open PySem PySem.Spec PyProof.Rows L2
/-! ### a night's making and its methods, by data -/
section
variable {X : Cx} {p pos : Pos} {e : Expr} {es : List Expr} {t : TA}
theorem pe_Night {K : PySem.W.Frag} (T : Tx K X.mg) (hr : Room 3 X.A) (hg : Gl X "Night") (ha : PA X (e :: es) t) (he : starEach (e :: es) X.env = (false, eval e X.env) :: starEach es X.env := by rfl) (hpl : (backTo pos (starEach es X.env)).any (·.1) = false := by rfl) (hK : K = X.K := by rfl) :
    PE X (.Call (.Name "Night" p) (e :: es) [] pos) (tMake (He.ga K "Night") (spInit K) [] E0 t) := by
  subst hK
  obtain ⟨fd, G, b⟩ := ok_Night___init__ (P := X.prog) (w := X.w) (base := X.base) T
  exact pe_make T.mkr G hr hg T.g_Night b .nil (by first | exact passL | exact Fy.passN) ha (by decide) he hpl
end
section
variable {K : PySem.W.Frag} {σ : L2.St} {H H1 : Hp} {tr : TA} {ta : TE} {C : Addr} {n : Nt} {v : V} {i : Nat} {D : Ends} {tz : TS}
/-- what a new object and its own dict leave -/
theorem ex_made {x dx : Addr} (nx : H x = none) (ndx : H dx = none) : Ex H (upd (upd H dx (.own x)) x (.ins C dx [])) := fun b o e => by
  rw [upd_ne (ne_of_none e nx), upd_ne (ne_of_none e ndx)]
  exact e
theorem ev_night (h : EvDs K tr σ H [.list (n.things.map eT), .int n.room, .list (n.quarrels.map eQ)]) (ok : n.ok = true) (H1 : Hp) (x1 : Ex H H1) (Q : VK) (q : ∀ v H2, Ex H1 H2 → NightI K H1 H2 v n → Q v H2) :
    tMake (He.ga K "Night") (spInit K) [] E0 tr σ H1 Q := h H1 x1 _ fun vs H2 x2 hvs => by
  obtain ⟨t, u, s, rfl, ht, hu, hs⟩ : ∃ t u s, vs = [t, u, s] ∧ Dp K H2 t (.list (n.things.map eT)) ∧ Dp K H2 u (.int n.room) ∧ Dp K H2 s (.list (n.quarrels.map eQ)) := by
    cases hvs with
    | cons a b => cases b with
      | cons b c => cases c with
        | cons c d => cases d; exact ⟨_, _, _, rfl, a, b, c⟩
  cases dp_int.mp hu
  intro x dx nx ndx nex
  have e0 := ex_made (C := He.ga K "Night") nx ndx
  have okT : thingsOk n.things = true := by unfold Nt.ok at ok; simp only [Bool.and_eq_true] at ok; exact ok.1
  have okR : roomOk n.room = true := by unfold Nt.ok at ok; simp only [Bool.and_eq_true] at ok; exact ok.2.1
  have okQ : quarrelsOk n.things.length n.quarrels = true := by unfold Nt.ok at ok; simp only [Bool.and_eq_true] at ok; exact ok.2.2
  refine ⟨x, dx, t, s, n, rfl, upd_same, dp_mono e0 _ _ ht, dp_mono e0 _ _ hs, fun H' _ kp hN => ⟨rfl, q _ H' (fun b o e => ?_) ?_⟩, fun H' c => ?_, fun H' _ c => ?_, fun H' _ _ c => ?_⟩
  · have e2 := x2 b o e
    exact kp b o (e0 b o e2) (ne_of_none e2 nx)
  · exact hN.back (x2.trans e0)
  · rw [okT] at c; cases c
  · rw [okR] at c; cases c
  · rw [okQ] at c; cases c
theorem w_asgNight {i : Nat} (h : EvDs K tr σ H [.list (n.things.map eT), .int n.room, .list (n.quarrels.map eQ)]) (ok : n.ok = true) (k : ∀ v H2, Ex H H2 → NightI K H H2 v n → tz D (σ.set i (some v)) H2) :
    tSeq (tAsg (tMake (He.ga K "Night") (spInit K) [] E0 tr) (gName i)) tz D σ H := ev_night h ok H (Evl.Ex.refl H) _ fun v H2 x hv => k v H2 x hv
/-- the receiver of a method: a night in a slot -/
theorem en_things (hi : σ[i]? = some (some v)) (hN : NightAt K H v n) : EvN K (tMeth (He.ga K "Night") "things" (spNThings K) [] E0 (tVar i) tNil) σ H (n.things.map eT) := fun H1 x Q q => by
  have N1 := hN.mono x
  obtain ⟨p, dx, a, b, ts, qs, rfl, h1, _⟩ := N1.at_
  exact ⟨_, hi, p, dx, _, rfl, h1, nf_no _ _ _ (by decide +kernel) (by decide +kernel) (by decide +kernel), _, n, rfl, N1, q⟩
theorem en_quarrels (hi : σ[i]? = some (some v)) (hN : NightAt K H v n) : EvN K (tMeth (He.ga K "Night") "quarrels" (spNQuarrels K) [] E0 (tVar i) tNil) σ H (n.quarrels.map eQ) := fun H1 x Q q => by
  have N1 := hN.mono x
  obtain ⟨p, dx, a, b, ts, qs, rfl, h1, _⟩ := N1.at_
  exact ⟨_, hi, p, dx, _, rfl, h1, nf_no _ _ _ (by decide +kernel) (by decide +kernel) (by decide +kernel), _, n, rfl, N1, q⟩
theorem ed_room (hi : σ[i]? = some (some v)) (hN : NightAt K H v n) : EvD K (tMeth (He.ga K "Night") "room" (spNRoom K) [] E0 (tVar i) tNil) σ H (.int n.room) := fun H1 x Q q => by
  have N1 := hN.mono x
  obtain ⟨p, dx, a, b, ts, qs, rfl, h1, _⟩ := N1.at_
  exact ⟨_, hi, p, dx, _, rfl, h1, nf_no _ _ _ (by decide +kernel) (by decide +kernel) (by decide +kernel), _, n, rfl, N1, fun H2 x2 => q _ H2 x2 (.int _)⟩
theorem ed_begins (hi : σ[i]? = some (some v)) (hN : NightAt K H v n) (hl : n.things.length ≤ 1000) : EvD K (tMeth (He.ga K "Night") "begins" (spNBegins K) [] E0 (tVar i) tNil) σ H (eS (rng n.things.length, 0)) := fun H1 x Q q => by
  have N1 := hN.mono x
  obtain ⟨p, dx, a, b, ts, qs, rfl, h1, _⟩ := N1.at_
  exact ⟨_, hi, p, dx, _, rfl, h1, nf_no _ _ _ (by decide +kernel) (by decide +kernel) (by decide +kernel), _, n, rfl, N1, hl, q⟩
theorem ed_ends (hi : σ[i]? = some (some v)) (hN : NightAt K H v n) : EvD K (tMeth (He.ga K "Night") "ends" (spNEnds K) [] E0 (tVar i) tNil) σ H (eS ([], 1)) := fun H1 x Q q => by
  have N1 := hN.mono x
  obtain ⟨p, dx, a, b, ts, qs, rfl, h1, _⟩ := N1.at_
  exact ⟨_, hi, p, dx, _, rfl, h1, nf_no _ _ _ (by decide +kernel) (by decide +kernel) (by decide +kernel), _, n, rfl, N1, q⟩
theorem ed_npeace {g : List Int} (hi : σ[i]? = some (some v)) (hN : NightAt K H v n) (hg : EvD K ta σ H (eI g)) : EvD K (tMeth (He.ga K "Night") "peace" (spNPeace K) [] E0 (tVar i) (tCons ta tNil)) σ H (.bool (peace n.quarrels g)) := fun H1 x Q q => by
  have N1 := hN.mono x
  obtain ⟨p, dx, a, b, ts, qs, rfl, h1, _⟩ := N1.at_
  refine ⟨_, hi, p, dx, _, rfl, h1, nf_no _ _ _ (by decide +kernel) (by decide +kernel) (by decide +kernel), hg H1 x _ fun u H2 x2 h2 => ?_⟩
  exact ⟨_, n, u, g, rfl, N1.mono x2, h2, fun H3 x3 => q _ H3 (x2.trans x3) (.bl _)⟩
theorem ed_nover {g : List Int} (hi : σ[i]? = some (some v)) (hN : NightAt K H v n) (hl : n.things.length ≤ 1000) (hg : EvD K ta σ H (eI g)) : EvD K (tMeth (He.ga K "Night") "over_there" (spNOver K) [] E0 (tVar i) (tCons ta tNil)) σ H (eI (restOf g n.things.length)) := fun H1 x Q q => by
  have N1 := hN.mono x
  obtain ⟨p, dx, a, b, ts, qs, rfl, h1, _⟩ := N1.at_
  refine ⟨_, hi, p, dx, _, rfl, h1, nf_no _ _ _ (by decide +kernel) (by decide +kernel) (by decide +kernel), hg H1 x _ fun u H2 x2 h2 => ?_⟩
  exact ⟨_, n, u, g, rfl, N1.mono x2, h2, hl, fun v3 H3 x3 h3 => q v3 H3 (x2.trans x3) h3⟩
variable {d : PyData} {sp : Sp} {ms : Str} {ds : List PyData}
theorem i_Things {K' : PySem.W.Frag} (h : EvD K (tMeth C ms (spNThings K') [] E0 ta tr) σ H d) : EvD K (tMeth C ms (spNThings K') [] E0 ta tr) σ H d := h
theorem i_Quarrels {K' : PySem.W.Frag} (h : EvD K (tMeth C ms (spNQuarrels K') [] E0 ta tr) σ H d) : EvD K (tMeth C ms (spNQuarrels K') [] E0 ta tr) σ H d := h
theorem i_Room {K' : PySem.W.Frag} (h : EvD K (tMeth C ms (spNRoom K') [] E0 ta tr) σ H d) : EvD K (tMeth C ms (spNRoom K') [] E0 ta tr) σ H d := h
theorem i_Begins {K' : PySem.W.Frag} (h : EvD K (tMeth C ms (spNBegins K') [] E0 ta tr) σ H d) : EvD K (tMeth C ms (spNBegins K') [] E0 ta tr) σ H d := h
theorem i_Ends {K' : PySem.W.Frag} (h : EvD K (tMeth C ms (spNEnds K') [] E0 ta tr) σ H d) : EvD K (tMeth C ms (spNEnds K') [] E0 ta tr) σ H d := h
theorem i_Peace {K' : PySem.W.Frag} (h : EvD K (tMeth C ms (spNPeace K') [] E0 ta tr) σ H d) : EvD K (tMeth C ms (spNPeace K') [] E0 ta tr) σ H d := h
theorem i_Over {K' : PySem.W.Frag} (h : EvD K (tMeth C ms (spNOver K') [] E0 ta tr) σ H d) : EvD K (tMeth C ms (spNOver K') [] E0 ta tr) σ H d := h
end
section
variable {K : PySem.W.Frag} {σ : L2.St} {H : Hp} {ta tb : TE} {D : Ends} {t tz : TS}
/-- tuple(range(n)) -/
theorem ed_tupRg {n : Nat} (h : EvD K ta σ H (.int (n : Int))) (hn : n ≤ 1000) : EvD K (tTupRg (tRg1 ta)) σ H (eI (rng n)) := fun H1 x Q q => h H1 x _ fun v H2 x2 h2 =>
  ⟨(n : Int), dp_int.mp h2, RgOk.of_le (by omega) (by omega) (by omega) (by omega), fun p hp => q _ _ (x2.trans (Evl.Ex.new hp)) (dp_eI.mpr ⟨p, rfl, SqT.of (by rw [upd_same, rgV_eq])⟩)⟩
theorem i_TupRg {d : PyData} {u : L2.St → Hp → (Int → Int → Hp → Prop) → Prop} (h : EvD K (tTupRg u) σ H d) : EvD K (tTupRg u) σ H d := h
/-- the ways ahead of tz come together in R -/
theorem w_join (R : L2.St → Hp → Prop) (go : ∀ σ' H', R σ' H' → tz D σ' H') (m : (∀ σ' H', R σ' H' → tz D σ' H') → tSeq t tz D σ H) : tSeq t tz D σ H := m go
end
section
variable {K : PySem.W.Frag} {σ : L2.St} {H : Hp} {te : TE} {D : Ends} {tz : TS}
/-- a term that gives what R tells -/
def EvX (te : TE) (σ : L2.St) (H : Hp) (R : Hp → V → Hp → Prop) : Prop := ∀ H1, Ex H H1 → ∀ Q : VK, (∀ v H2, Ex H1 H2 → R H1 v H2 → Q v H2) → te σ H1 Q
theorem w_asgX {R : Hp → V → Hp → Prop} {i : Nat} (h : EvX te σ H R) (k : ∀ v H1, Ex H H1 → R H v H1 → tz D (σ.set i (some v)) H1) : tSeq (tAsg te (gName i)) tz D σ H := h H (Evl.Ex.refl H) _ fun v H1 x hv => k v H1 x hv
theorem w_asgAt {d : PyData} {g : TG} (h : EvD K te σ H d) (k : ∀ v H1, Ex H H1 → Dp K H1 v d → g v σ H1 (fun σ2 H2 => tz D σ2 H2)) : tSeq (tAsg te g) tz D σ H := h H (Evl.Ex.refl H) _ fun v H1 x hv => k v H1 x hv
/-- a term that gives the address l -/
def EvA1 (te : TE) (σ : L2.St) (H : Hp) (l : Addr) : Prop := ∀ H1, Ex H H1 → ∀ Q : VK, (∀ H2, Ex H1 H2 → Q (.ref l) H2) → te σ H1 Q
theorem ea_var {i : Nat} {l : Addr} (h : σ[i]? = some (some (.ref l))) : EvA1 (tVar i) σ H l := fun H1 x _ q => ⟨_, h, q H1 (Evl.Ex.refl H1)⟩
theorem ea_ixL {ta tb : TE} {l p : Addr} {i : Int} {xs : List V} (h : EvA1 ta σ H l) (hi : EvD K tb σ H (.int i)) (hs : SqL K H l xs) (hx : atI xs i = some (.ref p)) : EvA1 (tOp (rIxL K) ta tb) σ H p := fun H1 x _ q =>
  h H1 x _ fun H2 x2 => hi H2 (x.trans x2) _ fun v H3 x3 h3 => ⟨l, xs, i, .ref p, rfl, dp_int.mp h3, Evl.ex_l ((x.trans x2).trans x3) hs, hx, q H3 (x2.trans x3)⟩
theorem w_app {to : TE} {d : PyData} {l : Addr} {xs : List V} (h : EvA1 to σ H l) (he : EvD K te σ H d) (hx : H l = some (.lst xs)) (hl : xs.length < 100000) (k : ∀ u H1, Ex H H1 → Dp K H1 u d → H1 l = some (.lst xs) → tz D σ (upd H1 l (.lst (xs ++ [u])))) : tSeq (tDrop (tBM K "list" rAppend to (tCons te tNil))) tz D σ H :=
  h H (Evl.Ex.refl H) _ fun H1 x => ⟨.inl ⟨rfl, _, SqL.of (x _ _ hx)⟩, he H1 x _ fun u H2 x2 h3 => ⟨l, xs, u, rfl, rfl, x2 _ _ (x _ _ hx), Evl.sz_lt hl, k u H2 (x.trans x2) h3 (x2 _ _ (x _ _ hx))⟩⟩
theorem w_app1 {to : TE} {d : PyData} {l : Addr} {xs : List V} (h : EvA1 to σ H l) (he : EvD K te σ H d) (hx : H l = some (.lst xs)) (hl : xs.length < 100000) (k : ∀ u H1, Ex H H1 → Dp K H1 u d → H1 l = some (.lst xs) → D.nx σ (upd H1 l (.lst (xs ++ [u])))) : tDrop (tBM K "list" rAppend to (tCons te tNil)) D σ H :=
  h H (Evl.Ex.refl H) _ fun H1 x => ⟨.inl ⟨rfl, _, SqL.of (x _ _ hx)⟩, he H1 x _ fun u H2 x2 h3 => ⟨l, xs, u, rfl, rfl, x2 _ _ (x _ _ hx), Evl.sz_lt hl, k u H2 (x.trans x2) h3 (x2 _ _ (x _ _ hx))⟩⟩
/-- a fresh list's change is seen by nobody -/
theorem w_appN {to : TE} {ds : List PyData} {d : PyData} (h : EvN K to σ H ds) (he : EvD K te σ H d) (hl : ds.length < 100000) (k : ∀ H1, Ex H H1 → tz D σ H1) : tSeq (tDrop (tBM K "list" rAppend to (tCons te tNil))) tz D σ H :=
  h H (Evl.Ex.refl H) _ fun v H1 x hv => by
    obtain ⟨p, xs, rfl, n, h1, h2⟩ := hv
    refine ⟨.inl ⟨rfl, _, SqL.of h1⟩, he H1 x _ fun u H2 x2 h3 => ⟨p, xs, u, rfl, rfl, x2 _ _ h1, Evl.sz_lt (by rw [dpa_len h2]; exact hl), k _ ((x.trans x2).mut n)⟩⟩
theorem w_clrN {to : TE} {ds : List PyData} (h : EvN K to σ H ds) (k : ∀ H1, Ex H H1 → D.nx σ H1) : tDrop (tBM0 K "list" rClear to) D σ H :=
  h H (Evl.Ex.refl H) _ fun v H1 x hv => by
    obtain ⟨p, xs, rfl, n, h1, h2⟩ := hv
    exact ⟨.inl ⟨rfl, _, SqL.of h1⟩, p, xs, rfl, rfl, h1, k _ (x.mut n)⟩
theorem EvX.ret {R : Hp → V → Hp → Prop} (h : EvX te σ H R) (k : ∀ v H1, Ex H H1 → R H v H1 → D.rt v H1) : tRet te D σ H := h H (Evl.Ex.refl H) _ fun v H1 x hv => k v H1 x hv
/-- a list of two lists of its own -/
def Pair2 (K : PySem.W.Frag) (ds es : List PyData) (H0 : Hp) (v : V) (H : Hp) : Prop := ∃ p l k xs ys, v = .ref p ∧ H0 p = none ∧ H p = some (.lst [.ref l, .ref k]) ∧ H0 l = none ∧ H l = some (.lst xs) ∧ DpAll K H xs ds ∧ H0 k = none ∧ H k = some (.lst ys) ∧ DpAll K H ys es ∧ l ≠ k ∧ p ≠ l ∧ p ≠ k
theorem ex_pair2 {ta tb : TE} {ds es : List PyData} (h1 : EvN K ta σ H ds) (h2 : EvN K tb σ H es) : EvX (tLst (tCons ta (tCons tb tNil))) σ H (Pair2 K ds es) := fun H1 x Q q =>
  h1 H1 x _ fun v H2 x2 h4 => h2 H2 (x.trans x2) _ fun u H3 x3 h5 => ⟨by show 2 ≤ sizeLine; decide, fun p hp => by
    obtain ⟨l, xs, rfl, n1, e1, d1⟩ := h4
    obtain ⟨k, ys, rfl, n2, e2, d2⟩ := h5
    have x4 := Evl.Ex.new (o := HO.lst [.ref l, .ref k]) hp
    exact q _ _ ((x2.trans x3).trans x4) ⟨p, l, k, xs, ys, rfl, Evl.fresh_back (x2.trans x3) hp, upd_same, n1, x4 _ _ (x3 _ _ e1), dpa_mono (x3.trans x4) _ _ d1, Evl.fresh_back x2 n2, x4 _ _ e2, dpa_mono x4 _ _ d2,
      ne_of_none e1 n2, (ne_of_none (x3 _ _ e1) hp).symm, (ne_of_none e2 hp).symm⟩⟩
end

end Fy

namespace Fy
open PySem PySem.Spec PyProof.Rows L2
/-! ### a night made where a suite catches what is raised -/
theorem pe_NightS {X : Cx} {p pos : Pos} {e : Expr} {es : List Expr} {t : TA} {W : WX} {K : PySem.W.Frag} (T : Tx K X.mg) (hr : Room 3 X.A) (hg : Gl X "Night") (tk : L2N.Takes X W) (ha : PA X (e :: es) t) (he : starEach (e :: es) X.env = (false, eval e X.env) :: starEach es X.env := by rfl) (hpl : (backTo pos (starEach es X.env)).any (·.1) = false := by rfl) (hK : K = X.K := by rfl) :
    PE X (.Call (.Name "Night" p) (e :: es) [] pos) (tMakeS (He.ga K "Night") (spInit K) (WE W) t) := by
  subst hK
  obtain ⟨fd, G, b⟩ := ok_Night___init__ (P := X.prog) (w := X.w) (base := X.base) T
  exact pe_makeS T.mkr G hr hg T.g_Night b (fun σ => L2N.passAt tk σ) ha (by decide) he hpl
/-- what the making comes to -/
theorem make_out {K : PySem.W.Frag} {σ : L2.St} {H : Hp} {E : L2.St → XK} {tr : TA} {n : Nt} (h : EvDs K tr σ H [.list (n.things.map eT), .int n.room, .list (n.quarrels.map eQ)]) (Q : VK)
    (q0 : n.ok = true → ∀ v H2, Ex H H2 → NightI K H H2 v n → Q v H2)
    (q1 : thingsOk n.things = false → ∀ H2, Ex H H2 → E σ (.ref (He.ga K "BadThing")) none H2)
    (q2 : thingsOk n.things = true → roomOk n.room = false → ∀ H2, Ex H H2 → E σ (.ref (He.ga K "BadRoom")) none H2)
    (q3 : thingsOk n.things = true → roomOk n.room = true → quarrelsOk n.things.length n.quarrels = false → ∀ H2, Ex H H2 → E σ (.ref (He.ga K "BadQuarrel")) none H2) :
    tMakeS (He.ga K "Night") (spInit K) E tr σ H Q := h H (Evl.Ex.refl H) _ fun vs H2 x2 hvs => by
  obtain ⟨t, u, s, rfl, ht, hu, hs⟩ := dpa3 hvs
  cases dp_int.mp hu
  intro x dx nx ndx nex
  have e0 := ex_made (C := He.ga K "Night") nx ndx
  refine ⟨x, dx, t, s, n, rfl, upd_same, dp_mono e0 _ _ ht, dp_mono e0 _ _ hs, fun H' ok kp hN => ⟨rfl, q0 ok _ H' (fun b o e => ?_) (hN.back (x2.trans e0))⟩, fun H' c ex => q1 c H' ((x2.trans e0).trans ex), fun H' a c ex => q2 a c H' ((x2.trans e0).trans ex), fun H' a b c ex => q3 a b c H' ((x2.trans e0).trans ex)⟩
  have e2 := x2 b o e
  exact kp b o (e0 b o e2) (ne_of_none e2 nx)

end Fy

namespace Fy
open PySem PySem.Spec PyProof.Rows L2
/-! ### texts, in plain Lean -/
def sg (x : Str) : List Nat := x.cps.toList
theorem sg_len (x : Str) : (sg x).length = x.length := by simp [sg, Str.length]
theorem sg_inj {x y : Str} (h : sg x = sg y) : x = y := TL.ext_tl h
theorem sg_app (x y : Str) : sg (x ++ y) = sg x ++ sg y := TL.tl_append x y
def isDig (c : Nat) : Bool := decide (48 ≤ c ∧ c ≤ 57)
theorem dig_mem (c : Nat) : decide (c ∈ ("0123456789" : Str).cps.toList) = isDig c := by
  have e : ("0123456789" : Str).cps.toList = [48, 49, 50, 51, 52, 53, 54, 55, 56, 57] := by decide +kernel
  rw [e]
  unfold isDig
  refine decide_eq_decide.mpr ?_
  simp only [List.mem_cons, List.not_mem_nil, or_false]
  omega
theorem one_zero (c : Nat) : decide ((⟨#[c]⟩ : Str) = "0") = decide (c = 48) := by
  have e : ("0" : Str) = ⟨#[48]⟩ := by decide +kernel
  rw [e]
  exact decide_eq_decide.mpr ⟨fun h => by injection h with h; simpa using h, fun h => by rw [h]⟩
def lenOk (x : Str) : Bool := decide ((1 : Int) ≤ (x.length : Int)) && decide ((x.length : Int) ≤ 10)
def zeroAhead (x : Str) : Bool := decide ((sg x).head? = some 48) && !decide (x = "0")
def numOk (x : Str) : Bool := (lenOk x && !zeroAhead x) && (sg x).all isDig
def numV (x : Str) : Int := ((PySem.NumText.digitsVal (sg x) : Nat) : Int)
def numberOf (x : Str) : Option Int := if numOk x = true then some (numV x) else none
def wAt (ws : List Str) (i : Nat) : Str := ws.getD i Str.empty
theorem wAt_get {ws : List Str} {i : Nat} (h : i < ws.length) : ws[i]? = some (wAt ws i) := by
  unfold wAt
  rw [List.getD_eq_getElem?_getD, List.getElem?_eq_getElem h]
  rfl
def rowsS (x : Str) : Bool := decide (x = "rows") || decide (x = "sits")
def thingOf (ws : List Str) : Option (Int × Bool) := if (decide (ws.length = 3) && rowsS (wAt ws 2)) = true then (numberOf (wAt ws 1)).map fun p => (p, decide (wAt ws 2 = "rows")) else none
def keeperOf (w : Str) : Option Int := if w = "-" then some (-1) else numberOf w
def quarrelOf (ws : List Str) : Option (Int × Int × Int) := if (decide (ws.length = 4) && decide (wAt ws 0 = "quarrel")) = true then (keeperOf (wAt ws 3)).bind fun k => (numberOf (wAt ws 1)).bind fun a => (numberOf (wAt ws 2)).map fun b => (a, b, k) else none
def scanW : List (Int × Bool) → List (Int × Int × Int) → List (List Str) → Option (List (Int × Bool) × List (Int × Int × Int))
  | ts, qs, [] => some (ts, qs)
  | ts, qs, ws :: r => if (decide (wAt ws 0 = "thing") && decide (qs = [])) = true then (thingOf ws).bind fun t => scanW (ts ++ [t]) qs r else (quarrelOf ws).bind fun q => scanW ts (qs ++ [q]) r
def lastOk (W : List (List Str)) : Bool := decide (W.getLast? = some [("" : Str)])
def headOk (W : List (List Str)) : Bool := decide ((W.headD []).length = 2) && decide (wAt (W.headD []) 0 = "boat")
def restW (W : List (List Str)) : List (List Str) := (W.drop 1).take (W.length - 2)
def noteOf (W : List (List Str)) : Option Nt := if (lastOk W && headOk W) = true then (scanW [] [] (restW W)).bind fun p => (numberOf (wAt (W.headD []) 1)).bind fun r => if (Nt.mk p.1 r p.2).ok = true then some ⟨p.1, r, p.2⟩ else none else none
def linesW (x : Str) : List (List Str) := (Txt.split x "\n").map fun l => Txt.split l " "
/-! parts of a split -/
theorem nl_tl : TL.tl ("\n" : Str) = [10] := by decide +kernel
theorem bl_tl : TL.tl (" " : Str) = [32] := by decide +kernel
theorem split_nl (x : Str) : (Txt.split x "\n").map sg = TL.spl [10] 0 [] (sg x) := by
  have z := TL.split_spl x "\n" (by rw [nl_tl]; simp) (TL.kind_ok (by decide +kernel))
  rw [nl_tl] at z
  exact z
theorem split_bl (x : Str) : (Txt.split x " ").map sg = TL.spl [32] 0 [] (sg x) := by
  have z := TL.split_spl x " " (by rw [bl_tl]; simp) (TL.kind_ok (by decide +kernel))
  rw [bl_tl] at z
  exact z
theorem spl_parts (s : Nat) : ∀ (l acc : List Nat), (TL.spl [s] 0 acc l).length ≤ l.length + 1 ∧ 1 ≤ (TL.spl [s] 0 acc l).length ∧ ∀ p ∈ TL.spl [s] 0 acc l, p.length ≤ acc.length + l.length ∧ ∀ c ∈ p, c ∈ acc ∨ c ∈ l
  | [], acc => by
    rw [TL.spl_nil]
    exact ⟨Nat.le_refl _, Nat.le_refl _, fun p hp => by rw [List.mem_singleton.mp hp]; exact ⟨Nat.le_add_right _ _, fun c hc => .inl hc⟩⟩
  | c :: r, acc => by
    cases h : TL.pre [s] (c :: r) with
    | true =>
      rw [TL.spl_hit h]
      obtain ⟨a1, a2, a3⟩ := spl_parts s r []
      refine ⟨by rw [List.length_cons, List.length_cons]; show _ + 1 ≤ _; exact Nat.succ_le_succ a1, by rw [List.length_cons]; omega, fun p hp => ?_⟩
      rcases List.mem_cons.mp hp with rfl | hp
      · exact ⟨Nat.le_add_right _ _, fun c hc => .inl hc⟩
      · obtain ⟨this, cs⟩ := a3 p hp
        rw [List.length_cons]
        simp only [List.length_nil] at this
        exact ⟨by omega, fun c hc => .inr (List.mem_cons_of_mem _ ((cs c hc).elim (fun z => nomatch z) id))⟩
    | false =>
      rw [TL.spl_miss h]
      obtain ⟨a1, a2, a3⟩ := spl_parts s r (acc ++ [c])
      refine ⟨by rw [List.length_cons]; omega, a2, fun p hp => ?_⟩
      obtain ⟨this, cs⟩ := a3 p hp
      rw [List.length_append] at this
      rw [List.length_cons]
      simp only [List.length_cons, List.length_nil] at this
      refine ⟨by omega, fun d hd => ?_⟩
      rcases cs d hd with h | h
      · rcases List.mem_append.mp h with h | h
        · exact .inl h
        · rw [List.mem_singleton.mp h]; exact .inr List.mem_cons_self
      · exact .inr (List.mem_cons_of_mem _ h)
theorem okS_iff (x : Str) : PyData.strOk x = true ↔ ∀ c ∈ sg x, c < 0x110000 := by
  unfold PyData.strOk sg
  rw [← Array.all_toList, List.all_eq_true]
  exact ⟨fun h c hc => of_decide_eq_true (h c hc), fun h c hc => decide_eq_true (h c hc)⟩
theorem split_nl_len (x : Str) : (Txt.split x "\n").length ≤ x.length + 1 ∧ 1 ≤ (Txt.split x "\n").length ∧ ∀ p ∈ Txt.split x "\n", p.length ≤ x.length ∧ ∀ c ∈ sg p, c ∈ sg x := by
  obtain ⟨a1, a2, a3⟩ := spl_parts 10 (sg x) []
  rw [← split_nl, List.length_map, sg_len] at a1
  rw [← split_nl, List.length_map] at a2
  rw [← split_nl] at a3
  refine ⟨a1, a2, fun p hp => ?_⟩
  obtain ⟨this, cs⟩ := a3 (sg p) (List.mem_map.mpr ⟨p, hp, rfl⟩)
  rw [sg_len, sg_len] at this
  exact ⟨by simpa using this, fun c hc => (cs c hc).elim (fun z => nomatch z) id⟩
theorem split_bl_len (x : Str) : (Txt.split x " ").length ≤ x.length + 1 ∧ 1 ≤ (Txt.split x " ").length ∧ ∀ p ∈ Txt.split x " ", p.length ≤ x.length ∧ ∀ c ∈ sg p, c ∈ sg x := by
  obtain ⟨a1, a2, a3⟩ := spl_parts 32 (sg x) []
  rw [← split_bl, List.length_map, sg_len] at a1
  rw [← split_bl, List.length_map] at a2
  rw [← split_bl] at a3
  refine ⟨a1, a2, fun p hp => ?_⟩
  obtain ⟨this, cs⟩ := a3 (sg p) (List.mem_map.mpr ⟨p, hp, rfl⟩)
  rw [sg_len, sg_len] at this
  exact ⟨by simpa using this, fun c hc => (cs c hc).elim (fun z => nomatch z) id⟩
/-- words of bounded size -/
def Small (N : Nat) (ws : List Str) : Prop := 1 ≤ ws.length ∧ ws.length ≤ N + 1 ∧ ∀ w ∈ ws, w.length ≤ N ∧ PyData.strOk w = true
theorem small_lines {x : Str} {N : Nat} (h : x.length ≤ N) (hc : PyData.strOk x = true) : ∀ ws ∈ linesW x, Small N ws := fun ws hw => by
  obtain ⟨l, hl, rfl⟩ := List.mem_map.mp hw
  have hx := (okS_iff x).mp hc
  obtain ⟨h1, c1⟩ := (split_nl_len x).2.2 l hl
  obtain ⟨a1, a2, a3⟩ := split_bl_len l
  exact ⟨a2, by omega, fun w hw => ⟨by have := (a3 w hw).1; omega, (okS_iff w).mpr fun c h => hx c (c1 c ((a3 w hw).2 c h))⟩⟩
theorem lines_len (x : Str) : (linesW x).length ≤ x.length + 1 ∧ 1 ≤ (linesW x).length := by
  unfold linesW
  rw [List.length_map]
  exact ⟨(split_nl_len x).1, (split_nl_len x).2.1⟩

end Fy

namespace Fy
open PySem PySem.Spec PyProof.Rows L2
/-! ### texts, by data -/
abbrev rLenS : List V → Hp → VK → Prop := fun xs H Q => ∃ z : Str, xs = [.str z] ∧ z.length ≤ sizeLine ∧ Q (.int z.length) H
abbrev rIntS : List V → Hp → VK → Prop := fun xs H Q => ∃ a n, xs = [.str a] ∧ PySem.intText? a = some n ∧ a.length ≤ 640 ∧ Q (.int n) H
abbrev rStrI : List V → Hp → VK → Prop := fun xs H Q => ∃ i : Int, xs = [.int i] ∧ i.natAbs.log2 < 1920 ∧ Q (.str (toString i)) H
abbrev rAddS : R2 := fun x y H Q => ∃ i j : Str, x = .str i ∧ y = .str j ∧ i.length + j.length ≤ sizeLine ∧ Q (.str (i ++ j)) H
abbrev rSplit : V → List V → Hp → VK → Prop := fun x xs H Q => ∃ a b, x = .str a ∧ xs = [.str b] ∧ (b.length == 0) = false ∧ a.length + 2 ≤ sizeLine ∧ rNewStrs (Txt.split a b) H Q
abbrev rJoin (K : PySem.W.Frag) : V → List V → Hp → VK → Prop := fun x xs H Q => ∃ a p, ∃ ys : List Str, x = .str a ∧ xs = [.ref p] ∧ (SqL K H p (ys.map V.str) ∨ SqT K H p (ys.map V.str)) ∧ (ys.map (·.length)).sum + ys.length * a.length ≤ 16777216 ∧ Q (.str (Txt.join a ys)) H
section
variable {K : PySem.W.Frag} {σ : L2.St} {H : Hp} {ta tb te tl : TE} {D : Ends} {tu tz : TS} {g : TG} {x y : Str} {i : Int}
theorem un65 {k : Nat} {A : Around} (r : Room k A) : A.units + 65 < cLine := by have := r.un; omega
theorem sz5 {n : Nat} (h : n ≤ 100000) : n ≤ sizeLine := Evl.sz_of h
theorem cd_lenS (h : x.length ≤ 100000) : CD K rLenS [.str x] (.int (x.length : Nat)) := fun H vs hv Q q => by
  obtain ⟨v, rfl, h1⟩ := dpa1 hv
  exact ⟨x, by rw [dp_str.mp h1], sz5 h, q _ H (Evl.Ex.refl H) (.int _)⟩
theorem cd_intS {n : Int} (h : PySem.intText? x = some n) (hl : x.length ≤ 640) : CD K rIntS [.str x] (.int n) := fun H vs hv Q q => by
  obtain ⟨v, rfl, h1⟩ := dpa1 hv
  exact ⟨x, n, by rw [dp_str.mp h1], h, hl, q _ H (Evl.Ex.refl H) (.int _)⟩
theorem cd_strI (h : i.natAbs.log2 < 1920) : CD K rStrI [.int i] (.str (toString i)) := fun H vs hv Q q => by
  obtain ⟨v, rfl, h1⟩ := dpa1 hv
  exact ⟨i, by rw [dp_int.mp h1], h, q _ H (Evl.Ex.refl H) (.str _)⟩
theorem rd_addS (h : x.length + y.length ≤ 100000) : RD K rAddS (.str x) (.str y) (.str (x ++ y)) := fun H u v hu hv Q q => ⟨x, y, dp_str.mp hu, dp_str.mp hv, sz5 h, q _ H (Evl.Ex.refl H) (.str _)⟩
theorem rd_ixS {c : Nat} (h : x.length ≤ 100000) (ha : atI (sg x) i = some c) : RD K rIxS (.str x) (.int i) (.str ⟨#[c]⟩) := fun H u v hu hv Q q => ⟨x, i, c, dp_str.mp hu, dp_int.mp hv, sz5 h, ha, q _ H (Evl.Ex.refl H) (.str _)⟩
theorem rd_niS {c : Nat} : RD K rNotInS (.str ⟨#[c]⟩) (.str x) (.bool (!decide (c ∈ x.cps.toList))) := fun H u v hu hv Q q => ⟨c, x, dp_str.mp hu, dp_str.mp hv, q _ H (Evl.Ex.refl H) (.bl _)⟩
theorem en_split (h : EvD K ta σ H (.str x)) (hb : EvD K tb σ H (.str y)) (hy : (y.length == 0) = false) (hl : x.length ≤ 90000) : EvN K (tM1 rSplit ta tb) σ H ((Txt.split x y).map .str) := fun H1 e Q q =>
  h H1 e _ fun v H2 x2 hv => ⟨⟨x, dp_str.mp hv⟩, hb H2 (e.trans x2) _ fun u H3 x3 hu => ⟨x, y, dp_str.mp hv, by rw [dp_str.mp hu], hy, sz5 (by omega), fun p hp => q _ _ ((x2.trans x3).trans (Evl.Ex.new hp)) ⟨p, _, rfl, Evl.fresh_back (x2.trans x3) hp, upd_same, dpa_strs.mpr rfl⟩⟩⟩
theorem ed_join {ys : List Str} (h : EvD K ta σ H (.str x)) (hb : EvD K tb σ H (.list (ys.map .str))) (hl : (ys.map (·.length)).sum + ys.length * x.length ≤ 16777216) : EvD K (tM1 (rJoin K) ta tb) σ H (.str (Txt.join x ys)) := fun H1 e Q q =>
  h H1 e _ fun v H2 x2 hv => ⟨⟨x, dp_str.mp hv⟩, hb H2 (e.trans x2) _ fun u H3 x3 hu => by
    obtain ⟨a, xs, rfl, hs, hd⟩ := dp_lst.mp hu
    rw [dpa_strs.mp hd] at hs
    exact ⟨x, a, ys, dp_str.mp hv, rfl, .inl hs, hl, q _ H3 (x2.trans x3) (.str _)⟩⟩
/-- for c in a text -/
theorem w_forS {j : Nat} (h : EvD K te σ H (.str x)) (Pv : Nat → L2.St → Hp → Prop) (h0 : ∀ H1, Ex H H1 → Pv 0 σ H1)
    (hs : ∀ (k : Nat) (c : Nat) σ' H', (sg x)[k]? = some c → Pv k σ' H' → tu { D with nx := Pv (k + 1), ct := Pv (k + 1), bk := tz D } (σ'.set j (some (.str ⟨#[c]⟩))) H') (hd : ∀ σ' H', Pv (sg x).length σ' H' → tz D σ' H') : tSeq (tFor (iStr te) (gName j) tu) tz D σ H :=
  h H (Evl.Ex.refl H) _ fun v H1 x1 hv => ⟨x, dp_str.mp hv, fun k m σ' H' => m = (sg x).length - k ∧ k ≤ (sg x).length ∧ Pv k σ' H', ⟨_, rfl, Nat.zero_le _, h0 H1 x1⟩, by
    rintro k m σ' H' ⟨rfl, hk, pv⟩
    have sz : x.cps.size = (sg x).length := by simp [sg]
    by_cases hlt : k < (sg x).length
    · refine .inr ⟨by show k < x.cps.size; omega, Pv (k + 1), fun σ3 H3 p3 => ⟨(sg x).length - (k + 1), by omega, rfl, hlt, p3⟩, fun y H2 yy => ?_⟩
      obtain ⟨rfl, c, hc, rfl⟩ := yy
      refine hs k c σ' _ ?_ pv
      unfold sg
      rw [Array.getElem?_toList]
      exact hc
    · have e2 : k = (sg x).length := by omega
      subst e2
      exact .inl ⟨by show x.cps.size ≤ _; omega, hd σ' H' pv⟩⟩
/-- [e for t in xs], e a new list each time -/
theorem en_mapLL {α : Type} (enc : α → PyData) {xs : List α} (f : α → List PyData) (hf : ∀ a, noLs (f a) = true) {vs : List Nat} {j : Nat} (h : EvN K tl σ H (xs.map enc)) (hz : xs.length ≤ 100000) (hw : ∀ x, wipe ((wipe σ vs).set j (some x)) vs = wipe σ vs)
    (he : ∀ (i : Nat) (a : α) v H1, xs[i]? = some a → Ex H H1 → Dp K H1 v (enc a) → EvN K te ((wipe σ vs).set j (some v)) H1 (f a)) : EvN K (tLc (iList K tl) (gName j) tYes te vs) σ H (xs.map fun a => .list (f a)) := fun H1 x Q q =>
  h H1 x _ fun v H2 x2 h2 => by
    obtain ⟨p, us, rfl, p0, p1, p2⟩ := h2
    have hl := dpa_len p2
    rw [List.length_map] at hl
    refine ⟨p, rfl, ⟨us, SqL.of p1⟩, fun D hD => lc_list (xs := us) (fun i H' => Ex H2 H' ∧ ∃ acc, H' D = some (.lst acc) ∧ acc.length = i ∧ ∀ (k : Nat) (y : V), acc[k]? = some y → ∃ a r ys, xs[k]? = some a ∧ y = .ref r ∧ r ≠ D ∧ H' r = some (.lst ys) ∧ DpAll K H' ys (f a)) ⟨Evl.Ex.new hD, [], upd_same, rfl, fun k y e => by simp at e⟩ (fun i H' _ I => SqL.of (I.1 _ _ p1)) ?_ ?_⟩
    · rintro i y H' hi ⟨e1, acc, a1, a2, a3⟩
      obtain ⟨d, hd, hdy⟩ := dpa_get p2 hi
      obtain ⟨a, ha, rfl⟩ := get_map hd
      refine ⟨hw _, ?_⟩
      unfold tYes
      dsimp only
      rw [if_pos rfl]
      have xx := (x.trans x2).trans e1
      refine he i a y H' ha xx (dp_mono e1 _ _ hdy) H' (Evl.Ex.refl H') _ fun y H4 x4 hy => ?_
      obtain ⟨r, ys, rfl, r0, r1, r2⟩ := hy
      have hD4 := x4 _ _ a1
      have rD : r ≠ D := fun e => by rw [e, a1] at r0; cases r0
      have u4 : Up H4 (upd H4 D (.lst (acc ++ [.ref r]))) := Up.lst hD4
      have il := lt_of_get ha
      refine ⟨acc, hD4, Nat.lt_of_le_of_lt (show acc.length ≤ 100000 by omega) (by decide), (e1.trans x4).mut hD, acc ++ [.ref r], upd_same, by rw [List.length_append, a2]; rfl, fun k y e => ?_⟩
      by_cases hk : k < acc.length
      · rw [List.getElem?_append_left hk] at e
        obtain ⟨b, s, zs, b1, rfl, s0, s1, s2⟩ := a3 k y e
        exact ⟨b, s, zs, b1, rfl, s0, by rw [upd_ne s0]; exact x4 _ _ s1, dpa_up u4 _ _ (hf b) (dpa_mono x4 _ _ s2)⟩
      · rw [List.getElem?_append_right (by omega)] at e
        have k0 : k = i := by
          have : k - acc.length = 0 := by
            cases hz : k - acc.length with
            | zero => rfl
            | succ z => rw [hz] at e; simp at e
          omega
        subst k0
        rw [a2, Nat.sub_self] at e
        cases e
        exact ⟨a, r, ys, ha, rfl, rD, by rw [upd_ne rD]; exact r1, dpa_up u4 _ _ (hf a) r2⟩
    · rintro H' ⟨e1, acc, a1, a2, a3⟩
      refine q _ H' (x2.trans e1) ⟨D, acc, rfl, Evl.fresh_back x2 hD, a1, ?_⟩
      have key : ∀ (acc : List V) (zs : List α), acc.length = zs.length → (∀ (k : Nat) (y : V), acc[k]? = some y → ∃ a r ys, zs[k]? = some a ∧ y = .ref r ∧ r ≠ D ∧ H' r = some (.lst ys) ∧ DpAll K H' ys (f a)) → DpAll K H' acc (zs.map fun a => .list (f a)) := by
        intro acc
        induction acc with
        | nil =>
          intro zs hl _
          cases zs with
          | nil => exact .nil
          | cons _ _ => simp at hl
        | cons c acc ih =>
          intro zs hl hh
          cases zs with
          | nil => simp at hl
          | cons b zs =>
            obtain ⟨a, r, ys, ea, rfl, _, r1, r2⟩ := hh 0 c rfl
            cases ea
            refine .cons (dp_lst.mpr ⟨r, ys, rfl, SqL.of r1, r2⟩) (ih zs (by simpa using hl) fun k y e => ?_)
            have := hh (k + 1) y (by simpa using e)
            simpa using this
      exact key acc xs (by omega) a3
end

end Fy

namespace Fy
open PySem PySem.Spec PyProof.Rows L2
/-! ### notes read, walked -/
def eWs (ws : List Str) : PyData := .list (ws.map .str)
def spNumber (K : PySem.W.Frag) : Sp := fun vs H Q E => ∃ x : Str, vs = [.str x] ∧ x.length ≤ 100000 ∧ (∀ n, numberOf x = some n → ∀ H', Ex H H' → Q (.int n) H') ∧ (numberOf x = none → ∀ H', Ex H H' → E (.ref (He.ga K "BadNote")) none H')
def spThingOf (K : PySem.W.Frag) : Sp := fun vs H Q E => ∃ v ws, vs = [v] ∧ Dp K H v (eWs ws) ∧ Small 90000 ws ∧ (∀ t, thingOf ws = some t → RetR (fun v H' => Dp K H' v (eT t)) H Q) ∧ (thingOf ws = none → ∀ H', Ex H H' → E (.ref (He.ga K "BadNote")) none H')
def spQuarrelOf (K : PySem.W.Frag) : Sp := fun vs H Q E => ∃ v ws, vs = [v] ∧ Dp K H v (eWs ws) ∧ Small 90000 ws ∧ (∀ q, quarrelOf ws = some q → RetR (fun v H' => Dp K H' v (eQ q)) H Q) ∧ (quarrelOf ws = none → ∀ H', Ex H H' → E (.ref (He.ga K "BadNote")) none H')
def spRead (K : PySem.W.Frag) : Sp := fun vs H Q E => ∃ x : Str, vs = [.str x] ∧ x.length ≤ 50000 ∧ PyData.strOk x = true ∧ (∀ n, noteOf (linesW x) = some n → ∀ v H', Ex H H' → NightI K H H' v n → Q v H') ∧ (noteOf (linesW x) = none → ∀ H', Ex H H' → E (.ref (He.ga K "BadNote")) none H')
theorem eqv_str (a b : Str) : PyData.eqv (.str a) (.str b) = decide (a = b) := by simp [PyData.eqv, Bool.beq_eq_decide_eq]
theorem eqv_eWs (a b : List Str) : PyData.eqv (eWs a) (eWs b) = decide (a = b) := eqv_lst eqv_str a b
theorem sh_str {a : Str} (h : PyData.strOk a = true) : SeqAt.shaped (.str a) = true := sh_of (by simpa [PyData.canLay0] using h) (by simp [PyData.depth])
theorem sh_eWs {a : List Str} (h : ∀ w ∈ a, PyData.strOk w = true) : SeqAt.shaped (eWs a) = true := by
  have l : ∀ a : List Str, (∀ w ∈ a, PyData.strOk w = true) → PyData.canLayAll0 (a.map .str) = true := by
    intro a
    induction a with
    | nil => intro _; simp [PyData.canLayAll0]
    | cons b a ih =>
      intro h
      simp only [List.map_cons, PyData.canLayAll0, Bool.and_eq_true]
      exact ⟨by simpa [PyData.canLay0] using h b List.mem_cons_self, ih fun w hw => h w (List.mem_cons_of_mem _ hw)⟩
  refine sh_of (by simp only [eWs, PyData.canLay0]; exact l a h) ?_
  have := deps_map (f := PyData.str) (n := 0) (fun _ => by simp [PyData.depth]) a
  simp only [eWs, PyData.depth]
  omega
theorem any_rows (w : Str) : ([PyData.str "rows", .str "sits"].any fun z => PyData.eqv z (.str w)) = rowsS w := by
  simp only [List.any_cons, List.any_nil, Bool.or_false, eqv_str]
  unfold rowsS
  rw [decide_eq_decide.mpr (show ("rows" : Str) = w ↔ w = "rows" from eq_comm), decide_eq_decide.mpr (show ("sits" : Str) = w ↔ w = "sits" from eq_comm)]
section
variable {K : PySem.W.Frag} {σ : L2.St} {H : Hp} {ta te : TE} {ws : List Str}
theorem ed_word (i : Nat) (h : EvD K ta σ H (eWs ws)) (hi : i < ws.length) : EvD K (tOp (rIxL K) ta (tC (.int (i : Int)))) σ H (.str (wAt ws i)) := ed_op (d := .list (ws.map .str)) (e := .int (i : Int)) h ed_int (rd_ixL (atI_nat (by rw [List.getElem?_map, wAt_get hi]; rfl)))
theorem ed_lenW (h : EvD K ta σ H (eWs ws)) : EvD K (tCB (rLenQ K) (tCons ta tNil)) σ H (.int (ws.length : Nat)) := EvD.cast (ed_cb (eds_cons (d := .list (ws.map .str)) h eds_nil) cd_lenL) (by rw [List.length_map])
/-- number_of(e): a number, or what is raised -/
theorem call_number {E : L2.St → XK} {x : Str} {Q : VK} (h : EvD K te σ H (.str x)) (hl : x.length ≤ 100000) (q : ∀ n, numberOf x = some n → ∀ H', Ex H H' → Q (.int n) H') (e : numberOf x = none → ∀ H', Ex H H' → E σ (.ref (He.ga K "BadNote")) none H') : tCallS (spNumber K) E (tCons te tNil) σ H Q :=
  h H (Evl.Ex.refl H) _ fun v H1 x1 hv => ⟨x, by rw [dp_str.mp hv], hl, fun n hn H' x' => q n hn H' (x1.trans x'), fun hn H' x' => e hn H' (x1.trans x')⟩
end
section
variable {P : Program} {w : World} {K : PySem.W.Frag} {mg : Str → Option Value} {base : Heap}
theorem sc_number_of : FnScope ["word", "sign"] ["word"] (defScope s_number_of) := ⟨rfl, rfl, rfl, by decide +kernel, rfl, by decide +kernel, by decide +kernel⟩
theorem ok_number_of (T : Tx K mg) : Has P w K mg base (L2N.CX P w) 1 "number_of" ["word"] (spNumber K) := by
  obtain ⟨fd, F⟩ := T.f_number_of
  obtain ⟨t_FIGURES, m_FIGURES⟩ := T.t_FIGURES
  refine ⟨T.g_number_of, fd, F.ok sc_number_of (fun vs H Q E h => ?_) (fun cdv A outer s H vs Q E hr h => ⟨_, (pss_cons (ps_if (PW.pt (pw_or (pt_not (pt_chain op_le op_le pe_int (pe_callB (r := rLenS) call_len_str (by rfl) T.b_len (by decide +kernel) (pa_cons (pv 0) pa_nil)) pe_int)) (pw_or1 (PW.pt (pw_and (pt_cmpR op_eq (pe_ix (r := rIxS) ix_str (pv 0) pe_int (fun _ _ => rfl)) pe_str (nomark _)) (pw_and1 (pt_cmpR op_ne (pv 0) pe_str (nomark _)))))))) (pss_one (ps_raiseOwnN rfl (L2N.takes_of rfl rfl rfl rfl) T.x_BadNote T.g_BadNote rfl)) pss_nil)
      (pss_cons (ps_for (passes_of rfl) rfl (pi_str (pv 0)) (pg_name (i := 1) sc_number_of.nd rfl (.inl rfl)) (pss_one (ps_if (pt_cmpR (r := rNotInS) op_notInS (pv 1) (pe_glob rfl m_FIGURES (v := .str "0123456789") ⟨_, rfl⟩) (by rfl)) (pss_one (ps_raiseOwnN rfl (L2N.takes_of rfl rfl rfl rfl) T.x_BadNote T.g_BadNote rfl)) pss_nil)))
      (pss_one (ps_ret (pe_callTy (r := rIntS) call_int_str (by rfl) T.b_int (by decide +kernel) (pa_cons (pv 0) pa_nil)))))), ?_⟩), F.bindsN fun _ _ _ _ _ _ us hl => match us, hl with | [_], _ => rfl, F.kp⟩
  · obtain ⟨x, rfl, _⟩ := h
    rfl
  · obtain ⟨x, rfl, hl, kq, ke⟩ := h
    have len : EvD K (tCB rLenS (tCons (tVar 0) tNil)) [some (.str x), none] H (.int (x.length : Nat)) := ed_cb (eds_cons (ed_var rfl (.str _)) eds_nil) (cd_lenS hl)
    have sec : (!lenOk x) = false → EvB K (tAnd (tTest (tOp rEq (tOp rIxS (tVar 0) (tC (.int 0))) (tC (.str "0")))) (tTest (tOp rNe (tVar 0) (tC (.str "0"))))) [some (.str x), none] H (zeroAhead x) := fun hb => by
      have hlen : lenOk x = true := by simpa using hb
      unfold lenOk at hlen
      simp only [Bool.and_eq_true, decide_eq_true_eq] at hlen
      obtain ⟨c, r, hc⟩ : ∃ c r, sg x = c :: r := by
        cases e : sg x with
        | nil => have := sg_len x; rw [e] at this; simp at this; omega
        | cons c r => exact ⟨c, r, rfl⟩
      have e : zeroAhead x = (decide ((⟨#[c]⟩ : Str) = "0") && !decide (x = "0")) := by
        unfold zeroAhead
        rw [hc, one_zero]
        congr 1
        exact decide_eq_decide.mpr ⟨fun h => by injection h, fun h => by rw [h]; rfl⟩
      rw [e]
      exact eb_and (eb_d (ed_op (d := .str ⟨#[c]⟩) (e := .str "0") (ed_op (d := .str x) (e := .int 0) (ed_var rfl (.str _)) ed_int (rd_ixS hl (by rw [hc]; show atI (c :: r) ((0 : Nat) : Int) = some c; exact atI_nat rfl))) ed_str rd_eqS)) (fun _ => eb_d (ed_op (d := .str x) (e := .str "0") (ed_var rfl (.str _)) ed_str rd_neS))
    refine w_when K (b := !lenOk x || zeroAhead x) (eb_or (eb_not (eb_d (ed_chain ed_int len ed_int))) sec) (fun hb H1 x1 => ?_) (fun hb H1 x1 => ?_)
    · refine ke ?_ H1 x1
      unfold numberOf numOk
      cases e : lenOk x with
      | false => rfl
      | true => rw [e] at hb; simp at hb; rw [hb]; rfl
    · obtain ⟨h1, h2⟩ := Bool.or_eq_false_iff.mp hb
      have hlen : lenOk x = true := by simpa using h1
      refine w_forS (K := K) (x := x) (ed_var rfl (.str _)) (fun k σ H' => ∃ b, σ = [some (.str x), b] ∧ Ex H1 H' ∧ ((sg x).take k).all isDig = true) (fun H2 x2 => ⟨none, rfl, x2, rfl⟩) ?_ ?_
      · rintro k c σ' H2 hc ⟨b, rfl, x2, ha⟩
        refine w_when1 K (b := !isDig c) (eb_d (EvD.cast (ed_op (d := .str ⟨#[c]⟩) (e := .str "0123456789") (ed_var rfl (.str _)) ed_str rd_niS) (by rw [dig_mem]))) (fun hb2 H3 x3 => ?_) (fun hb2 H3 x3 => ?_)
        · refine ke ?_ H3 ((x1.trans x2).trans x3)
          unfold numberOf numOk
          rw [all_not hc (by simpa using hb2), Bool.and_false]
          rfl
        · exact ⟨_, rfl, x2.trans x3, by rw [all_take hc ha]; simpa using hb2⟩
      · rintro σ' H2 ⟨b, rfl, x2, ha⟩
        rw [List.take_length] at ha
        have dg : PySem.NumText.AllDigits (sg x) := fun c hc => of_decide_eq_true (List.all_eq_true.mp ha c hc)
        unfold lenOk at hlen
        simp only [Bool.and_eq_true, decide_eq_true_eq] at hlen
        have hne : sg x ≠ [] := fun e => by have := sg_len x; rw [e] at this; simp at this; omega
        have it := PySem.intText_digits (x := x) dg hne (show x.length ≤ 4300 by omega)
        refine w_ret1 (K := K) (d := .int (numV x)) (ed_cb (eds_cons (ed_var rfl (.str _)) eds_nil) (cd_intS it (by omega))) fun v3 H3 x3 h3 => ?_
        cases dp_int.mp h3
        refine kq (numV x) ?_ H3 ((x1.trans x2).trans x3)
        unfold numberOf numOk lenOk
        rw [decide_eq_true hlen.1, decide_eq_true hlen.2, h2, ha]
        rfl
theorem sc_thing_of : FnScope ["words"] ["words"] (defScope s_thing_of) := ⟨rfl, rfl, rfl, by decide +kernel, rfl, by decide +kernel, by decide +kernel⟩
theorem ok_thing_of (T : Tx K mg) : Has P w K mg base (L2N.CX P w) 2 "thing_of" ["words"] (spThingOf K) := by
  obtain ⟨fd, F⟩ := T.f_thing_of
  have G_number_of := ok_number_of (P := P) (w := w) (base := base) T
  refine ⟨T.g_thing_of, fd, F.ok sc_thing_of (fun vs H Q E h => ?_) (fun cdv A outer s H vs Q E hr h => ⟨_, (pss_cons (ps_if (PW.pt (pw_or (pt_cmpR op_ne (pe_callB (r := rLenQ K) call_len_seq (by rfl) T.b_len (by decide +kernel) (pa_cons (pv 0) pa_nil)) pe_int (nomark _)) (pw_or1 (pt_cmpR (r := rNotInD K) (op_notInD (un65 hr)) (pe_ix (r := rIxL K) ix_list (pv 0) pe_int (fun _ _ => rfl)) (pe_lst (pa_cons pe_str (pa_cons pe_str pa_nil))) (by rfl))))) (pss_one (ps_raiseOwnN rfl (L2N.takes_of rfl rfl rfl rfl) T.x_BadNote T.g_BadNote rfl)) pss_nil)
      (pss_one (ps_ret (pe_tup (pa_cons (pe_fxN G_number_of (hr.mono (by decide)) rfl (L2N.takes_of rfl rfl rfl rfl) (pa_cons (pe_ix (r := rIxL K) ix_list (pv 0) pe_int (fun _ _ => rfl)) pa_nil)) (pa_cons (pe_cmpR op_eq (pe_ix (r := rIxL K) ix_list (pv 0) pe_int (fun _ _ => rfl)) pe_str (nomark _)) pa_nil)))))), ?_⟩), F.bindsN fun _ _ _ _ _ _ us hl => match us, hl with | [_], _ => rfl, F.kp⟩
  · obtain ⟨v, ws, rfl, _⟩ := h
    rfl
  · obtain ⟨v, ws, rfl, hv, hs, kq, ke⟩ := h
    have vE : ∀ H', Ex H H' → EvD K (tVar 0) [some v] H' (eWs ws) := fun H' x => ed_var rfl (dp_mono x _ _ hv)
    have r0 := Evl.Ex.refl H
    have e3 : decide ((ws.length : Int) = 3) = decide (ws.length = 3) := decide_eq_decide.mpr (by omega)
    refine w_when K (b := !decide ((ws.length : Int) = 3) || !rowsS (wAt ws 2)) (eb_or (eb_d (ed_op (d := .int (ws.length : Nat)) (e := .int 3) (ed_lenW (vE H r0)) ed_int rd_neI)) (fun hq => eb_d (EvD.cast (ed_op (d := .str (wAt ws 2)) (e := .list [.str "rows", .str "sits"]) (ed_word 2 (vE H r0) (by simp at hq; omega)) (en_lst (eds_cons ed_str (eds_cons ed_str eds_nil)) (show 2 ≤ 100000 by decide)).toD (rd_niDL (sh_str (hs.2.2 _ (List.mem_of_getElem? (wAt_get (by simp at hq; omega)))).2) (sh_eWs (a := ["rows", "sits"]) (by decide +kernel)))) (by rw [any_rows])))) (fun hb H1 x1 => ?_) (fun hb H1 x1 => ?_)
    · refine ke ?_ H1 x1
      unfold thingOf
      rw [if_neg]
      intro c
      rw [Bool.and_eq_true] at c
      rw [e3, c.1, c.2] at hb
      cases hb
    · obtain ⟨h1, h2⟩ := Bool.or_eq_false_iff.mp hb
      have hl3 : ws.length = 3 := by simp at h1; omega
      have hr : rowsS (wAt ws 2) = true := by simpa using h2
      have tk : thingOf ws = (numberOf (wAt ws 1)).map fun p => (p, decide (wAt ws 2 = "rows")) := by
        unfold thingOf
        rw [if_pos]
        rw [decide_eq_true hl3, hr]
        rfl
      have wl : (wAt ws 1).length ≤ 100000 := by
        have := (hs.2.2 (wAt ws 1) (List.mem_of_getElem? (wAt_get (show 1 < ws.length by omega)))).1
        omega
      refine call_number (K := K) (ed_word 1 (vE H1 x1) (by omega)) wl (fun n hn H2 x2 => ?_) (fun hn H2 x2 => ke (by rw [tk, hn]; rfl) H2 (x1.trans x2))
      have x12 := x1.trans x2
      refine (ed_op (d := .str (wAt ws 2)) (e := .str "rows") (ed_word 2 (vE H2 x12) (by omega)) ed_str rd_eqS : EvD K _ [some v] H2 (.bool (decide (wAt ws 2 = "rows")))) H2 (Evl.Ex.refl H2) _ fun u H3 x3 hu => ?_
      refine ⟨by show 2 ≤ sizeLine; decide, fun p hp => ?_⟩
      refine kq (n, decide (wAt ws 2 = "rows")) (by rw [tk, hn]; rfl) _ _ ((x12.trans x3).trans (Evl.Ex.new hp)) (dp_eT.mpr ⟨p, rfl, SqT.of (by rw [upd_same, dp_bl.mp hu])⟩)
theorem sc_quarrel_of : FnScope ["words", "keeper"] ["words"] (defScope s_quarrel_of) := ⟨rfl, rfl, rfl, by decide +kernel, rfl, by decide +kernel, by decide +kernel⟩
theorem ok_quarrel_of (T : Tx K mg) : Has P w K mg base (L2N.CX P w) 2 "quarrel_of" ["words"] (spQuarrelOf K) := by
  obtain ⟨fd, F⟩ := T.f_quarrel_of
  have G_number_of := ok_number_of (P := P) (w := w) (base := base) T
  refine ⟨T.g_quarrel_of, fd, F.ok sc_quarrel_of (fun vs H Q E h => ?_) (fun cdv A outer s H vs Q E hr h => ⟨_, (pss_cons (ps_if (PW.pt (pw_or (pt_cmpR op_ne (pe_callB (r := rLenQ K) call_len_seq (by rfl) T.b_len (by decide +kernel) (pa_cons (pv 0) pa_nil)) pe_int (nomark _)) (pw_or1 (pt_cmpR op_ne (pe_ix (r := rIxL K) ix_list (pv 0) pe_int (fun _ _ => rfl)) pe_str (nomark _))))) (pss_one (ps_raiseOwnN rfl (L2N.takes_of rfl rfl rfl rfl) T.x_BadNote T.g_BadNote rfl)) pss_nil)
      (pss_cons (ps_set (i := 1) sc_quarrel_of.nd rfl (.inl rfl) (pe_un un_neg pe_int))
      (pss_cons (ps_if (pt_cmpR op_ne (pe_ix (r := rIxL K) ix_list (pv 0) pe_int (fun _ _ => rfl)) pe_str (nomark _)) (pss_one (ps_set (i := 1) sc_quarrel_of.nd rfl (.inl rfl) (pe_fxN G_number_of (hr.mono (by decide)) rfl (L2N.takes_of rfl rfl rfl rfl) (pa_cons (pe_ix (r := rIxL K) ix_list (pv 0) pe_int (fun _ _ => rfl)) pa_nil)))) pss_nil)
      (pss_one (ps_ret (pe_tup (pa_cons (pe_fxN G_number_of (hr.mono (by decide)) rfl (L2N.takes_of rfl rfl rfl rfl) (pa_cons (pe_ix (r := rIxL K) ix_list (pv 0) pe_int (fun _ _ => rfl)) pa_nil)) (pa_cons (pe_fxN G_number_of (hr.mono (by decide)) rfl (L2N.takes_of rfl rfl rfl rfl) (pa_cons (pe_ix (r := rIxL K) ix_list (pv 0) pe_int (fun _ _ => rfl)) pa_nil)) (pa_cons (pv 1) pa_nil))))))))), ?_⟩), F.bindsN fun _ _ _ _ _ _ us hl => match us, hl with | [_], _ => rfl, F.kp⟩
  · obtain ⟨v, ws, rfl, _⟩ := h
    rfl
  · obtain ⟨v, ws, rfl, hv, hs, kq, ke⟩ := h
    have vE : ∀ H' a, Ex H H' → EvD K (tVar 0) [some v, a] H' (eWs ws) := fun H' a x => ed_var rfl (dp_mono x _ _ hv)
    have r0 := Evl.Ex.refl H
    have e4 : decide ((ws.length : Int) = 4) = decide (ws.length = 4) := decide_eq_decide.mpr (by omega)
    refine w_when K (b := !decide ((ws.length : Int) = 4) || !decide (wAt ws 0 = "quarrel")) (eb_or (eb_d (ed_op (d := .int (ws.length : Nat)) (e := .int 4) (ed_lenW (vE H _ r0)) ed_int rd_neI)) (fun hq => eb_d (ed_op (d := .str (wAt ws 0)) (e := .str "quarrel") (ed_word 0 (vE H _ r0) (by simp at hq; omega)) ed_str rd_neS))) (fun hb H1 x1 => ?_) (fun hb H1 x1 => ?_)
    · refine ke ?_ H1 x1
      unfold quarrelOf
      rw [if_neg]
      intro c
      rw [Bool.and_eq_true] at c
      rw [e4, c.1, c.2] at hb
      cases hb
    · obtain ⟨h1, h2⟩ := Bool.or_eq_false_iff.mp hb
      have hl4 : ws.length = 4 := by simp at h1; omega
      have hr : wAt ws 0 = "quarrel" := by simpa using h2
      have tk : quarrelOf ws = (keeperOf (wAt ws 3)).bind fun k => (numberOf (wAt ws 1)).bind fun a => (numberOf (wAt ws 2)).map fun b => (a, b, k) := by
        unfold quarrelOf
        rw [if_pos]
        rw [decide_eq_true hl4, decide_eq_true hr]
        rfl
      have wl : ∀ i, i < 4 → (wAt ws i).length ≤ 100000 := fun i hi => by
        have := (hs.2.2 (wAt ws i) (List.mem_of_getElem? (wAt_get (show i < ws.length by omega)))).1
        omega
      refine w_asg (K := K) (d := .int (-1)) (ed_un ed_int (fun _ => .int _)) (fun v2 H2 x2 h2 => ?_)
      cases dp_int.mp h2
      have x02 := x1.trans x2
      refine w_join (fun σ' H' => ∃ k, keeperOf (wAt ws 3) = some k ∧ σ' = [some v, some (.int k)] ∧ Ex H H') ?go (fun go => ?main)
      case main =>
        refine w_when K (b := !decide (wAt ws 3 = "-")) (eb_d (ed_op (d := .str (wAt ws 3)) (e := .str "-") (ed_word 3 (vE H2 _ x02) (by omega)) ed_str rd_neS)) (fun hb2 H3 x3 => ?_) (fun hb2 H3 x3 => ?_)
        · have hn3 : ¬ wAt ws 3 = "-" := by simpa using hb2
          have x03 := x02.trans x3
          have ko : keeperOf (wAt ws 3) = numberOf (wAt ws 3) := by unfold keeperOf; rw [if_neg hn3]
          refine call_number (K := K) (ed_word 3 (vE H3 _ x03) (by omega)) (wl 3 (by decide)) (fun n hn H4 x4 => ?_) (fun hn H4 x4 => ke (by rw [tk, ko, hn]; rfl) H4 (x03.trans x4))
          exact go _ _ ⟨n, by rw [ko, hn], rfl, x03.trans x4⟩
        · have hn3 : wAt ws 3 = "-" := by simpa using hb2
          exact go _ _ ⟨-1, by unfold keeperOf; rw [if_pos hn3], rfl, x02.trans x3⟩
      case go =>
        rintro σ' H3 ⟨k, hk, rfl, x03⟩
        refine call_number (K := K) (ed_word 1 (vE H3 _ x03) (by omega)) (wl 1 (by decide)) (fun a hna H4 x4 => ?_) (fun hn H4 x4 => ke (by rw [tk, hk, hn]; rfl) H4 (x03.trans x4))
        have x04 := x03.trans x4
        refine call_number (K := K) (ed_word 2 (vE H4 _ x04) (by omega)) (wl 2 (by decide)) (fun b hnb H5 x5 => ?_) (fun hn H5 x5 => ke (by rw [tk, hk, hna, hn]; rfl) H5 (x04.trans x5))
        refine ⟨_, rfl, by show 3 ≤ sizeLine; decide, fun p hp => ?_⟩
        exact kq (a, b, k) (by rw [tk, hk, hna, hnb]; rfl) _ _ ((x04.trans x5).trans (Evl.Ex.new hp)) (dp_eQ.mpr ⟨p, rfl, SqT.of upd_same⟩)
end

end Fy

namespace Fy
open PySem PySem.Spec PyProof.Rows L2
/-! ### sorted: tuples of whole numbers of any length, the empty one first -/
section
open PySem.W PySem.Calls PySem.SeqAt
theorem map_each {M : Model} {A : Around} {E : Value → Shared → Prop} {s : Shared} {α β : Type} {f : α → Sem β} (g : α → β) : ∀ (l : List α) {Q : List β → Shared → Prop}, (∀ v ∈ l, ∀ (Q' : β → Shared → Prop), Q' (g v) s → wpAny M A (f v) Q' E s) → Q (l.map g) s → wpAny M A (l.mapM f) Q E s
  | [], _, _, h => by rw [List.mapM_nil]; exact wpAny_pure h
  | x :: l, Q, hf, h => by
    rw [List.mapM_cons]
    exact wpAny_bind (hf x (.head _) _ (wpAny_bind (map_each g l (Q := fun bs s' => wpAny M A (pure (g x :: bs)) Q E s') (fun v hv => hf v (.tail _ hv)) (wpAny_pure h))))
def headOf (h : Heap) : Value → Option Value
  | .ref a => (h.get? a).bind fun o => match o.data with
    | .seq xs _ => xs[0]?
    | _ => none
  | _ => none
variable {prog : Program} {w : World} {A : Around} {s : Shared}
/-- one tuple against another, as keys of one kind -/
theorem tup_oneLt {xs ys : List PyData} {a b : Value} {as bs : List Addr} {E : Value → Shared → Prop} {Q : Bool → Shared → Prop} (ra : Reads s.heap a (.tuple xs) as) (rb : Reads s.heap b (.tuple ys) bs) (hal : alikeAll xs ys = true)
    (hu : A.units + min (PyData.tuple xs).depth (PyData.tuple ys).depth < cLine) (hq : Q (dataLt (.tuple xs) (.tuple ys)) s) : wpAny (model prog w) A (oneLt' true a b) Q E s := by
  cases ra with
  | @tuple l o vs n _ as₁ h1 h2 h3 h4 =>
    cases rb with
    | @tuple l' o' vs' n' _ bs₁ k1 k2 k3 k4 =>
      have n1 : vs.size = xs.length := by simpa using ReadsAll.length _ _ _ h4
      have n2 : vs'.size = ys.length := by simpa using ReadsAll.length _ _ _ k4
      rw [dataLt_tuple, ← firstLt_toks xs ys hal, ← n1, ← n2] at hq
      rw [oneLt'_eq]
      simp only [if_true]
      refine wpAny_bind (wpAny_cRoomFor (room_here hu) ?_)
      obtain ⟨cls, dd, data, sl⟩ := o
      obtain ⟨cls2, dd2, data2, sl2⟩ := o'
      simp only at h2 h3 k2 k3
      subst h2 h3 k2 k3
      refine wpAny_bind (wpAny_callSpecialIfBound?_slot (T := "tuple") ⟨_, h1, rfl⟩ F.slot_tuple_lt (call_meets F.slot_tuple_lt ⟨_, h1, rfl⟩ F.entry_tuple_lt (F.args_tuple_lt_2 _ _)
        (SeqAt.tuple_ltAt l l' vs vs' n n' dd dd2 sl sl2 (pairEq xs ys) (fun j => dataLt (xs.getD j .none) (ys.getD j .none))) ⟨h1, k1, fun j j1 j2 => ?_, fun j j1 j2 hj => ?_, ?_⟩))
      · have := eqAt_alikeAll xs ys A.in1 s vs.toList vs'.toList _ _ h4 k4 hal (room_in hu) j (by simpa using j1) (by simpa using j2)
        simpa using this
      · have := rcLt_alikeAll xs ys A.in1 s vs.toList vs'.toList _ _ h4 k4 hal (room_in hu) j (by simpa using j1) (by simpa using j2) hj
        simpa using this
      · exact wpAny_truthy_bool hq
/-- tuples, the first of them empty, can be sorted -/
theorem sortsAt_empty {vs : List Value} {ds : List PyData} (e : EachIs (fun v d => ∃ as, Reads s.heap v d as) vs (.tuple [] :: ds)) (hal : AllAlike (.tuple [] :: ds)) (ht : ∀ d, d ∈ ds → ∃ xs, d = .tuple xs) (hu : ∀ d, d ∈ (.tuple [] :: ds : List PyData) → A.units + d.depth < cLine) : SortsAt prog w A s (dataKind s.heap (.tuple [] :: ds)) vs := by
  have ht' : ∀ d, d ∈ (.tuple [] :: ds : List PyData) → ∃ xs, d = .tuple xs := fun d hd => by
    rcases List.mem_cons.mp hd with rfl | hd
    · exact ⟨_, rfl⟩
    · exact ht d hd
  refine ⟨fun v hv => ?_, oneType', ?_, fun h2 E Q hq => ?_⟩
  · obtain ⟨d, hd, as, r⟩ := e.left v hv
    exact ⟨_, dataKind_some hal hd r⟩
  · intro E x y a b Q ha hb hq
    obtain ⟨d, as, hd, ra, rfl⟩ := dataKind_inv ha
    obtain ⟨d', as', hd', rb, rfl⟩ := dataKind_inv hb
    obtain ⟨xs, rfl⟩ := ht' d hd
    obtain ⟨ys, rfl⟩ := ht' d' hd'
    rw [keyLt'_oneType]
    have q := hal _ hd _ hd'
    exact tup_oneLt ra rb (by simpa [alike] using q) (Nat.lt_of_le_of_lt (Nat.add_le_add_left (Nat.min_le_left _ _) _) (hu _ hd)) hq
  · cases e with
    | @cons v0 _ vr _ h0 t =>
      obtain ⟨as0, r0⟩ := h0
      have each : ∀ v ∈ v0 :: vr, ∃ xs as, Reads s.heap v (.tuple xs) as := fun v hv => by
        rcases List.mem_cons.mp hv with rfl | hv
        · exact ⟨_, _, r0⟩
        · obtain ⟨d, hd, as, r⟩ := t.left v hv
          obtain ⟨xs, rfl⟩ := ht d hd
          exact ⟨_, _, r⟩
      have hh0 : headOf s.heap v0 = none := by
        cases r0 with
        | @tuple l o vs n _ as₁ h1 h2 h3 h4 =>
          cases h : vs.toList with
          | nil => simp only [headOf, h1, Option.bind_some, h3]; rw [← Array.getElem?_toList, h]; rfl
          | cons a r => rw [h] at h4; cases h4
      rw [keyKind'_eq, List.mapM_toArray, map_eq_pure_bind]
      refine wpAny_bind (wpAny_bind (map_each (headOf s.heap) _ (fun v hv Q' hq' => ?_) (wpAny_pure ?_)))
      · obtain ⟨xs, as, r⟩ := each v hv
        cases r with
        | @tuple l o vs n _ as₁ h1 h2 h3 h4 =>
          rw [kas_first_eq]
          refine wpAny_bind (Looks.here (show Looks (model prog w) s.heap (typeOf (.ref l)) o.cls from (Looks.ld h1).andThen .now) ?_)
          rw [h2, if_neg (by first | decide | simp)]
          refine wpAny_bind (listItems_at h1 h3 (wpAny_pure ?_))
          have e2 : headOf s.heap (.ref l) = vs[0]? := by simp only [headOf, h1, Option.bind_some, h3]
          rw [e2] at hq'
          exact hq'
      · have z1 : ¬ ((List.map (headOf s.heap) (v0 :: vr)).toArray.all fun x => x.isSome) = true := by
          rw [List.map_cons, hh0]; simp
        have z2 : ¬ (((List.map (headOf s.heap) (v0 :: vr)).toArray[0]?).bind id).isSome = true := by
          rw [List.map_cons, hh0]; simp
        rw [if_neg z1, if_neg z2, oneTypeOnly'_eq, List.mapM_toArray, map_eq_pure_bind]
        refine wpAny_bind (wpAny_bind (wpAny_bind (kas_mapM (r := Value.type "tuple") _ (fun v hv Q' hq' => ?_) (wpAny_pure ?_))))
        · obtain ⟨xs, as, r⟩ := each v hv
          exact Looks.here (looks_reads r) hq'
        · have hall : ((List.map (fun _ => Value.type "tuple") (v0 :: vr)).toArray.all fun x => x == Value.type "tuple") = true := by
            simp only [List.all_toArray, List.all_map, List.all_eq_true]
            intro _ _
            rfl
          have h0 : (List.map (fun _ => Value.type "tuple") (v0 :: vr)).toArray[0]? = some (Value.type "tuple") := by simp
          rw [h0]
          simp only [hall, if_true]
          exact wpAny_pure (wpAny_pure hq)
end
/-- the order -/
abbrev leI : List Int → List Int → Bool := PySem.W.dataLe false eI
/-- what can be sorted: none is empty, or the first one is -/
def SortI (L : List (List Int)) : Prop := (∀ g ∈ L, g ≠ []) ∨ ∃ L', L = [] :: L'
def rSortTI (K : PySem.W.Frag) : List V → Hp → VK → Prop := fun vs H Q => ∃ (a : Addr) (xs : List V) (L : List (List Int)), vs = [V.ref a] ∧ SqL K H a xs ∧ DpAll K H xs (L.map eI) ∧ SortI L ∧
  ∀ zs p, DpAll K H zs ((L.mergeSort leI).map eI) → H p = none → Q (.ref p) (upd H p (.lst zs))
section
open PySem.W PySem.Calls PySem.SeqAt
theorem alike_eI (g k : List Int) : alike (eI g) (eI k) = true := by
  show alike (.tuple (g.map .int)) (.tuple (k.map .int)) = true
  simp only [alike]
  exact alike_ints g k
theorem depth_eI (g : List Int) : (eI g).depth = 1 := by
  simp only [eI, PyData.depth]
  rw [depth_ints]
theorem each_of_dp {X : Cx} {pins : List (Addr × Obj)} {σ : L2.St} {H : Hp} {s : Shared} (I : Inv X pins σ H s) : ∀ (L : List (List Int)) (xs : List V) (us : List Value), DpAll X.K H xs (L.map eI) → Vals xs us →
    EachIs (fun v g => ∃ x, RelV x v ∧ Dp X.K H x (eI g)) us L ∧ EachIs (fun v g => ∃ as, Reads s.heap v (eI g) as) us L
  | [], _, _, h, r => by cases h; cases r; exact ⟨.nil, .nil⟩
  | g :: L, _, _, h, r => by
    cases h with
    | cons h1 h2 => cases r with
      | cons r1 r2 =>
        obtain ⟨a, b⟩ := each_of_dp I L _ _ h2 r2
        exact ⟨.cons ⟨_, r1, h1⟩ a, .cons (Dp.reads I _ _ _ h1 r1) b⟩
theorem dp_of_each {K : PySem.W.Frag} {H : Hp} : ∀ (L : List (List Int)) (us : List Value), EachIs (fun v g => ∃ x, RelV x v ∧ Dp K H x (eI g)) us L → ∃ xs, Vals xs us ∧ DpAll K H xs (L.map eI)
  | _, _, .nil => ⟨[], .nil, .nil⟩
  | _, _, .cons ⟨x, r, d⟩ t => by
    obtain ⟨xs, a, b⟩ := dp_of_each _ _ t
    exact ⟨x :: xs, .cons r a, .cons d b⟩
theorem each_map' {h : Heap} : ∀ {vs : List Value} {L : List (List Int)}, EachIs (fun v g => ∃ as, Reads h v (eI g) as) vs L → EachIs (fun v d => ∃ as, Reads h v d as) vs (L.map eI)
  | _, _, .nil => .nil
  | _, _, .cons h t => .cons h (each_map' t)
theorem cr_sortTI {X : Cx} (hu : X.A.units + 64 < cLine) : CallR X (.builtin "sorted") (rSortTI X.K) := by
  intro pins s σ H vs us Q I r h
  obtain ⟨a, xs, L, rfl, hs, hd, hk, q⟩ := h
  obtain ⟨its, rv, hl, hz⟩ := I.list hs
  rw [Vals.ref1 r]
  obtain ⟨e, er⟩ := each_of_dp I L xs its hd rv
  have hal : AllAlike (L.map eI) := AllAlike.of alike_eI
  have hlen : its.length ≤ sizeLine := by rw [← rv.length]; exact hz
  have units : X.A.in1.in1.units + 1 < cLine := by
    have e1 : X.A.in1.in1.units = X.A.units + 2 := rfl
    omega
  have fin : ∀ (Q' : Value → Shared → Prop), (∀ out, EachIs (fun v g => ∃ x, RelV x v ∧ Dp X.K H x (eI g)) out (L.mergeSort leI) → Q' (.ref (s.heap.objs.size + 1)) { s with heap := sortedAll s.heap its (List.toArray out) }) → wpAny (model X.prog X.w) X.A (call (.builtin "sorted") [.ref a]) Q' X.xe s := by
    intro Q' k
    have er' : EachIs (fun v g => ∃ as, Reads (sortingHeap (copyHeap s.heap its) (s.heap.objs.size + 1) its) v (eI g) as) its L := er.mono fun _ _ ⟨as, r⟩ => ⟨as, PyProof.Rows.Reads.keeps (fun _ _ => sorting_copy_old) r⟩
    have hub : ∀ d, d ∈ L.map eI → X.A.in1.in1.units + d.depth < cLine := fun d hd => by
      obtain ⟨g, _, rfl⟩ := List.mem_map.mp hd
      rw [depth_eI]
      exact units
    have S : SortsAt X.prog X.w X.A.in1.in1 { s with heap := sortingHeap (copyHeap s.heap its) (s.heap.objs.size + 1) its } (dataKind (sortingHeap (copyHeap s.heap its) (s.heap.objs.size + 1) its) (L.map eI)) its := by
      rcases hk with hn | ⟨L', rfl⟩
      · refine SortsAt.data (s := { s with heap := sortingHeap (copyHeap s.heap its) (s.heap.objs.size + 1) its }) (each_map' er') hal (.inl fun d hd => ?_) hub
        obtain ⟨g, hg, rfl⟩ := List.mem_map.mp hd
        cases g with
        | nil => exact absurd rfl (hn _ hg)
        | cons i g => exact ⟨.int i, g.map .int, rfl⟩
      · refine sortsAt_empty (s := { s with heap := sortingHeap (copyHeap s.heap its) (s.heap.objs.size + 1) its }) (ds := L'.map eI) (each_map' er') hal (fun d hd => ?_) hub
        obtain ⟨g, hg, rfl⟩ := List.mem_map.mp hd
        exact ⟨_, rfl⟩
    exact sorted_vals hl.isList S hlen (k _ (sortVals_data false e er' hal))
  refine fin _ fun out ho => ?_
  obtain ⟨zs, z1, z2⟩ := dp_of_each _ _ ho
  obtain ⟨ep, he'⟩ := PyProof.Rows.sortedAll_at s.heap its out.toArray
  have hzl : zs.length ≤ sizeLine := by
    rw [z1.length, ho.length, List.length_mergeSort, ← e.length]
    exact hlen
  exact ⟨.ref _, upd H (s.heap.objs.size + 1) (.lst zs), I.laid (t' := s.toks) (fun _ _ => PyProof.Rows.sortedAll_old) (Nat.le_succ _) ⟨hzl, out, ep, z1, he'⟩, rfl, q _ _ z2 (I.hok.fresh (Nat.le_succ _))⟩
end
section
open PySem.W PySem.Calls PySem.SeqAt
variable {prog : Program} {w : World} {A : Around} {E : Value → Shared → Prop} {s : Shared}
/-- what sorted gathers of a tuple -/
theorem gather_tup {tp : Addr} {us : List Value} {Q : List Value → Shared → Prop} (ht0 : IsTup s.heap tp us.toArray) (hz : us.length ≤ sizeLine)
    (k : Q us { s with heap := (s.heap.push (seqObj "list" #[] 0)).update s.heap.objs.size (Obj.mapSeq (· ++ us.toArray)) }) : wpAny (model prog w) A (collect (.ref tp)) Q E s := by
  obtain ⟨ob, hob, hcl, cnt, hdt⟩ := ht0
  unfold collect
  refine wpAny_bind (wpAny_runValue (codeAny_builtin entry_proto_collect' (?_ : wpAny _ _ (do again (.builtin "list.__iadd__" ⟨[← newList [], .ref tp], []⟩)) _ _ s)))
  refine wpAny_bind (wpAny_newList (wpAny_pure ⟨Code.quiet_builtin _ (by decide +kernel), codeAny_builtin entry_list_iadd' (?_ : wpAny _ _ (Builtin.List.listExtendWith (.ref s.heap.objs.size) (.ref tp) (.ref s.heap.objs.size)) _ _ { s with heap := s.heap.push (seqObj "list" #[] 0) })⟩))
  unfold Builtin.List.listExtendWith
  have hob2 : (s.heap.push (seqObj "list" #[] 0)).get? tp = some ob := Heap.get?_push_of_some _ hob
  have fresh2 : (s.heap.push (seqObj "list" #[] 0)).get? s.heap.objs.size = some (seqObj "list" #[] 0) := Heap.get?_push_size _ rfl
  refine wpAny_bind (wpAny_typeOf (T := "tuple") ⟨ob, hob2, hcl⟩ ?_)
  have same : (Value.type "tuple" == Value.type "tuple") = true := by rfl
  rw [if_pos (by rw [same]; simp)]
  refine wpAny_bind (listItems_at hob2 hdt (wpAny_bind (listItems_at (xs := #[]) (n := 0) fresh2 rfl ?_)))
  rw [if_neg (by simp)]
  have hsz2 : ((#[] : Array Value) ++ us.toArray).size ≤ sizeLine + 1 := by simp only [Array.size_append, List.size_toArray, List.length_nil]; omega
  refine wpAny_bind (listUpdate_at (xs := #[]) (n := 0) fresh2 rfl ?_ (Nat.zero_le _) (by show (#[] ++ us.toArray).size ≤ sizeLine + 1; exact hsz2))
  refine wpAny_pure (?_ : wpAny (model prog w) A (do
      let ob ← load s.heap.objs.size
      match ob.data with
      | .seq xs _ => pure xs.toList
      | _ => unsupported "internal:collect") Q E { s with heap := (s.heap.push (seqObj "list" #[] 0)).update s.heap.objs.size (Obj.mapSeq (· ++ us.toArray)) })
  refine wpAny_bind (wpAny_load (get?_update_seq fresh2 _) (?_ : wpAny _ _ (pure ((#[] : Array Value) ++ us.toArray).toList) Q E _))
  rw [show ((#[] : Array Value) ++ us.toArray).toList = us by simp]
  exact wpAny_pure k
/-- sorted of a tuple -/
theorem sorted_tupV {tp : Addr} {us : List Value} {Q : Value → Shared → Prop} {κ : PyProof.Rows.KeyKind} (ht0 : IsTup s.heap tp us.toArray) (hz : us.length ≤ sizeLine) (S : SortsAt prog w A.in1.in1 { s with heap := sortingHeap (copyHeap s.heap us) (s.heap.objs.size + 1) us } κ us)
    (k : Q (.ref (s.heap.objs.size + 1)) { s with heap := sortedAll s.heap us (sortVals κ false us us).toArray }) : wpAny (model prog w) A (call (.builtin "sorted") [.ref tp]) Q E s := by
  refine call_function_entry_kw kind_sorted plain_sorted entry_sorted (args_sorted1 _) ?_
  unfold Builtin.«sorted»
  refine wpAny_bind (m := checkCount "sorted" 1 1 _) (wpAny_pure (wpAny_bind (gather_tup ht0 hz (wpAny_bind (wpAny_newList (?_ : wpAny _ _ _ _ _ { s with heap := copyHeap s.heap us }) hz)))))
  have sz : ((s.heap.push (seqObj "list" #[] 0)).update s.heap.objs.size (Obj.mapSeq (· ++ us.toArray))).objs.size = s.heap.objs.size + 1 := by rw [Heap.size_update, size_push']
  rw [sz]
  refine wpAny_bind (wpAny_holding (wpAny_call_entry_kw slot_list_sort ⟨_, copyHeap_at s.heap us, rfl⟩ entry_list_sort (?bd : wpAny (model prog w) A.in1.in1 (Builtin.«list.sort» ⟨[.ref (s.heap.objs.size + 1)], []⟩) _ _ _) (args_list_sort _)))
  case bd =>
    refine wpAny_mono (list_sort_vals (P := fun f s' => f = .done (.ret .none) ∧ Q (.ref (s.heap.objs.size + 1)) s') (s := { s with heap := copyHeap s.heap us }) (copyHeap_at s.heap us) S hz ⟨rfl, k⟩) (fun f s' hf => ?_) fun _ _ e => e
    obtain ⟨rfl, hq⟩ := hf
    exact ⟨_, rfl, wpAny_pure ⟨_, rfl, hq⟩⟩
end
/-- the order of whole numbers -/
abbrev leZ : Int → Int → Bool := fun a b => decide (a ≤ b)
def rSortTup (K : PySem.W.Frag) : List V → Hp → VK → Prop := fun vs H Q => ∃ (a : Addr) (ns : List Int), vs = [V.ref a] ∧ SqT K H a (ns.map V.int) ∧ ∀ p, H p = none → Q (.ref p) (upd H p (.lst ((ns.mergeSort leZ).map V.int)))
section
open PySem.W PySem.Calls PySem.SeqAt
theorem each_ints {h : Heap} : ∀ (ns : List Int) (us : List Value), Vals (ns.map V.int) us → EachIs (fun v i => RelV (.int i) v) us ns ∧ EachIs (fun v d => ∃ as, Reads h v d as) us (ns.map PyData.int)
  | [], _, r => by cases r; exact ⟨.nil, .nil⟩
  | i :: ns, _, r => by
    cases r with
    | cons r1 r2 =>
      obtain ⟨a, b⟩ := each_ints ns _ r2
      obtain ⟨t, rfl⟩ := r1
      exact ⟨.cons ⟨t, rfl⟩ a, .cons ⟨_, .int _ _⟩ b⟩
theorem vals_each : ∀ (ns : List Int) (us : List Value), EachIs (fun v i => RelV (.int i) v) us ns → Vals (ns.map V.int) us
  | _, _, .nil => .nil
  | _, _, .cons r t => .cons r (vals_each _ _ t)
theorem each_ints' {h : Heap} : ∀ {us : List Value} {ns : List Int}, EachIs (fun v i => RelV (.int i) v) us ns → EachIs (fun v i => ∃ as, Reads h v (PyData.int i) as) us ns
  | _, _, .nil => .nil
  | _, _, .cons r t => by obtain ⟨u, rfl⟩ := r; exact .cons ⟨_, .int _ _⟩ (each_ints' t)
theorem cr_sortTup {X : Cx} (hu : X.A.units + 64 < cLine) : CallR X (.builtin "sorted") (rSortTup X.K) := by
  intro pins s σ H vs us Q I r h
  obtain ⟨a, ns, rfl, hs, q⟩ := h
  obtain ⟨its, rv, ht, hz⟩ := I.tuple hs
  rw [Vals.ref1 r]
  have hlen : its.length ≤ sizeLine := by rw [← rv.length]; exact hz
  obtain ⟨e, _⟩ := each_ints (h := s.heap) ns its rv
  have er : EachIs (fun v d => ∃ as, Reads (sortingHeap (copyHeap s.heap its) (s.heap.objs.size + 1) its) v d as) its (ns.map PyData.int) := (each_ints ns its rv).2
  have hal : AllAlike (ns.map PyData.int) := AllAlike.of fun _ _ => rfl
  have hub : ∀ d, d ∈ ns.map PyData.int → X.A.in1.in1.units + d.depth < cLine := fun d hd => by
    obtain ⟨g, _, rfl⟩ := List.mem_map.mp hd
    have e1 : X.A.in1.in1.units = X.A.units + 2 := rfl
    rw [show (PyData.int g).depth = 0 by simp [PyData.depth]]
    omega
  have S := SortsAt.data (prog := X.prog) (w := X.w) (A := X.A.in1.in1) (s := { s with heap := sortingHeap (copyHeap s.heap its) (s.heap.objs.size + 1) its }) er hal (.inr fun d hd => by obtain ⟨g, _, rfl⟩ := List.mem_map.mp hd; exact ⟨nofun, nofun⟩) hub
  have out := sortVals_data false (enc := PyData.int) e (each_ints' (h := sortingHeap (copyHeap s.heap its) (s.heap.objs.size + 1) its) e) hal
  rw [show PySem.W.dataLe false PyData.int = leZ from dataLe_int (fun b : Int => b)] at out
  refine sorted_tupV ht hlen S ?_
  obtain ⟨ep, he'⟩ := PyProof.Rows.sortedAll_at s.heap its (sortVals (dataKind (sortingHeap (copyHeap s.heap its) (s.heap.objs.size + 1) its) (ns.map PyData.int)) false its its).toArray
  have z1 := vals_each _ _ out
  have hzl : ((ns.mergeSort leZ).map V.int).length ≤ sizeLine := by
    rw [z1.length, out.length, List.length_mergeSort, ← e.length]
    exact hlen
  exact ⟨.ref _, upd H (s.heap.objs.size + 1) (.lst ((ns.mergeSort leZ).map V.int)), I.laid (t' := s.toks) (fun _ _ => PyProof.Rows.sortedAll_old) (Nat.le_succ _) ⟨hzl, _, ep, z1, he'⟩, rfl, q _ (I.hok.fresh (Nat.le_succ _))⟩
end

end Fy

namespace Fy
open PySem PySem.Spec PyProof.Rows L2
/-! ### sorting, joining, cutting; loops that lay items into one list -/
section
variable {K : PySem.W.Frag} {σ : L2.St} {H H' : Hp} {ta tb te tl : TE} {d e z : PyData} {ds : List PyData} {D : Ends} {tu tz : TS} {g : TG}
theorem cn_sortTI {L : List (List Int)} (hk : SortI L) : CN K (rSortTI K) [.list (L.map eI)] ((L.mergeSort leI).map eI) := fun H vs h Q q => by
  cases h with
  | cons h1 h2 =>
    cases h2
    obtain ⟨a, xs, rfl, h3, h4⟩ := dp_lst.mp h1
    exact ⟨a, xs, L, rfl, h3, h4, hk, fun zs p hz hp => q _ _ (Evl.Ex.new hp) ⟨p, zs, rfl, hp, upd_same, dpa_mono (Evl.Ex.new hp) _ _ hz⟩⟩
theorem cn_sortTup {ns : List Int} : CN K (rSortTup K) [eI ns] ((ns.mergeSort leZ).map .int) := fun H vs h Q q => by
  cases h with
  | cons h1 h2 =>
    cases h2
    obtain ⟨a, rfl, h3⟩ := dp_eI.mp h1
    exact ⟨a, ns, rfl, h3, fun p hp => q _ _ (Evl.Ex.new hp) ⟨p, _, rfl, hp, upd_same, dpa_ints.mpr rfl⟩⟩
theorem rd_catA {ns ms : List Int} (hl : ns.length + ms.length ≤ 100000) : RD K (rCatA K) (eI ns) (eI ms) (eI (ns ++ ms)) := fun H x y hx hy Q q => by
  obtain ⟨a, rfl, h1⟩ := dp_eI.mp hx
  obtain ⟨b, rfl, h2⟩ := dp_eI.mp hy
  refine ⟨a, b, _, _, rfl, rfl, h1, h2, Evl.sz_of (by rw [List.length_map, List.length_map]; exact hl), fun e => ?_, fun _ e => ?_, fun _ _ p hp => ?_⟩
  · have e' : ns = [] := List.map_eq_nil_iff.mp e
    subst e'
    exact q _ H (Evl.Ex.refl H) hy
  · have e' : ms = [] := List.map_eq_nil_iff.mp e
    subst e'
    rw [List.append_nil] at q
    exact q _ H (Evl.Ex.refl H) hx
  · exact q _ _ (Evl.Ex.new hp) (dp_eI.mpr ⟨p, rfl, SqT.of (by rw [upd_same, List.map_append])⟩)
/-- the part of a list, as data -/
def cutD (ds : List PyData) (lo hi : Option Int) : List PyData := (ds.drop (HT.sIx ds.length 0 lo)).take (HT.sIx ds.length ds.length hi - HT.sIx ds.length 0 lo)
theorem cut_dp {xs : List V} {lo hi : Option Int} (h : DpAll K H xs ds) : DpAll K H (cutV xs lo hi) (cutD ds lo hi) := by
  unfold cutV cutD
  rw [dpa_len h]
  exact dpa_take _ (dpa_drop _ h)
/-- a bound of a slice -/
def EvO (K : PySem.W.Frag) (to : TO) (σ : L2.St) (H : Hp) (o : Option Int) : Prop := ∀ H1, Ex H H1 → ∀ Q : Option Int → Hp → Prop, (∀ H2, Ex H1 H2 → Q o H2) → to σ H1 Q
theorem eo_none : EvO K tNoPart σ H none := fun H1 _ _ q => q H1 (Evl.Ex.refl H1)
theorem eo_some {i : Int} (h : EvD K te σ H (.int i)) : EvO K (tPart te) σ H (some i) := fun H1 x _ q => h H1 x _ fun v H2 x2 h2 => ⟨i, dp_int.mp h2, q H2 x2⟩
theorem en_slL {to th : TO} {lo hi : Option Int} (h : EvD K te σ H (.list ds)) (h1 : EvO K to σ H lo) (h2 : EvO K th σ H hi) : EvN K (tSl (rSlL K) te to th) σ H (cutD ds lo hi) := fun H1 x Q q =>
  h H1 x _ fun v H2 x2 hv => h1 H2 (x.trans x2) _ fun H3 x3 => h2 H3 ((x.trans x2).trans x3) _ fun H4 x4 => by
    obtain ⟨a, xs, rfl, h3, h4⟩ := dp_lst.mp hv
    have x24 := x3.trans x4
    refine ⟨a, xs, rfl, Evl.ex_l x24 h3, fun p hp => q _ _ ((x2.trans x24).trans (Evl.Ex.new hp)) ⟨p, _, rfl, Evl.fresh_back (x2.trans x24) hp, upd_same, cut_dp (dpa_mono (x24.trans (Evl.Ex.new hp)) _ _ h4)⟩⟩
theorem cutD_from (ds : List PyData) (n : Nat) : cutD ds (some (n : Int)) none = ds.drop n := by
  unfold cutD
  rw [HT.sIx_nat, HT.sIx_none]
  by_cases h : n ≤ ds.length
  · rw [Nat.min_eq_left h, List.take_of_length_le (by rw [List.length_drop]; exact Nat.le_refl _)]
  · rw [Nat.min_eq_right (by omega), List.drop_of_length_le (Nat.le_refl _), List.drop_of_length_le (by omega), List.take_nil]
theorem cutD_to (ds : List PyData) (n : Nat) : cutD ds none (some (n : Int)) = ds.take n := by
  unfold cutD
  rw [HT.sIx_nat, HT.sIx_none, List.drop_zero, Nat.sub_zero]
  by_cases h : n ≤ ds.length
  · rw [Nat.min_eq_left h]
  · rw [Nat.min_eq_right (by omega), List.take_of_length_le (Nat.le_refl _), List.take_of_length_le (by omega)]
/-! all but one list stays -/
def ExB (l : Addr) (H H' : Hp) : Prop := ∀ b o, b ≠ l → H b = some o → H' b = some o
theorem ExB.refl (l : Addr) (H : Hp) : ExB l H H := fun _ _ _ h => h
theorem ExB.trans {l : Addr} {H H1 H2 : Hp} (a : ExB l H H1) (b : ExB l H1 H2) : ExB l H H2 := fun c o n h => b c o n (a c o n h)
theorem ExB.ex {l : Addr} {H H1 : Hp} (a : Ex H H1) : ExB l H H1 := fun c o _ h => a c o h
theorem ExB.upd {l : Addr} {H H1 : Hp} {o : HO} (a : Ex H H1) : ExB l H (upd H1 l o) := fun c o n h => by rw [upd_ne n]; exact a c o h
theorem Ex.but {l : Addr} {H0 H H1 : Hp} (a : Ex H0 H) (n : H0 l = none) (b : ExB l H H1) : Ex H0 H1 := fun c o h => b c o (ne_of_none h n) (a c o h)
theorem ExB.up {l : Addr} {H H1 : Hp} {xs : List V} (a : ExB l H H1) (h : H l = some (.lst xs)) : Up H H1 :=
  ⟨fun c ys e => a c _ (fun q => by rw [q, h] at e; cases e) e, fun c o u e => a c _ (fun q => by rw [q, h] at e; cases e) e⟩
theorem ExB.sqT {l a : Addr} {H H1 : Hp} {xs ys : List V} (x : ExB l H H1) (h : H l = some (.lst xs)) (t : SqT K H a ys) : SqT K H1 a ys := (x.up h).sqT t
theorem noL_get : ∀ (es : List PyData) (i : Nat), noLs es = true → es[i]? = some d → noL d = true
  | [], i, _, e => by simp at e
  | c :: r, 0, n, e => by
    have n' : noL c = true ∧ noLs r = true := by simpa [noLs] using n
    simp at e; rw [← e]; exact n'.1
  | c :: r, i + 1, n, e => by
    have n' : noL c = true ∧ noLs r = true := by simpa [noLs] using n
    exact noL_get r i n'.2 (by simpa using e)
/-- what a turn of such a loop leaves -/
def LayS (K : PySem.W.Frag) (l : Addr) (H : Hp) (Pv : L2.St → Prop) (acc : List PyData) : L2.St → Hp → Prop := fun σ3 H3 => Pv σ3 ∧ ExB l H H3 ∧ ∃ ys, H3 l = some (.lst ys) ∧ DpAll K H3 ys acc
/-- over a list that the loop alone holds (made behind l) -/
theorem w_layN {l : Addr} {H0 : Hp} (h : EvN K tl σ H ds) (hn : noLs ds = true) (x0 : Ex H0 H) (l0 : H0 l = none) (acc : Nat → List PyData) (ha : ∀ i, noLs (acc i) = true) (l1 : ∃ ys, H l = some (.lst ys) ∧ DpAll K H ys (acc 0)) (Pv : Nat → L2.St → Prop) (p0 : Pv 0 σ)
    (hs : ∀ i d x σ' H' ys, ds[i]? = some d → Ex H0 H' → Dp K H' x d → Pv i σ' → H' l = some (.lst ys) → DpAll K H' ys (acc i) → g x σ' H' fun σ2 H2 => tu { D with nx := LayS K l H' (Pv (i + 1)) (acc (i + 1)), ct := LayS K l H' (Pv (i + 1)) (acc (i + 1)), bk := tz D } σ2 H2)
    (hd : ∀ σ' H' ys, Ex H0 H' → Pv ds.length σ' → H' l = some (.lst ys) → DpAll K H' ys (acc ds.length) → tz D σ' H') : tSeq (tFor (iList K tl) g tu) tz D σ H :=
  h H (Evl.Ex.refl H) _ fun v H1 x hv => by
    obtain ⟨p, xs, rfl, pn, h1, h2⟩ := hv
    obtain ⟨ys0, l1, d1⟩ := l1
    have pl : p ≠ l := fun e => by rw [e, l1] at pn; cases pn
    have hl := dpa_len h2
    refine ⟨p, rfl, ⟨xs, SqL.of h1⟩, fun i m σ' H' => m = xs.length - i ∧ i ≤ xs.length ∧ Ex H0 H' ∧ Pv i σ' ∧ H' p = some (.lst xs) ∧ DpAll K H' xs ds ∧ ∃ ys, H' l = some (.lst ys) ∧ DpAll K H' ys (acc i), ⟨xs.length, by simp, Nat.zero_le _, x0.trans x, p0, h1, h2, ys0, x _ _ l1, dpa_mono x _ _ d1⟩, ?_⟩
    rintro i m σ' H' ⟨rfl, hi, e0, pv, ep, ed, ys, el, ea⟩
    by_cases hlt : i < xs.length
    · refine .inr ⟨⟨xs, xs[i], SqL.of ep, by simp [hlt]⟩, LayS K l H' (Pv (i + 1)) (acc (i + 1)), fun σ3 H3 p3 => ?_, fun y H2 yy => ?_⟩
      · obtain ⟨p1, p2, p3⟩ := p3
        have u := p2.up el
        exact ⟨xs.length - (i + 1), by omega, rfl, hlt, e0.but l0 p2, p1, p2 _ _ pl ep, dpa_up u _ _ hn ed, p3⟩
      · obtain ⟨e2, yy⟩ := yy
        subst e2
        obtain ⟨d, hd', hdy⟩ := dpa_get ed (yy xs (SqL.of ep))
        exact hs i d y σ' _ ys hd' e0 hdy pv el ea
    · have e2 : i = xs.length := by omega
      subst e2
      rw [hl] at pv ea
      exact .inl ⟨⟨xs, SqL.of ep, Nat.le_refl _⟩, hd σ' H' ys e0 pv el ea⟩
/-- over a tuple -/
theorem w_layT {l : Addr} {H0 : Hp} (h : EvD K tl σ H (.tuple ds)) (hn : noLs ds = true) (x0 : Ex H0 H) (l0 : H0 l = none) (acc : Nat → List PyData) (ha : ∀ i, noLs (acc i) = true) (l1 : ∃ ys, H l = some (.lst ys) ∧ DpAll K H ys (acc 0)) (Pv : Nat → L2.St → Prop) (p0 : Pv 0 σ)
    (hs : ∀ i d x σ' H' ys, ds[i]? = some d → Ex H0 H' → Dp K H' x d → Pv i σ' → H' l = some (.lst ys) → DpAll K H' ys (acc i) → g x σ' H' fun σ2 H2 => tu { D with nx := LayS K l H' (Pv (i + 1)) (acc (i + 1)), ct := LayS K l H' (Pv (i + 1)) (acc (i + 1)), bk := tz D } σ2 H2)
    (hd : ∀ σ' H' ys, Ex H0 H' → Pv ds.length σ' → H' l = some (.lst ys) → DpAll K H' ys (acc ds.length) → tz D σ' H') : tSeq (tFor (iTup K tl) g tu) tz D σ H :=
  h H (Evl.Ex.refl H) _ fun v H1 x hv => by
    obtain ⟨p, xs, rfl, h1, h2⟩ := dp_tup.mp hv
    obtain ⟨ys0, l1, d1⟩ := l1
    have hl := dpa_len h2
    refine ⟨p, rfl, ⟨xs, h1⟩, fun i m σ' H' => m = xs.length - i ∧ i ≤ xs.length ∧ Ex H0 H' ∧ Pv i σ' ∧ SqT K H' p xs ∧ DpAll K H' xs ds ∧ ∃ ys, H' l = some (.lst ys) ∧ DpAll K H' ys (acc i), ⟨xs.length, by simp, Nat.zero_le _, x0.trans x, p0, h1, h2, ys0, x _ _ l1, dpa_mono x _ _ d1⟩, ?_⟩
    rintro i m σ' H' ⟨rfl, hi, e0, pv, ep, ed, ys, el, ea⟩
    by_cases hlt : i < xs.length
    · refine .inr ⟨⟨xs, xs[i], ep, by simp [hlt]⟩, LayS K l H' (Pv (i + 1)) (acc (i + 1)), fun σ3 H3 p3 => ?_, fun y H2 yy => ?_⟩
      · obtain ⟨p1, p2, p3⟩ := p3
        have u := p2.up el
        exact ⟨xs.length - (i + 1), by omega, rfl, hlt, e0.but l0 p2, p1, u.sqT ep, dpa_up u _ _ hn ed, p3⟩
      · obtain ⟨e2, yy⟩ := yy
        subst e2
        obtain ⟨d, hd', hdy⟩ := dpa_get ed (yy xs ep)
        exact hs i d y σ' _ ys hd' e0 hdy pv el ea
    · have e2 : i = xs.length := by omega
      subst e2
      rw [hl] at pv ea
      exact .inl ⟨⟨xs, ep, Nat.le_refl _⟩, hd σ' H' ys e0 pv el ea⟩
/-- l.append(e) at a turn's end -/
theorem w_lay {l : Addr} {i : Nat} {ys : List V} {acc acc' : List PyData} {H0 : Hp} {Pv : L2.St → Prop} (hi : σ[i]? = some (some (.ref l))) (he : EvD K te σ H d) (hb : ExB l H0 H) (hx : H l = some (.lst ys)) (hd : DpAll K H ys acc) (ha : noLs acc = true) (hn : noL d = true) (hl : acc.length < 100000) (e : acc' = acc ++ [d]) (hp : Pv σ) (k : ∀ σ' H', LayS K l H0 Pv acc' σ' H' → D.nx σ' H') : tDrop (tBM K "list" rAppend (tVar i) (tCons te tNil)) D σ H := by
  refine ⟨_, hi, .inl ⟨rfl, _, SqL.of hx⟩, he H (Evl.Ex.refl H) _ fun v H1 x hv => ⟨l, ys, v, rfl, rfl, x _ _ hx, Evl.sz_lt (by rw [dpa_len hd]; exact hl), k _ _ ⟨hp, hb.trans (ExB.upd x), ys ++ [v], upd_same, ?_⟩⟩⟩
  have u : Up H1 (upd H1 l (.lst (ys ++ [v]))) := Up.lst (x _ _ hx)
  rw [e]
  exact dpa_snoc (dpa_up u _ _ ha (dpa_mono x _ _ hd)) (dp_up u _ _ hn hv)
theorem i_SortTI {tr : TA} {K' : PySem.W.Frag} (h : EvD K (tCB (rSortTI K') tr) σ H d) : EvD K (tCB (rSortTI K') tr) σ H d := h
theorem i_SortTup {tr : TA} {K' : PySem.W.Frag} (h : EvD K (tCB (rSortTup K') tr) σ H d) : EvD K (tCB (rSortTup K') tr) σ H d := h
theorem i_CatA {K' : PySem.W.Frag} (h : RD K (rCatA K') d e z) : RD K (rCatA K') d e z := h
end

end Fy

namespace Fy
open PySem PySem.Spec PyProof.Rows L2
/-! ### try with several clauses whose suites raise -/
inductive HdsX (X : Cx) (Wo : WX) : List ExceptHandler → List (Value × (Addr → Value → Option Addr → TS)) → Prop
  | nil : HdsX X Wo [] []
  | cons {x : Str} {c : Value} {ts : Addr → Value → Option Addr → TS} {b0 : Stmt} {su : List Stmt} {p1 p2 : Pos} {hds : List ExceptHandler} {l : List (Value × (Addr → Value → Option Addr → TS))} (hc : Names X x c)
      (hsu : ∀ (a : Addr) (oe : Obj) (cls : Value) (d : Option Addr) (pn : List (Addr × Obj)), L2N.Zn cls d oe → (∃ vs, oe.data = .fields vs) → L2.Takes (L2H.suiteX X a ((a, oe) :: pn)) Wo → L2H.HotC (L2H.suiteX X a ((a, oe) :: pn)) → PSs (L2H.suiteX X a ((a, oe) :: pn)) (b0 :: su) (ts a cls d)) (r : HdsX X Wo hds l) :
      HdsX X Wo (.ExceptHandler (some (.Name x p1)) none (b0 :: su) p2 :: hds) ((c, ts) :: l)
theorem ps_try_manyX {X : Cx} {body : List Stmt} {h0 : ExceptHandler} {hds : List ExceptHandler} {l : List (Value × (Addr → Value → Option Addr → TS))} {pos : Pos} {tb : WX → TS} {Wo : WX}
    (stk : X.stack = X.env :: X.outer) (frm : X.env.frame = some X.env.locals) (pa : ∀ hd : Option Value, PassesOwnAt (model X.prog X.w) (X.A.mark hd) X.A X.env X.xe) (tk : L2.Takes X Wo)
    (hb : ∀ (W : WX) (pn : List (Addr × Obj)) (xe : Value → Shared → Prop), L2N.Takes (X.tr pn xe) W → PassesOwn (model X.prog X.w) X.A X.env xe → PSs (X.tr pn xe) body (tb W))
    (hh : HdsX X Wo (h0 :: hds) l) : PS X (.Try body (h0 :: hds) [] [] pos) (fun D σ H => tb (wMany X.K Wo D l) D σ H) := by
  refine ⟨fun pns s σ H D I q => ?_⟩
  have okx := I.ok
  have frs1 : X.A.frames = some (X.env :: X.outer) := by rw [okx.frames, stk]
  refine wpAny_Try_except (wpAny_mono ((hb (wMany X.K Wo D l) (X.pn ++ pns) (fun u1 t1 => wpAny (model X.prog X.w) X.A (noteFrame u1 X.env) (fun _ t2 => wpAny (model X.prog X.w) X.A (setFlight u1 none) (fun _ t3 =>
    wpAny (model X.prog X.w) X.A (handleBy u1 X.env (h0 :: hds)) (SP X pns D) X.xe t3) X.xe t2) X.xe t1) (fun u1 s1 air => ?_) PassesOwn.looking).run [] s σ H D (I.toTry _) q) (fun f s1 fin => ?_) (fun _ _ z => z))
  · obtain ⟨ea, B, sJ, pns', σ1, H1, ec, ed, rfl, J0, nb, up, sk, na, os, ag, w⟩ := air
    have J : Inv X pns σ1 H1 sJ := J0.ofTry okx
    rw [show (X.tr (X.pn ++ pns) _).stack = X.env :: X.outer from stk] at sk
    refine L2N.Sky.land L2N.Zn.steady frs1 frm sk fun g3 fl3 up3 => ?_
    have J3 : Inv X pns σ1 H1 { s1 with heap := g3 } := J.landed nb fl3.1 (up.trans up3) os ag
    obtain ⟨o3, f3, e3, z3, d3⟩ := fl3.there
    have nfr : ea ∉ frs (X.env :: X.outer) := fun hm => by
      obtain ⟨_, ob, eb, hnf⟩ := fl3.2.2.1.mem hm
      rw [e3] at eb
      cases eb
      exact hnf _ d3
    have nL : ea ≠ X.env.locals := fun z => nfr (List.mem_filterMap.mpr ⟨X.env, List.mem_cons_self, by rw [frm, z]⟩)
    have nF : ea ∉ X.fs := fun hm => by
      obtain ⟨en, he, qe⟩ := List.mem_filterMap.mp hm
      exact nfr (List.mem_filterMap.mpr ⟨en, List.mem_cons_of_mem _ he, qe⟩)
    have S3 := J3.suite e3 d3 na nL nF
    have ind : ∀ {hs' : List ExceptHandler} {l' : List (Value × (Addr → Value → Option Addr → TS))}, HdsX X Wo hs' l' → wMany X.K Wo D l' ec ed σ1 H1 → wpAny (model X.prog X.w) X.A (handleBy (.ref ea) X.env hs') (SP X pns D) X.xe { s1 with heap := g3 } := by
      intro hs' l' hk
      induction hk with
      | nil =>
        intro wz
        refine wpAny_handleBy_nil ?_
        obtain ⟨_, _, _, ob, vs, T, oT, tz, he, hz, hd, h1, _⟩ := id fl3
        unfold PySem.passOn
        refine wpAny_bind (wpAny_field he hd h1 ?_)
        rw [if_neg (show ¬ ((Value.ref T == Value.none) = true) by simp)]
        have out : wpAny (model X.prog X.w) X.A (setFlight (.ref ea) X.env.frame) (fun _ s4 => wpAny (model X.prog X.w) X.A (throw (.ref ea) : Sem Flow) (SP X pns D) X.xe s4) X.xe { s1 with heap := g3 } := by
          rw [frm]
          refine HandSPX.setFlight_upZ fl3 fun g4 hh4 up4 => wpAny_throw (tk _ _ ⟨ea, B, sJ, pns, σ1, H1, ec, ed, rfl, J, nb, (up.trans up3).trans up4, ?_, na, os, ag, wz⟩)
          refine zcOf (.inr (.inr ?_))
          rw [stk]
          exact hh4
        first
          | exact wpAny_bind (wpAny_pure (wpAny_bind out))
          | exact wpAny_bind out
      | @cons x c ts b0 su p1 p2 hds2 l2 hc hsu r ih =>
        intro wz
        obtain ⟨b, hb1, hyes, hno⟩ := wz
        refine wpAny_handleBy_cons (codeAny_handlers_test ?_) (by intro z; cases z)
        have lk : PySem.W.Looks (model X.prog X.w) g3 (typeOf (.ref ea)) ec := fun _ _ _ _ k g => wpAny_typeOf_ref (k _ _ e3) (by rw [z3.1]; exact g)
        have lm := PySem.W.exm_one (M := model X.prog X.w) (J3.kIn) lk hb1
        have nmd : ∀ {Q E : Value → Shared → Prop}, Q c { s1 with heap := g3 } → wpAny (model X.prog X.w) (X.A.mark (some (.ref ea))) (eval (.Name x p1) X.env) Q E { s1 with heap := g3 } := by
          intro Q E g
          obtain ⟨n1, n2, n3 | ⟨n3, n4, n5⟩⟩ := hc
          · exact ld_glob (X := X.suite ea ((ea, o3) :: (X.pn ++ pns))) S3 n1 n3 g n2
          · exact ld_blt (X := X.suite ea ((ea, o3) :: (X.pn ++ pns))) S3 n1 n3 n4 g n5 n2
        refine nmd (lm.here ?_)
        cases b with
        | false => exact ih (hno rfl)
        | true =>
          refine codeAny_handlers_suite (HandSPX.lands_againZ fl3 fun g4 fl4 up4 => ?_)
          have J4 : Inv X pns σ1 H1 { s1 with heap := g4 } := J.landed nb fl4.1 ((up.trans up3).trans up4) os ag
          obtain ⟨o4, f4, e4, z4, d4⟩ := fl4.there
          have tk2 : L2.Takes (L2H.suiteX X ea ((ea, o4) :: (X.pn ++ pns))) Wo := fun u2 t2 x2 => by
            obtain ⟨y1, y2, y3, y4, y5, y6, y7, y8, y9, I2, r2⟩ := x2
            exact tk u2 t2 ⟨y1, y2, y3, pns, y5, y6, y7, y8, y9, L2H.unsuiteX I2 okx, r2⟩
          have hot : L2H.HotC (L2H.suiteX X ea ((ea, o4) :: (X.pn ++ pns))) := ⟨(ea, o4), ⟨rfl, f4, d4, z4.2.2 f4 d4⟩, List.mem_cons_self⟩
          refine wpAny_mono ((hsu ea o4 ec ed (X.pn ++ pns) z4 ⟨_, d4⟩ tk2 hot).run [] _ _ H1 _ (L2H.suiteX_of (J4.suite e4 d4 na nL nF)) (hyes rfl ea na)) ?_ (fun e6 s6 z => pa (some (.ref ea)) e6 s6 z)
          rintro (_ | _ | _ | u) s6 g6
          case ret =>
            obtain ⟨v6, σ6, H6, S6, r6, q6⟩ := g6
            exact ⟨_, _, _, L2H.unsuiteX S6 okx, r6, q6⟩
          all_goals
            obtain ⟨σ6, H6, S6, q6⟩ := g6
            exact ⟨_, _, L2H.unsuiteX S6 okx, q6⟩
    exact ind hh w
  · rcases f with _ | _ | _ | u
    case next =>
      obtain ⟨σ1, H1, J, g⟩ := fin
      exact wpAny_execs_nil ⟨σ1, H1, J.ofTry okx, g⟩
    case ret =>
      obtain ⟨v, σ1, H1, J, r, g⟩ := fin
      exact ⟨v, σ1, H1, J.ofTry okx, r, g⟩
    all_goals
      obtain ⟨σ1, H1, J, g⟩ := fin
      exact ⟨σ1, H1, J.ofTry okx, g⟩
/-- raise C('..') in a suite -/
theorem ps_raiseHot {X : Cx} {W : WX} {x m : Str} {j : Nat} {p p2 p3 pos : Pos} (hot : L2H.HotC X) (tk : L2.Takes X W) (q : ExOk X.K (He.ga X.K x)) (gC : X.mg x = some (.ref (He.ga X.K x))) (hg : Gl X x) (hdb : (x == ("__debug__" : Str)) = false := by decide) :
    PS X (.Raise (some (.Call (.Name x p) [.Constant (.str m) j p2] [] p3)) none pos) (fun _ σ H => W (.ref (He.ga X.K x)) none σ H) :=
  L2H.ps_raiseH hot tk (L2N.pmk_own PySem.F.excBase_ValueError q.ex gC q.kp (raises_own q.sub q.ty) hg hdb)

end Fy

namespace Fy
open PySem PySem.Spec PyProof.Rows L2
/-! ### read, walked -/
/-- all but two lists stays -/
def Ex2 (l m : Addr) (H H' : Hp) : Prop := ∀ b o, b ≠ l → b ≠ m → H b = some o → H' b = some o
theorem Ex2.ex {l m : Addr} {H H' : Hp} (e : Ex H H') : Ex2 l m H H' := fun b o _ _ h => e b o h
theorem Ex2.but {l m : Addr} {Hb H H' : Hp} (a : Ex Hb H) (nl : Hb l = none) (nm : Hb m = none) (e : Ex2 l m H H') : Ex Hb H' := fun b o h => e b o (ne_of_none h nl) (ne_of_none h nm) (a b o h)
theorem ex2_upd {l m k : Addr} {H H' : Hp} {o : HO} (e : Ex H H') (h : k = l ∨ k = m) : Ex2 l m H (upd H' k o) := fun b u h1 h2 hb => by
  rw [upd_ne (fun z => by rcases h with h | h; exact h1 (z.trans h); exact h2 (z.trans h))]
  exact e b u hb
/-- a new list whose items stood in Hb -/
def EvS0 (K : PySem.W.Frag) (te : TE) (σ : L2.St) (H Hb : Hp) (ds : List PyData) : Prop := ∀ Q : VK, (∀ p xs H2, Ex H H2 → H p = none → H2 p = some (.lst xs) → DpAll K Hb xs ds → Q (.ref p) H2) → te σ H Q
section
variable {K : PySem.W.Frag} {σ : L2.St} {H Hb : Hp} {ta tb tl : TE} {D : Ends} {tu tz : TS} {ds : List PyData}
theorem es_slice {i : Nat} {v : V} {to th : TO} {lo hi : Option Int} (hi' : σ[i]? = some (some v)) (hv : Dp K Hb v (.list ds)) (xb : Ex Hb H) (h1 : EvO K to σ H lo) (h2 : EvO K th σ H hi) : EvS0 K (tSl (rSlL K) (tVar i) to th) σ H Hb (cutD ds lo hi) := fun Q q =>
  ⟨v, hi', h1 H (Evl.Ex.refl H) _ fun H3 x3 => h2 H3 x3 _ fun H4 x4 => by
    obtain ⟨a, xs, rfl, h3, h4⟩ := dp_lst.mp hv
    have x34 := x3.trans x4
    exact ⟨a, xs, rfl, Evl.ex_l (xb.trans x34) h3, fun p hp => q p _ _ (x34.trans (Evl.Ex.new hp)) (Evl.fresh_back x34 hp) upd_same (cut_dp h4)⟩⟩
theorem w_for2 {j : Nat} {l m : Addr} (h : EvS0 K tl σ H Hb ds) (xb : Ex Hb H) (lb : Hb l = none) (mb : Hb m = none) (hl : ∃ o, H l = some o) (hm : ∃ o, H m = some o) (Pv : Nat → L2.St → Hp → Prop) (p0 : ∀ H1, Ex H H1 → Pv 0 σ H1)
    (hs : ∀ i d x σ' H', ds[i]? = some d → Ex Hb H' → Dp K H' x d → Pv i σ' H' → tu { D with nx := fun σ3 H3 => Ex2 l m H' H3 ∧ Pv (i + 1) σ3 H3, ct := fun σ3 H3 => Ex2 l m H' H3 ∧ Pv (i + 1) σ3 H3, bk := tz D } (σ'.set j (some x)) H')
    (hd : ∀ σ' H', Ex Hb H' → Pv ds.length σ' H' → tz D σ' H') : tSeq (tFor (iList K tl) (gName j) tu) tz D σ H := h _ fun p xs H1 x1 p0' p1 p2 => by
  have hl' := dpa_len p2
  have pl : p ≠ l := fun e => by obtain ⟨o, ho⟩ := hl; rw [e, ho] at p0'; cases p0'
  have pm : p ≠ m := fun e => by obtain ⟨o, ho⟩ := hm; rw [e, ho] at p0'; cases p0'
  refine ⟨p, rfl, ⟨xs, SqL.of p1⟩, fun i n σ' H' => n = xs.length - i ∧ i ≤ xs.length ∧ Ex Hb H' ∧ H' p = some (.lst xs) ∧ Pv i σ' H', ⟨xs.length, by simp, Nat.zero_le _, xb.trans x1, p1, p0 H1 x1⟩, ?_⟩
  rintro i n σ' H' ⟨rfl, hi, eb, ep, pv⟩
  by_cases hlt : i < xs.length
  · refine .inr ⟨⟨xs, xs[i], SqL.of ep, by simp [hlt]⟩, fun σ3 H3 => Ex2 l m H' H3 ∧ Pv (i + 1) σ3 H3, fun σ3 H3 p3 => ⟨xs.length - (i + 1), by omega, rfl, hlt, Ex2.but eb lb mb p3.1, p3.1 _ _ pl pm ep, p3.2⟩, fun y H2 yy => ?_⟩
    obtain ⟨e2, yy⟩ := yy
    subst e2
    obtain ⟨d, hd', hdy⟩ := dpa_get p2 (yy xs (SqL.of ep))
    exact hs i d y σ' _ hd' eb (dp_mono eb _ _ hdy) pv
  · have e2 : i = xs.length := by omega
    subst e2
    rw [hl'] at pv
    exact .inl ⟨⟨xs, SqL.of ep, Nat.le_refl _⟩, hd σ' H' eb pv⟩
end
theorem atI_last {α : Type} {xs : List α} {z : α} (h : xs.getLast? = some z) : atI xs (-1) = some z := by
  unfold atI ixN
  rw [List.getLast?_eq_getElem?] at h
  have hl : 0 < xs.length := by
    cases xs with
    | nil => simp at h
    | cons a r => simp
  rw [if_neg (by decide), if_pos (by omega)]
  show xs[((-1 : Int) + (xs.length : Int)).toNat]? = some z
  rw [show ((-1 : Int) + (xs.length : Int)).toNat = xs.length - 1 by omega]
  exact h
theorem cutD_mid (ds : List PyData) (j k : Nat) : cutD ds (some (j : Int)) (some (k : Int)) = (ds.drop j).take (k - j) := by
  unfold cutD
  rw [HT.sIx_nat, HT.sIx_nat]
  by_cases h : j ≤ ds.length
  · rw [Nat.min_eq_left h]
    by_cases h2 : k ≤ ds.length
    · rw [Nat.min_eq_left h2]
    · rw [Nat.min_eq_right (by omega), List.take_of_length_le (by rw [List.length_drop]; omega), List.take_of_length_le (by rw [List.length_drop]; omega)]
  · rw [Nat.min_eq_right (show ds.length ≤ j by omega), List.drop_of_length_le (Nat.le_refl ds.length), List.drop_of_length_le (show ds.length ≤ j by omega), List.take_nil, List.take_nil]
theorem restW_eq (W : List (List Str)) (h : 1 ≤ W.length) : cutD (W.map eWs) (some 1) (some ((W.length : Int) - 1)) = (restW W).map eWs := by
  have z := cutD_mid (W.map eWs) 1 (W.length - 1)
  rw [show ((W.length - 1 : Nat) : Int) = (W.length : Int) - 1 by omega] at z
  rw [show (some (1 : Int)) = some ((1 : Nat) : Int) from rfl, z]
  unfold restW
  rw [show W.length - 1 - 1 = W.length - 2 by omega, List.map_take, List.map_drop]
/-- what the making comes to, its arguments reckoned -/
theorem make_at {K : PySem.W.Frag} {E : XK} {n : Nt} {vs : List V} {H : Hp} (hvs : DpAll K H vs [.list (n.things.map eT), .int n.room, .list (n.quarrels.map eQ)]) (Q : VK)
    (q0 : n.ok = true → ∀ v H2, Ex H H2 → NightI K H H2 v n → Q v H2)
    (q1 : thingsOk n.things = false → ∀ H2, Ex H H2 → E (.ref (He.ga K "BadThing")) none H2)
    (q2 : thingsOk n.things = true → roomOk n.room = false → ∀ H2, Ex H H2 → E (.ref (He.ga K "BadRoom")) none H2)
    (q3 : thingsOk n.things = true → roomOk n.room = true → quarrelsOk n.things.length n.quarrels = false → ∀ H2, Ex H H2 → E (.ref (He.ga K "BadQuarrel")) none H2) :
    ∀ y dy, H y = none → H dy = none → dy ≠ y → spInit K (.ref y :: vs) (upd (upd H dy (.own y)) y (.ins (He.ga K "Night") dy [])) (fun v H2 => v = .non ∧ Q (.ref y) H2) E := by
  obtain ⟨t, u, s, rfl, ht, hu, hs⟩ := dpa3 hvs
  cases dp_int.mp hu
  intro x dx nx ndx nex
  have e0 := ex_made (C := He.ga K "Night") nx ndx
  refine ⟨x, dx, t, s, n, rfl, upd_same, dp_mono e0 _ _ ht, dp_mono e0 _ _ hs, fun H' ok kp hN => ⟨rfl, q0 ok _ H' (fun b o e => ?_) (hN.back e0)⟩, fun H' c ex => q1 c H' (e0.trans ex), fun H' a c ex => q2 a c H' (e0.trans ex), fun H' a b c ex => q3 a b c H' (e0.trans ex)⟩
  exact kp b o (e0 b o e) (ne_of_none e nx)
theorem headOk_cons (hd : List Str) (tl : List (List Str)) : headOk (hd :: tl) = (decide (hd.length = 2) && decide (wAt hd 0 = "boat")) := rfl
theorem lastOk_of {W : List (List Str)} {la : List Str} (h : W.getLast? = some la) : lastOk W = decide (la = [("" : Str)]) := by
  unfold lastOk
  rw [h]
  exact decide_eq_decide.mpr ⟨Option.some.inj, congrArg some⟩
theorem noteOf_eq {W : List (List Str)} (h : (lastOk W && headOk W) = true) : noteOf W = (scanW [] [] (restW W)).bind fun p => (numberOf (wAt (W.headD []) 1)).bind fun r => if (Nt.mk p.1 r p.2).ok = true then some ⟨p.1, r, p.2⟩ else none := if_pos h
section
variable {P : Program} {w : World} {K : PySem.W.Frag} {mg : Str → Option Value} {base : Heap}
theorem exmK (T : Tx K mg) {x y : Str} (hx : x ∈ exs) (hy : y ∈ exs) (b : Bool) (h : isx x y = b) : PySem.W.exmOne K (.ref (He.ga K x)) (.ref (He.ga K y)) = some b := by rw [T.exm x hx y hy, h]
theorem sc_read : FnScope ["text", "lines", "things", "quarrels", "words", "night", "line"] ["text"] (defScope s_read) := ⟨rfl, rfl, rfl, by decide +kernel, rfl, by decide +kernel, by decide +kernel⟩
theorem ok_read (T : Tx K mg) : Has P w K mg base (L2.CX P w) 4 "read" ["text"] (spRead K) := by
  obtain ⟨fd, F⟩ := T.f_read
  have G_number_of := ok_number_of (P := P) (w := w) (base := base) T
  have G_thing_of := ok_thing_of (P := P) (w := w) (base := base) T
  have G_quarrel_of := ok_quarrel_of (P := P) (w := w) (base := base) T
  refine ⟨T.g_read, fd, F.ok sc_read (fun vs H Q E h => ?_) (fun cdv A outer s H vs Q E hr h => ⟨_, (pss_cons (ps_setLc (i := 1) (hy := by rfl) (hyl := by rfl) (hsw := sw_true rfl rfl rfl (by decide +kernel)) (hc := by rfl) (hN := sc_read.nd) (own := [("line", 6)]) (g := gName 6) (hi := (pi_list (pe_split (pv 0) pe_str))) (ok := blkOk_by (N := ["text", "lines", "things", "quarrels", "words", "night", "line"]) (sc := defScope s_read) (by decide +kernel)) (hg := fun _ _ _ _ _ => pg_name (i := 6) sc_read.nd rfl (.inl rfl)) (ht := fun _ _ _ _ _ => pts_nil) (he := fun _ _ _ _ _ => (pe_split (pv 6) pe_str)))
      (pss_cons (ps_if (PW.pt (pw_or (pt_cmpR (r := rNeD K) (op_neD hr.units) (pe_ix (r := rIxL K) ix_list (pv 1) (pe_un un_neg pe_int) (fun _ _ => rfl)) (pe_lst (pa_cons pe_str pa_nil)) (nomark _)) (pw_or (pt_cmpR op_ne (pe_callB (r := rLenQ K) call_len_seq (by rfl) T.b_len (by decide +kernel) (pa_cons (pe_ix (r := rIxL K) ix_list (pv 1) pe_int (fun _ _ => rfl)) pa_nil)) pe_int (nomark _)) (pw_or1 (pt_cmpR op_ne (pe_ix (r := rIxL K) ix_list (pe_ix (r := rIxL K) ix_list (pv 1) pe_int (fun _ _ => rfl)) pe_int (fun _ _ => rfl)) pe_str (nomark _)))))) (pss_one (ps_raiseOwn rfl (takes_of rfl rfl rfl rfl) T.x_BadNote T.g_BadNote rfl)) pss_nil)
      (pss_cons (ps_set (i := 2) sc_read.nd rfl (.inl rfl) (pe_lst pa_nil))
      (pss_cons (ps_set (i := 3) sc_read.nd rfl (.inl rfl) (pe_lst pa_nil))
      (pss_cons (ps_for (passes_of rfl) rfl (pi_list (pe_slice (r := rSlL K) sl_list (pv 1) (po_some pe_int) (po_some (pe_op op_sub (pe_callB (r := rLenQ K) call_len_seq (by rfl) T.b_len (by decide +kernel) (pa_cons (pv 1) pa_nil)) pe_int)))) (pg_name (i := 4) sc_read.nd rfl (.inl rfl)) (pss_one (ps_if (PW.pt (pw_and (pt_cmpR op_eq (pe_ix (r := rIxL K) ix_list (pv 4) pe_int (fun _ _ => rfl)) pe_str (nomark _)) (pw_and1 (pt_cmpR (r := rEqD K) (op_eqD hr.units) (pv 3) (pe_lst pa_nil) (nomark _))))) (pss_one (ps_expr (pe_bm PySem.F.plainAttrs_list PySem.F.slot_list_append PySem.F.type_list_append mt_append (pv 2) (pa_cons (pe_fxN G_thing_of (hr.mono (by decide)) rfl (takesN (takes_of rfl rfl rfl rfl)) (pa_cons (pv 4) pa_nil)) pa_nil)))) (pss_one (ps_expr (pe_bm PySem.F.plainAttrs_list PySem.F.slot_list_append PySem.F.type_list_append mt_append (pv 3) (pa_cons (pe_fxN G_quarrel_of (hr.mono (by decide)) rfl (takesN (takes_of rfl rfl rfl rfl)) (pa_cons (pv 4) pa_nil)) pa_nil)))))))
      (pss_cons (ps_try_manyX rfl rfl (L2H.passesAt_of rfl) (takes_of rfl rfl rfl rfl) (fun W pn xe tk hp => (pss_one (ps_set (i := 5) sc_read.nd rfl (.inl rfl) (pe_NightS (K := K) T (hr.mono (by decide)) rfl tk (pa_cons (pv 2) (pa_cons (pe_fxN G_number_of (hr.mono (by decide)) rfl tk (pa_cons (pe_ix (r := rIxL K) ix_list (pe_ix (r := rIxL K) ix_list (pv 1) pe_int (fun _ _ => rfl)) pe_int (fun _ _ => rfl)) pa_nil)) (pa_cons (pv 3) pa_nil)))))))
      (.cons (ts := fun _ _ _ => fun _ _ H => E (.ref (He.ga K "BadNote")) none H) ⟨rfl, by decide, .inl T.g_BadThing⟩ (fun a oe cls d pn hz hf tkS hot => pss_one (ps_raiseHot hot tkS T.x_BadNote T.g_BadNote rfl)) (.cons (ts := fun _ _ _ => fun _ _ H => E (.ref (He.ga K "BadNote")) none H) ⟨rfl, by decide, .inl T.g_BadRoom⟩ (fun a oe cls d pn hz hf tkS hot => pss_one (ps_raiseHot hot tkS T.x_BadNote T.g_BadNote rfl)) (.cons (ts := fun _ _ _ => fun _ _ H => E (.ref (He.ga K "BadNote")) none H) ⟨rfl, by decide, .inl T.g_BadQuarrel⟩ (fun a oe cls d pn hz hf tkS hot => pss_one (ps_raiseHot hot tkS T.x_BadNote T.g_BadNote rfl)) .nil))))
      (pss_one (ps_ret (pv 5))))))))), ?_⟩), F.bindsN fun _ _ _ _ _ _ us hl => match us, hl with | [_], _ => rfl, F.kp⟩
  · obtain ⟨x, rfl, _⟩ := h
    rfl
  · obtain ⟨x, rfl, hl, hok, kq, ke⟩ := h
    obtain ⟨s1, s2, s3⟩ := split_nl_len x
    obtain ⟨W1, W2⟩ := lines_len x
    have sm := small_lines (N := 90000) (show x.length ≤ 90000 by omega) hok
    refine w_asgN (K := K) (ds := (linesW x).map eWs) (EvN.cast (en_mapLL (xs := Txt.split x "\n") .str (fun l => (Txt.split l " ").map .str) (fun l => noLs_map (fun _ => rfl) _) (en_split (ed_var rfl (.str _)) ed_str (by decide +kernel) (by omega)) (by omega) (fun _ => rfl) (fun i a v H1 ha x1 hv => en_split (ed_var rfl hv) ed_str (by decide +kernel) (by have := (s3 a (List.mem_of_getElem? ha)).1; omega))) (by unfold linesW; rw [List.map_map]; rfl)) (fun v1 H1 x1 hL => ?_)
    have hW := hL.dp
    generalize linesW x = W at hW W1 W2 sm kq ke
    obtain ⟨hd, tl, rfl⟩ : ∃ hd tl, W = hd :: tl := by
      cases W with
      | nil => simp at W2
      | cons a r => exact ⟨a, r, rfl⟩
    obtain ⟨la, hla⟩ : ∃ la, (hd :: tl).getLast? = some la := by
      cases e : (hd :: tl).getLast? with
      | none => simp at e
      | some la => exact ⟨la, rfl⟩
    have lam := List.mem_of_getLast? hla
    have hdS := sm hd List.mem_cons_self
    have laS := sm la lam
    have atL : atI ((hd :: tl).map eWs) (-1) = some (eWs la) := atI_last (by rw [List.getLast?_map, hla]; rfl)
    have at0 : atI ((hd :: tl).map eWs) 0 = some (eWs hd) := atI_zero
    have l0 : ∀ H' a b c d e, Ex H1 H' → EvD K (tOp (rIxL K) (tVar 1) (tC (.int 0))) [some (.str x), some v1, a, b, c, d, e] H' (eWs hd) := fun H' a b c d e x' => ed_op (d := .list ((hd :: tl).map eWs)) (e := .int 0) (ed_var rfl (dp_mono x' _ _ hW)) ed_int (rd_ixL at0)
    have e2 : decide ((hd.length : Int) = 2) = decide (hd.length = 2) := decide_eq_decide.mpr (by omega)
    have r1 := Evl.Ex.refl H1
    refine w_when K (b := !decide (la = [("" : Str)]) || (!decide ((hd.length : Int) = 2) || !decide (wAt hd 0 = "boat"))) (eb_or (eb_d (EvD.cast (ed_op (d := eWs la) (e := eWs [""]) (ed_op (d := .list ((hd :: tl).map eWs)) (e := .int (-1)) (ed_var rfl hW) (ed_un ed_int (fun _ => .int _)) (rd_ixL atL)) (en_lst (ds := [.str ""]) (eds_cons ed_str eds_nil) (show 1 ≤ 100000 by decide)).toD (rd_neD (sh_eWs fun w hw => (laS.2.2 w hw).2) (sh_eWs (by decide +kernel)))) (by rw [eqv_eWs]))) (fun _ => eb_or (eb_d (ed_op (d := .int (hd.length : Nat)) (e := .int 2) (ed_lenW (l0 H1 _ _ _ _ _ r1)) ed_int rd_neI)) (fun hq => eb_d (ed_op (d := .str (wAt hd 0)) (e := .str "boat") (ed_word 0 (l0 H1 _ _ _ _ _ r1) (by simp at hq; omega)) ed_str rd_neS)))) (fun hb H2 x2 => ?_) (fun hb H2 x2 => ?_)
    · refine ke ?_ H2 (x1.trans x2)
      unfold noteOf
      rw [if_neg]
      intro c
      rw [lastOk_of hla, headOk_cons, Bool.and_eq_true, Bool.and_eq_true] at c
      obtain ⟨c1, c2, c3⟩ := c
      rw [e2, c1, c2, c3] at hb
      cases hb
    · obtain ⟨b1, b2⟩ := Bool.or_eq_false_iff.mp hb
      obtain ⟨b2, b3⟩ := Bool.or_eq_false_iff.mp b2
      rw [e2] at b2
      have f1 : la = [("" : Str)] := by simpa using b1
      have f2 : hd.length = 2 := by simpa using b2
      have f3 : wAt hd 0 = "boat" := by simpa using b3
      have okW : (lastOk (hd :: tl) && headOk (hd :: tl)) = true := by
        rw [lastOk_of hla, headOk_cons, decide_eq_true f1, decide_eq_true f2, decide_eq_true f3]
        rfl
      have nE := noteOf_eq okW
      rw [nE] at kq ke
      clear nE
      refine w_asgN (K := K) (ds := []) (en_lst eds_nil (by decide)) (fun v3 H3 x3 h3 => ?_)
      obtain ⟨l, xs, rfl, n0, n1, n2⟩ := h3
      cases n2
      refine w_asgN (K := K) (ds := []) (en_lst eds_nil (by decide)) (fun v4 H4 x4 h4 => ?_)
      obtain ⟨m, xs, rfl, m0, m1, m2⟩ := h4
      cases m2
      have x02 := x1.trans x2
      have x24 := x3.trans x4
      have lm : l ≠ m := fun e => by rw [← e, n1] at m0; cases m0
      have mb : H2 m = none := Evl.fresh_back x3 m0
      have hW2 := dp_mono x2 _ _ hW
      have ln : EvD K (tCB (rLenQ K) (tCons (tVar 1) tNil)) [some (.str x), some v1, some (.ref l), some (.ref m), none, none, none] H4 (.int ((hd :: tl).length : Nat)) := EvD.cast (ed_cb (eds_cons (d := .list ((hd :: tl).map eWs)) (ed_var rfl (dp_mono x24 _ _ hW2)) eds_nil) cd_lenL) (by rw [List.length_map])
      have sl : EvS0 K (tSl (rSlL K) (tVar 1) (tPart (tC (.int 1))) (tPart (tOp (rI0 fun i j => .int (i - j)) (tCB (rLenQ K) (tCons (tVar 1) tNil)) (tC (.int 1))))) [some (.str x), some v1, some (.ref l), some (.ref m), none, none, none] H4 H2 ((restW (hd :: tl)).map eWs) := by
        have z := es_slice (K := K) (σ := [some (.str x), some v1, some (.ref l), some (.ref m), none, none, none]) (i := 1) (lo := some 1) (hi := some (((hd :: tl).length : Int) - 1)) rfl hW2 x24 (eo_some (te := tC (.int 1)) ed_int) (eo_some (ed_op (d := .int ((hd :: tl).length : Nat)) (e := .int 1) ln ed_int (rd_I0 (g := fun i j => .int (i - j)) fun _ => .int _)))
        rw [restW_eq _ W2] at z
        exact z
      have rl : (restW (hd :: tl)).length ≤ 50000 := by
        unfold restW
        rw [List.length_take, List.length_drop]
        omega
      have rS : ∀ ws ∈ restW (hd :: tl), Small 90000 ws := fun ws hw => sm ws (List.mem_of_mem_drop (List.mem_of_mem_take hw))
      generalize restW (hd :: tl) = R at sl rl rS kq ke
      refine w_for2 (K := K) (l := l) (m := m) sl x24 n0 mb ⟨_, x4 _ _ n1⟩ ⟨_, m1⟩ (fun i σ H' => ∃ a, σ = [some (.str x), some v1, some (.ref l), some (.ref m), a, none, none] ∧ ∃ ts qs ys zs, H' l = some (.lst ys) ∧ DpAll K H' ys (ts.map eT) ∧ H' m = some (.lst zs) ∧ DpAll K H' zs (qs.map eQ) ∧ scanW [] [] R = scanW ts qs (R.drop i) ∧ ts.length ≤ i ∧ qs.length ≤ i) (fun H5 x5 => ⟨none, rfl, [], [], [], [], x5 _ _ (x4 _ _ n1), .nil, x5 _ _ m1, .nil, rfl, Nat.le_refl _, Nat.le_refl _⟩) ?_ ?_
      · rintro i d y σ' H5 hd5 x5 hy ⟨a, rfl, ts, qs, ys, zs, hl5, hT5, hm5, hQ5, hsc, tl5, ql5⟩
        obtain ⟨ws, hws, rfl⟩ := get_map hd5
        have wsS := rS ws (List.mem_of_getElem? hws)
        have il := lt_of_get hws
        have hy' : Dp K H5 y (eWs ws) := hy
        have hdr : R.drop i = ws :: R.drop (i + 1) := by
          obtain ⟨h1, h2⟩ := List.getElem?_eq_some_iff.mp hws
          rw [List.drop_eq_getElem_cons h1, h2]
        rw [hdr] at hsc
        have hqd : Dp K H5 (.ref m) (.list (qs.map eQ)) := dp_lst.mpr ⟨m, zs, rfl, SqL.of hm5, hQ5⟩
        have shq : SeqAt.shaped (.list (qs.map eQ)) = true := sh_lst lay_eQ (fun x => Nat.le_trans (dep_eQ x) (by decide)) qs
        have x05 := x02.trans x5
        refine w_if1 K (b := decide (wAt ws 0 = "thing") && decide (qs = [])) (eb_and (eb_d (ed_op (d := .str (wAt ws 0)) (e := .str "thing") (ed_word 0 (ed_var rfl hy') wsS.1) ed_str rd_eqS)) (fun _ => eb_d (EvD.cast (ed_op (d := .list (qs.map eQ)) (e := .list []) (ed_var rfl hqd) (en_lst (ds := []) eds_nil (by decide)).toD (rd_eqD shq (by decide +kernel))) (by rw [show (PyData.list []) = .list (([] : List (Int × Int × Int)).map eQ) from rfl, eqv_lst eqv_eQ])))) (fun hb H6 x6 => ?_) (fun hb H6 x6 => ?_)
        · have hsc2 : scanW [] [] R = (thingOf ws).bind fun t => scanW (ts ++ [t]) qs (R.drop (i + 1)) := by
            rw [hsc]
            show (if _ then _ else _) = _
            rw [if_pos hb]
          have hl6 := x6 _ _ hl5
          refine ⟨_, rfl, .inl ⟨rfl, _, SqL.of hl6⟩, y, rfl, y, ws, rfl, dp_mono x6 _ _ hy', wsS, fun t ht u H7 x7 hu => ?_, fun hn H7 x7 => ke (by rw [hsc2, hn]; rfl) H7 ((x05.trans x6).trans x7)⟩
          refine ⟨l, ys, u, rfl, rfl, x7 _ _ hl6, Evl.sz_lt (by rw [dpa_len hT5, List.length_map]; omega), ex2_upd (x6.trans x7) (.inl rfl), _, rfl, ts ++ [t], qs, ys ++ [u], zs, upd_same, ?_, ?_, ?_, by rw [hsc2, ht]; rfl, by rw [List.length_append, List.length_singleton]; omega, by omega⟩
          · have u7 : Up H7 (upd H7 l (.lst (ys ++ [u]))) := Up.lst (x7 _ _ hl6)
            rw [List.map_append]
            exact dpa_snoc (dpa_up u7 _ _ (noLs_map noL_eT _) (dpa_mono (x6.trans x7) _ _ hT5)) (dp_up u7 _ _ (noL_eT t) hu)
          · rw [upd_ne (Ne.symm lm)]
            exact (x6.trans x7) _ _ hm5
          · have u7 : Up H7 (upd H7 l (.lst (ys ++ [u]))) := Up.lst (x7 _ _ hl6)
            exact dpa_up u7 _ _ (noLs_map noL_eQ _) (dpa_mono (x6.trans x7) _ _ hQ5)
        · have hsc2 : scanW [] [] R = (quarrelOf ws).bind fun q => scanW ts (qs ++ [q]) (R.drop (i + 1)) := by
            rw [hsc]
            show (if _ then _ else _) = _
            rw [if_neg (by rw [hb]; decide)]
          have hm6 := x6 _ _ hm5
          refine ⟨_, rfl, .inl ⟨rfl, _, SqL.of hm6⟩, y, rfl, y, ws, rfl, dp_mono x6 _ _ hy', wsS, fun q hq u H7 x7 hu => ?_, fun hn H7 x7 => ke (by rw [hsc2, hn]; rfl) H7 ((x05.trans x6).trans x7)⟩
          refine ⟨m, zs, u, rfl, rfl, x7 _ _ hm6, Evl.sz_lt (by rw [dpa_len hQ5, List.length_map]; omega), ex2_upd (x6.trans x7) (.inr rfl), _, rfl, ts, qs ++ [q], ys, zs ++ [u], ?_, ?_, upd_same, ?_, by rw [hsc2, hq]; rfl, by omega, by rw [List.length_append, List.length_singleton]; omega⟩
          · rw [upd_ne lm]
            exact (x6.trans x7) _ _ hl5
          · have u7 : Up H7 (upd H7 m (.lst (zs ++ [u]))) := Up.lst (x7 _ _ hm6)
            exact dpa_up u7 _ _ (noLs_map noL_eT _) (dpa_mono (x6.trans x7) _ _ hT5)
          · have u7 : Up H7 (upd H7 m (.lst (zs ++ [u]))) := Up.lst (x7 _ _ hm6)
            rw [List.map_append]
            exact dpa_snoc (dpa_up u7 _ _ (noLs_map noL_eQ _) (dpa_mono (x6.trans x7) _ _ hQ5)) (dp_up u7 _ _ (noL_eQ q) hu)
      · rintro σ' H5 x5 ⟨a, rfl, ts, qs, ys, zs, hl5, hT5, hm5, hQ5, hsc, tl5, ql5⟩
        rw [List.length_map, List.drop_length] at hsc
        have hsc2 : scanW [] [] R = some (ts, qs) := hsc
        rw [hsc2] at kq ke
        have x05 := x02.trans x5
        have hTd : Dp K H5 (.ref l) (.list (ts.map eT)) := dp_lst.mpr ⟨l, ys, rfl, SqL.of hl5, hT5⟩
        have hQd : Dp K H5 (.ref m) (.list (qs.map eQ)) := dp_lst.mpr ⟨m, zs, rfl, SqL.of hm5, hQ5⟩
        have x15 := x2.trans x5
        have w1l : (wAt hd 1).length ≤ 100000 := by
          have := (hdS.2.2 (wAt hd 1) (List.mem_of_getElem? (wAt_get (show 1 < hd.length by omega)))).1
          omega
        refine ⟨_, rfl, call_number (K := K) (ed_word 1 (l0 H5 _ _ _ _ _ x15) (by omega)) w1l (fun r hr H6 x6 => ?_) (fun hn H6 x6 => ?_)⟩
        · refine ⟨_, rfl, ?_⟩
          have x06 := x05.trans x6
          have no : (Nt.mk ts r qs).ok = false → noteOf [] = none ∧ ((some (ts, qs)).bind fun p => (numberOf (wAt ((hd :: tl).headD []) 1)).bind fun r => if (Nt.mk p.1 r p.2).ok = true then some (Nt.mk p.1 r p.2) else none) = none := fun c => ⟨rfl, by
            show ((numberOf (wAt hd 1)).bind fun r => if (Nt.mk ts r qs).ok = true then some (Nt.mk ts r qs) else none) = none
            rw [hr]
            show (if _ then _ else _) = _
            rw [if_neg (by rw [c]; decide)]⟩
          refine fun y dy g1 g2 g3 => make_at (K := K) (n := ⟨ts, r, qs⟩) (.cons (dp_mono x6 _ _ hTd) (.cons (.int _) (.cons (dp_mono x6 _ _ hQd) .nil))) (fun v H' => tRet (tVar 5) { nx := fun x H' => Q V.non H', rt := Q } [some (.str x), some v1, some (.ref l), some (.ref m), a, some v, none] H') (fun ok v H7 x7 hN => ?_) (fun c H7 x7 => ?_) (fun a c H7 x7 => ?_) (fun a b c H7 x7 => ?_) y dy g1 g2 g3
          · refine ⟨_, rfl, kq ⟨ts, r, qs⟩ ?_ v H7 (x06.trans x7) (hN.back x06)⟩
            show ((numberOf (wAt hd 1)).bind fun r => if (Nt.mk ts r qs).ok = true then some (Nt.mk ts r qs) else none) = _
            rw [hr]
            show (if _ then _ else _) = _
            rw [if_pos ok]
          · exact ⟨true, exmK T (by decide +kernel) (by decide +kernel) _ (by decide +kernel), fun _ a ha => ke (no (by unfold Nt.ok; rw [c]; rfl)).2 H7 (x06.trans x7), nofun⟩
          · exact ⟨false, exmK T (by decide +kernel) (by decide +kernel) _ (by decide +kernel), nofun, fun _ => ⟨true, exmK T (by decide +kernel) (by decide +kernel) _ (by decide +kernel), fun _ a ha => ke (no (by unfold Nt.ok; rw [c, Bool.false_and, Bool.and_false])).2 H7 (x06.trans x7), nofun⟩⟩
          · exact ⟨false, exmK T (by decide +kernel) (by decide +kernel) _ (by decide +kernel), nofun, fun _ => ⟨false, exmK T (by decide +kernel) (by decide +kernel) _ (by decide +kernel), nofun, fun _ => ⟨true, exmK T (by decide +kernel) (by decide +kernel) _ (by decide +kernel), fun _ a ha => ke (no (by unfold Nt.ok; rw [c, Bool.and_false, Bool.and_false])).2 H7 (x06.trans x7), nofun⟩⟩⟩
        · exact ⟨false, exmK T (by decide +kernel) (by decide +kernel) _ (by decide +kernel), nofun, fun _ => ⟨false, exmK T (by decide +kernel) (by decide +kernel) _ (by decide +kernel), nofun, fun _ => ⟨false, exmK T (by decide +kernel) (by decide +kernel) _ (by decide +kernel), nofun, fun _ => ke (by
            show ((numberOf (wAt hd 1)).bind fun r => if (Nt.mk ts r qs).ok = true then some (Nt.mk ts r qs) else none) = none
            rw [hn]; rfl) H6 (x05.trans x6)⟩⟩⟩
end

end Fy

namespace Fy
open PySem PySem.Spec PyProof.Rows L2
/-! ### a night's text, in plain Lean -/
def sI (i : Int) : Str := Str.ofString (toString i)
def boatW (r : Int) : List Str := ["boat", sI r]
def thingW (t : Int × Bool) : List Str := ["thing", sI t.1, if t.2 = true then "rows" else "sits"]
def keepW (k : Int) : Str := if 0 ≤ k then sI k else "-"
def quarrelW (q : Int × Int × Int) : List Str := ["quarrel", sI q.1, sI q.2.1, keepW q.2.2]
def noteW (n : Nt) : List (List Str) := boatW n.room :: (n.things.map thingW ++ n.quarrels.map quarrelW)
def joinB (ws : List Str) : Str := Txt.join " " ws
def noteL (n : Nt) : List Str := (noteW n).map joinB
def textOf (n : Nt) : Str := Txt.join "\n" (noteL n ++ [("" : Str)])
theorem sg_join (y : Str) (ps : List Str) : sg (Txt.join y ps) = TL.joinL (sg y) (ps.map sg) := by
  rw [TL.join_eq]
  exact TL.tl_join y ps
theorem sg_nl : sg ("\n" : Str) = [10] := nl_tl
theorem sg_bl : sg (" " : Str) = [32] := bl_tl
theorem sg_empty : sg ("" : Str) = [] := by decide +kernel
theorem joinL_end : ∀ ls : List (List Nat), TL.joinL [10] (ls ++ [[]]) = ls.flatMap fun l => l ++ [10]
  | [] => rfl
  | [a] => by show a ++ ([10] ++ []) = _; simp
  | a :: b :: r => by
    show a ++ ([10] ++ TL.joinL [10] ((b :: r) ++ [[]])) = _
    rw [joinL_end (b :: r), List.flatMap_cons (x := a), List.append_assoc]
theorem sg_text (n : Nt) : sg (textOf n) = ((noteL n).map sg).flatMap fun l => l ++ [10] := by
  unfold textOf
  rw [sg_join, sg_nl, List.map_append, List.map_cons, List.map_nil, sg_empty, joinL_end]
theorem sI_nat {i : Int} (h : 0 ≤ i) : sg (sI i) = TL.numL i.toNat := by
  have e : i = ((i.toNat : Nat) : Int) := by omega
  unfold sI
  rw [e]
  exact TL.tl_num i.toNat
theorem num_head : ∀ n : Nat, 1 ≤ n → (TL.numL n).head? ≠ some 48 := by
  intro n
  induction n using Nat.strongRecOn with
  | _ n ih =>
    intro h1 e
    by_cases h : n < 10
    · rw [TL.numL_lt h] at e
      injection e with e
      omega
    · rw [TL.numL_step (by omega), List.head?_append] at e
      have z := ih (n / 10) (by omega) (by omega)
      cases c : (TL.numL (n / 10)).head? with
      | none => exact TL.numL_ne _ (List.head?_eq_none_iff.mp c)
      | some d => rw [c] at e z; exact z e
theorem number_sI {i : Int} (h : 0 ≤ i ∧ i < 10000000000) : numberOf (sI i) = some i := by
  have e := sI_nat h.1
  have hl : (sI i).length ≤ 10 := by
    have z := TL.numL_len (n := i.toNat) (k := 10) (by decide) (by omega)
    rw [← e, sg_len] at z
    exact z
  have hne : (sI i).length ≠ 0 := fun z => by
    have c := TL.numL_ne i.toNat
    rw [← e] at c
    have d := sg_len (sI i)
    rw [z] at d
    exact c (List.length_eq_zero_iff.mp d)
  have h1 : lenOk (sI i) = true := by
    unfold lenOk
    rw [decide_eq_true (show (1 : Int) ≤ ((sI i).length : Int) by omega), decide_eq_true (show ((sI i).length : Int) ≤ 10 by omega)]
    rfl
  have h2 : zeroAhead (sI i) = false := by
    unfold zeroAhead
    by_cases z : i = 0
    · rw [z]; decide +kernel
    · rw [decide_eq_false (by rw [e]; exact num_head _ (by omega)), Bool.false_and]
  have h3 : (sg (sI i)).all isDig = true := by
    rw [e, List.all_eq_true]
    exact fun c hc => decide_eq_true (TL.numL_digits _ c hc)
  have hv : numV (sI i) = i := by
    unfold numV
    rw [e, TL.numL_val]
    omega
  unfold numberOf numOk
  rw [h1, h2, h3, hv]
  rfl
/-- no blank, no line's end -/
def plainS (x : Str) : Prop := 32 ∉ sg x ∧ 10 ∉ sg x
theorem plain_sI {i : Int} (h : 0 ≤ i) : plainS (sI i) := by
  unfold plainS
  rw [sI_nat h]
  exact ⟨TL.numL_free (by omega), TL.numL_free (by omega)⟩
theorem plain_lit (x : Str) (h : (!(sg x).contains 32 && !(sg x).contains 10) = true) : plainS x := by
  rw [Bool.and_eq_true] at h
  exact ⟨by simpa using h.1, by simpa using h.2⟩
theorem plain_keep {k : Int} : plainS (keepW k) := by
  unfold keepW
  split
  · exact plain_sI (by assumption)
  · exact plain_lit _ (by decide +kernel)
theorem joinL_mem (S : List Nat) : ∀ (ps : List (List Nat)) (c : Nat), c ∈ TL.joinL S ps → c ∈ S ∨ ∃ p ∈ ps, c ∈ p
  | [], c, h => by cases h
  | [p], c, h => .inr ⟨p, List.mem_cons_self, h⟩
  | p :: q :: r, c, h => by
    have h' : c ∈ p ++ (S ++ TL.joinL S (q :: r)) := h
    rcases List.mem_append.mp h' with h | h
    · exact .inr ⟨p, List.mem_cons_self, h⟩
    · rcases List.mem_append.mp h with h | h
      · exact .inl h
      · rcases joinL_mem S (q :: r) c h with h | ⟨z, hz, h⟩
        · exact .inl h
        · exact .inr ⟨z, List.mem_cons_of_mem _ hz, h⟩
/-- the words of a good night's text -/
structure NoteOk (n : Nt) : Prop where
  th : ∀ t ∈ n.things, 0 ≤ t.1 ∧ t.1 < 10000000000
  rm : 0 ≤ n.room ∧ n.room < 10000000000
  qu : ∀ q ∈ n.quarrels, (0 ≤ q.1 ∧ q.1 < 10000000000) ∧ (0 ≤ q.2.1 ∧ q.2.1 < 10000000000) ∧ (-1 ≤ q.2.2 ∧ q.2.2 < 10000000000)
theorem noteOk_of {n : Nt} (ok : n.ok = true) : NoteOk n := by
  unfold Nt.ok thingsOk roomOk quarrelsOk at ok
  simp only [Bool.and_eq_true, decide_eq_true_eq, List.all_eq_true] at ok
  obtain ⟨⟨⟨t1, t2⟩, t3⟩, r, q1, q2⟩ := ok
  refine ⟨fun t ht => ?_, by omega, fun q hq => ?_⟩
  · have := t3 t ht
    unfold paceOk at this
    have := of_decide_eq_true this
    omega
  · have := q2 q hq
    unfold quarrelOk quarrelIn at this
    simp only [Bool.and_eq_true, decide_eq_true_eq] at this
    omega
theorem words_plain {n : Nt} (ok : NoteOk n) : ∀ ws ∈ noteW n, ws ≠ [] ∧ ∀ w ∈ ws, plainS w := by
  intro ws hw
  unfold noteW at hw
  rcases List.mem_cons.mp hw with rfl | hw
  · refine ⟨by simp [boatW], fun w hw => ?_⟩
    unfold boatW at hw
    simp only [List.mem_cons, List.not_mem_nil, or_false] at hw
    rcases hw with rfl | rfl
    · exact plain_lit _ (by decide +kernel)
    · exact plain_sI ok.rm.1
  · rcases List.mem_append.mp hw with hw | hw
    · obtain ⟨t, ht, rfl⟩ := List.mem_map.mp hw
      refine ⟨by simp [thingW], fun w hw => ?_⟩
      unfold thingW at hw
      simp only [List.mem_cons, List.not_mem_nil, or_false] at hw
      rcases hw with rfl | rfl | rfl
      · exact plain_lit _ (by decide +kernel)
      · exact plain_sI (ok.th t ht).1
      · split <;> exact plain_lit _ (by decide +kernel)
    · obtain ⟨q, hq, rfl⟩ := List.mem_map.mp hw
      refine ⟨by simp [quarrelW], fun w hw => ?_⟩
      unfold quarrelW at hw
      simp only [List.mem_cons, List.not_mem_nil, or_false] at hw
      rcases hw with rfl | rfl | rfl | rfl
      · exact plain_lit _ (by decide +kernel)
      · exact plain_sI (ok.qu q hq).1.1
      · exact plain_sI (ok.qu q hq).2.1.1
      · exact plain_keep
theorem split_joinB {ws : List Str} (h : ws ≠ []) (hp : ∀ w ∈ ws, plainS w) : Txt.split (joinB ws) " " = ws :=
  TL.split_join (y := " ") (s := 32) (S := []) bl_tl (by decide +kernel) h fun p hp' => (hp p hp').1
theorem join_plain {ws : List Str} (hp : ∀ w ∈ ws, plainS w) : 10 ∉ sg (joinB ws) := fun h => by
  unfold joinB at h
  rw [sg_join, sg_bl] at h
  rcases joinL_mem _ _ _ h with h | ⟨p, hp', h⟩
  · simp at h
  · obtain ⟨w, hw, rfl⟩ := List.mem_map.mp hp'
    exact (hp w hw).2 h
theorem lines_text {n : Nt} (ok : NoteOk n) : linesW (textOf n) = noteW n ++ [[("" : Str)]] := by
  have wp := words_plain ok
  have sp : Txt.split (textOf n) "\n" = noteL n ++ [("" : Str)] := TL.split_join (y := "\n") (s := 10) (S := []) nl_tl (by decide +kernel) (by simp) fun p hp => by
    rcases List.mem_append.mp hp with hp | hp
    · obtain ⟨ws, hw, rfl⟩ := List.mem_map.mp hp
      exact join_plain (wp ws hw).2
    · rw [List.mem_singleton.mp hp]
      decide +kernel
  unfold linesW
  rw [sp, List.map_append, List.map_cons, List.map_nil]
  unfold noteL
  rw [List.map_map]
  congr 1
  conv => rhs; rw [← List.map_id (noteW n)]
  refine List.map_congr_left fun ws hw => ?_
  exact split_joinB (wp ws hw).1 (wp ws hw).2
theorem thing_back {t : Int × Bool} (h : 0 ≤ t.1 ∧ t.1 < 10000000000) : thingOf (thingW t) = some t := by
  obtain ⟨p, b⟩ := t
  unfold thingOf thingW
  have w2 : wAt ["thing", sI p, if b = true then ("rows" : Str) else "sits"] 2 = if b = true then ("rows" : Str) else "sits" := rfl
  have w1 : wAt ["thing", sI p, if b = true then ("rows" : Str) else "sits"] 1 = sI p := rfl
  dsimp only
  rw [w2, w1, number_sI h]
  cases b with
  | true => rfl
  | false => rfl
theorem keeper_back {k : Int} (h : -1 ≤ k ∧ k < 10000000000) : keeperOf (keepW k) = some k := by
  unfold keeperOf keepW
  by_cases h0 : 0 ≤ k
  · rw [if_pos h0, if_neg, number_sI ⟨h0, h.2⟩]
    intro e
    have c := congrArg sg e
    rw [sI_nat h0, show sg ("-" : Str) = [45] by decide +kernel] at c
    have d := TL.numL_digits k.toNat 45 (by rw [c]; simp)
    omega
  · rw [if_neg h0, if_pos rfl]
    congr 1
    omega
theorem quarrel_back {q : Int × Int × Int} (h : (0 ≤ q.1 ∧ q.1 < 10000000000) ∧ (0 ≤ q.2.1 ∧ q.2.1 < 10000000000) ∧ (-1 ≤ q.2.2 ∧ q.2.2 < 10000000000)) : quarrelOf (quarrelW q) = some q := by
  unfold quarrelOf quarrelW
  have w0 : wAt ["quarrel", sI q.1, sI q.2.1, keepW q.2.2] 0 = "quarrel" := rfl
  have w1 : wAt ["quarrel", sI q.1, sI q.2.1, keepW q.2.2] 1 = sI q.1 := rfl
  have w2 : wAt ["quarrel", sI q.1, sI q.2.1, keepW q.2.2] 2 = sI q.2.1 := rfl
  have w3 : wAt ["quarrel", sI q.1, sI q.2.1, keepW q.2.2] 3 = keepW q.2.2 := rfl
  rw [w0, w1, w2, w3, number_sI h.1, number_sI h.2.1, keeper_back h.2.2]
  rfl
theorem scan_quarrels : ∀ (qs : List (Int × Int × Int)) (ts : List (Int × Bool)) (acc : List (Int × Int × Int)), (∀ q ∈ qs, quarrelOf (quarrelW q) = some q) → scanW ts acc (qs.map quarrelW) = some (ts, acc ++ qs)
  | [], ts, acc, _ => by rw [List.append_nil]; rfl
  | q :: r, ts, acc, h => by
    rw [List.map_cons]
    have e : scanW ts acc (quarrelW q :: r.map quarrelW) = (quarrelOf (quarrelW q)).bind fun q => scanW ts (acc ++ [q]) (r.map quarrelW) := by
      show (if _ then _ else _) = _
      rw [if_neg]
      have : decide (wAt (quarrelW q) 0 = "thing") = false := by
        show decide (("quarrel" : Str) = "thing") = false
        decide +kernel
      rw [this, Bool.false_and]
      exact Bool.false_ne_true
    rw [e, h q List.mem_cons_self]
    show scanW ts (acc ++ [q]) (r.map quarrelW) = _
    rw [scan_quarrels r ts (acc ++ [q]) fun q hq => h q (List.mem_cons_of_mem _ hq), List.append_assoc]
    rfl
theorem scan_things : ∀ (ts acc : List (Int × Bool)) (qs : List (Int × Int × Int)), (∀ t ∈ ts, thingOf (thingW t) = some t) → (∀ q ∈ qs, quarrelOf (quarrelW q) = some q) → scanW acc [] (ts.map thingW ++ qs.map quarrelW) = some (acc ++ ts, qs)
  | [], acc, qs, _, hq => by
    rw [List.append_nil, List.map_nil, List.nil_append, scan_quarrels qs acc [] hq]
    rfl
  | t :: r, acc, qs, h, hq => by
    rw [List.map_cons, List.cons_append]
    have e : scanW acc [] (thingW t :: (r.map thingW ++ qs.map quarrelW)) = (thingOf (thingW t)).bind fun t => scanW (acc ++ [t]) [] (r.map thingW ++ qs.map quarrelW) := by
      show (if _ then _ else _) = _
      rw [if_pos]
      show (decide (("thing" : Str) = "thing") && decide (([] : List (Int × Int × Int)) = [])) = true
      decide +kernel
    rw [e, h t List.mem_cons_self]
    show scanW (acc ++ [t]) [] (r.map thingW ++ qs.map quarrelW) = _
    rw [scan_things r (acc ++ [t]) qs (fun t ht => h t (List.mem_cons_of_mem _ ht)) hq, List.append_assoc]
    rfl
theorem note_back {n : Nt} (ok : n.ok = true) : noteOf (linesW (textOf n)) = some n := by
  have no := noteOk_of ok
  rw [lines_text no]
  have hok : (lastOk (noteW n ++ [[("" : Str)]]) && headOk (noteW n ++ [[("" : Str)]])) = true := by
    unfold lastOk
    rw [List.getLast?_concat, decide_eq_true rfl, Bool.true_and]
    rfl
  have hr : restW (noteW n ++ [[("" : Str)]]) = n.things.map thingW ++ n.quarrels.map quarrelW := by
    unfold restW noteW
    rw [List.cons_append, List.drop_one, List.tail_cons, List.length_cons, List.length_append, List.length_singleton]
    rw [List.take_append_of_le_length (by omega), List.take_of_length_le (by omega)]
  unfold noteOf
  rw [if_pos hok, hr, scan_things _ _ _ (fun t ht => thing_back (no.th t ht)) (fun q hq => quarrel_back (no.qu q hq))]
  show ((numberOf (sI n.room)).bind fun r => if (Nt.mk ([] ++ n.things) r n.quarrels).ok = true then some (Nt.mk ([] ++ n.things) r n.quarrels) else none) = some n
  rw [number_sI no.rm, List.nil_append]
  show (if (Nt.mk n.things n.room n.quarrels).ok = true then some (Nt.mk n.things n.room n.quarrels) else none) = some n
  rw [if_pos ok]
/-! sizes, signs -/
theorem sI_len {i : Int} (h : 0 ≤ i ∧ i < 10000000000) : (sI i).length ≤ 10 := by
  have z := TL.numL_len (n := i.toNat) (k := 10) (by decide) (by omega)
  rw [← sI_nat h.1, sg_len] at z
  exact z
theorem keep_len {k : Int} (h : -1 ≤ k ∧ k < 10000000000) : (keepW k).length ≤ 10 := by
  unfold keepW
  split
  · exact sI_len ⟨by assumption, h.2⟩
  · decide +kernel

end Fy

namespace Fy
open PySem PySem.Spec PyProof.Rows L2
/-! ### lines put together -/
def txt (ls : List Str) : Str := ⟨((ls.map sg).flatMap fun l => l ++ [10]).toArray⟩
theorem sg_txt (ls : List Str) : sg (txt ls) = (ls.map sg).flatMap fun l => l ++ [10] := rfl
theorem txt_text (n : Nt) : textOf n = txt (noteL n) := sg_inj (by rw [sg_text, sg_txt])
theorem txt_snoc (ls : List Str) (l : Str) : txt (ls ++ [l]) = (txt ls ++ l) ++ "\n" := sg_inj (by
  rw [sg_app, sg_app, sg_txt, sg_txt, sg_nl, List.map_append, List.flatMap_append]
  simp)
theorem txt_nil : txt [] = "" := sg_inj (by rw [sg_empty]; rfl)
theorem len_app (x y : Str) : (x ++ y).length = x.length + y.length := by rw [← sg_len, sg_app, List.length_append, sg_len, sg_len]
theorem txt_len {N : Nat} : ∀ {ls : List Str}, (∀ l ∈ ls, l.length ≤ N) → (txt ls).length ≤ (N + 1) * ls.length
  | [], _ => Nat.le_refl _
  | l :: r, h => by
    have a := txt_len (ls := r) fun z hz => h z (List.mem_cons_of_mem _ hz)
    have b := h l List.mem_cons_self
    rw [← sg_len, sg_txt] at a ⊢
    rw [List.map_cons, List.flatMap_cons, List.length_append, List.length_append, sg_len, List.length_singleton, List.length_cons, Nat.mul_succ]
    omega
theorem app_assoc (x y z : Str) : (x ++ y) ++ z = x ++ (y ++ z) := sg_inj (by simp only [sg_app, List.append_assoc])
theorem nil_app (x : Str) : (("" : Str) ++ x) = x := sg_inj (by rw [sg_app, sg_empty]; rfl)
def thingL (t : Int × Bool) : Str := joinB (thingW t)
def quarrelL (q : Int × Int × Int) : Str := joinB (quarrelW q)
def boatL (r : Int) : Str := joinB (boatW r)
theorem noteL_eq (n : Nt) : noteL n = boatL n.room :: (n.things.map thingL ++ n.quarrels.map quarrelL) := by
  unfold noteL noteW
  rw [List.map_cons, List.map_append, List.map_map, List.map_map]
  rfl
def rowW (b : Bool) : Str := if b = true then "rows" else "sits"
theorem boatL_eq (r : Int) : boatL r = "boat " ++ sI r := sg_inj (by
  unfold boatL joinB boatW
  rw [sg_join, sg_bl, sg_app, show sg ("boat " : Str) = sg ("boat" : Str) ++ [32] by decide +kernel, List.append_assoc]
  rfl)
theorem thingL_eq (t : Int × Bool) : thingL t = (("thing " ++ sI t.1) ++ " ") ++ rowW t.2 := sg_inj (by
  unfold thingL joinB thingW
  rw [sg_join, sg_bl, sg_app, sg_app, sg_app, sg_bl, show sg ("thing " : Str) = sg ("thing" : Str) ++ [32] by decide +kernel, List.append_assoc, List.append_assoc, List.append_assoc]
  rfl)
theorem quarrelL_eq (q : Int × Int × Int) : quarrelL q = (((("quarrel " ++ sI q.1) ++ " ") ++ sI q.2.1) ++ " ") ++ keepW q.2.2 := sg_inj (by
  unfold quarrelL joinB quarrelW
  rw [sg_join, sg_bl]
  simp only [sg_app]
  rw [sg_bl, show sg ("quarrel " : Str) = sg ("quarrel" : Str) ++ [32] by decide +kernel]
  simp only [List.append_assoc]
  rfl)
theorem row_len (b : Bool) : (rowW b).length ≤ 20 := by cases b <;> decide +kernel
theorem boatL_len {r : Int} (h : 0 ≤ r ∧ r < 10000000000) : (boatL r).length ≤ 90 := by
  have a := sI_len h
  have b : ("boat " : Str).length ≤ 20 := by decide +kernel
  rw [boatL_eq, len_app]
  omega
theorem thingL_len {t : Int × Bool} (h : 0 ≤ t.1 ∧ t.1 < 10000000000) : (thingL t).length ≤ 90 := by
  have a := sI_len h
  have b : ("thing " : Str).length ≤ 20 := by decide +kernel
  have c : (" " : Str).length ≤ 20 := by decide +kernel
  have d := row_len t.2
  rw [thingL_eq, len_app, len_app, len_app]
  omega
theorem quarrelL_len {q : Int × Int × Int} (h : (0 ≤ q.1 ∧ q.1 < 10000000000) ∧ (0 ≤ q.2.1 ∧ q.2.1 < 10000000000) ∧ (-1 ≤ q.2.2 ∧ q.2.2 < 10000000000)) : (quarrelL q).length ≤ 90 := by
  have a := sI_len h.1
  have b : ("quarrel " : Str).length ≤ 20 := by decide +kernel
  have c : (" " : Str).length ≤ 10 := by decide +kernel
  have d := sI_len h.2.1
  have e := keep_len h.2.2
  rw [quarrelL_eq, len_app, len_app, len_app, len_app, len_app]
  omega
theorem lines_90 {n : Nt} (no : NoteOk n) : ∀ l ∈ noteL n, l.length ≤ 90 := fun l hl => by
  rw [noteL_eq] at hl
  rcases List.mem_cons.mp hl with rfl | hl
  · exact boatL_len no.rm
  · rcases List.mem_append.mp hl with hl | hl
    · obtain ⟨t, ht, rfl⟩ := List.mem_map.mp hl
      exact thingL_len (no.th t ht)
    · obtain ⟨q, hq, rfl⟩ := List.mem_map.mp hl
      exact quarrelL_len (no.qu q hq)
theorem ok_counts {n : Nt} (ok : n.ok = true) : (1 ≤ n.things.length ∧ n.things.length ≤ 6) ∧ n.quarrels.length ≤ 30 := by
  unfold Nt.ok thingsOk quarrelsOk at ok
  simp only [Bool.and_eq_true, decide_eq_true_eq] at ok
  exact ⟨ok.1.1, ok.2.2.1⟩
theorem noteL_len (n : Nt) : (noteL n).length = n.things.length + n.quarrels.length + 1 := by
  rw [noteL_eq, List.length_cons, List.length_append, List.length_map, List.length_map]
theorem text_len {n : Nt} (ok : n.ok = true) : (textOf n).length ≤ 5000 := by
  rw [txt_text]
  have a := txt_len (lines_90 (noteOk_of ok))
  have b := ok_counts ok
  rw [noteL_len] at a
  omega
/-- plain letters alone -/
def lowS (x : Str) : Prop := ∀ c ∈ sg x, c < 128
theorem low_lit (x : Str) (h : (sg x).all (fun c => decide (c < 128)) = true) : lowS x := fun c hc => of_decide_eq_true (List.all_eq_true.mp h c hc)
theorem low_app {x y : Str} (h : lowS x) (k : lowS y) : lowS (x ++ y) := fun c hc => by
  rw [sg_app] at hc
  exact (List.mem_append.mp hc).elim (h c) (k c)
theorem low_sI {i : Int} (h : 0 ≤ i) : lowS (sI i) := fun c hc => by
  rw [sI_nat h] at hc
  have := TL.numL_digits _ c hc
  omega
theorem low_keep (k : Int) : lowS (keepW k) := by
  unfold keepW
  split
  · exact low_sI (by assumption)
  · exact low_lit _ (by decide +kernel)
theorem low_row (b : Bool) : lowS (rowW b) := by cases b <;> exact low_lit _ (by decide +kernel)
theorem low_lines {n : Nt} (no : NoteOk n) : ∀ l ∈ noteL n, lowS l := fun l hl => by
  rw [noteL_eq] at hl
  rcases List.mem_cons.mp hl with rfl | hl
  · rw [boatL_eq]
    exact low_app (low_lit _ (by decide +kernel)) (low_sI no.rm.1)
  · rcases List.mem_append.mp hl with hl | hl
    · obtain ⟨t, ht, rfl⟩ := List.mem_map.mp hl
      rw [thingL_eq]
      exact low_app (low_app (low_app (low_lit _ (by decide +kernel)) (low_sI (no.th t ht).1)) (low_lit _ (by decide +kernel))) (low_row _)
    · obtain ⟨q, hq, rfl⟩ := List.mem_map.mp hl
      rw [quarrelL_eq]
      have z := no.qu q hq
      exact low_app (low_app (low_app (low_app (low_app (low_lit _ (by decide +kernel)) (low_sI z.1.1)) (low_lit _ (by decide +kernel))) (low_sI z.2.1.1)) (low_lit _ (by decide +kernel))) (low_keep _)
theorem low_txt {ls : List Str} (h : ∀ l ∈ ls, lowS l) : lowS (txt ls) := fun c hc => by
  rw [sg_txt] at hc
  obtain ⟨p, hp, hc⟩ := List.mem_flatMap.mp hc
  obtain ⟨l, hl, rfl⟩ := List.mem_map.mp hp
  rcases List.mem_append.mp hc with hc | hc
  · exact h l hl c hc
  · rw [List.mem_singleton.mp hc]; decide
theorem low_ok {x : Str} (h : lowS x) : PyData.strOk x = true := (okS_iff x).mpr fun c hc => Nat.lt_trans (h c hc) (by decide)
theorem text_ok {n : Nt} (ok : n.ok = true) : PyData.strOk (textOf n) = true := by
  rw [txt_text]
  exact low_ok (low_txt (low_lines (noteOk_of ok)))
/-! ### texts put together, by data -/
structure EvL (K : PySem.W.Frag) (te : TE) (σ : L2.St) (H : Hp) (x : Str) (N : Nat) : Prop where
  d : EvD K te σ H (.str x)
  l : x.length ≤ N
section
variable {K : PySem.W.Frag} {σ : L2.St} {H : Hp} {ta tb : TE} {x y : Str} {a b : Nat}
theorem el_add (h : EvL K ta σ H x a) (k : EvL K tb σ H y b) (z : a + b ≤ 100000) : EvL K (tOp rAddS ta tb) σ H (x ++ y) (a + b) :=
  ⟨ed_op h.d k.d (rd_addS (by have := h.l; have := k.l; omega)), by have := h.l; have := k.l; rw [len_app]; omega⟩
theorem el_lit (h : x.length ≤ 20) : EvL K (tC (.str x)) σ H x 20 := ⟨ed_str, h⟩
theorem el_var {i : Nat} (h : σ[i]? = some (some (.str x))) (k : x.length ≤ a) : EvL K (tVar i) σ H x a := ⟨ed_var h (.str _), k⟩
theorem log_ok {i : Int} (h : -1 ≤ i ∧ i < 10000000000) : i.natAbs.log2 < 1920 := by
  by_cases z : i.natAbs = 0
  · rw [z]; decide
  · refine (Nat.log2_lt z).mpr (Nat.lt_of_lt_of_le (show i.natAbs < 2 ^ 40 by omega) (Nat.pow_le_pow_right (n := 2) (by decide) (show 40 ≤ 1920 by decide)))
theorem el_strI {i : Int} (h : EvD K ta σ H (.int i)) (b : 0 ≤ i ∧ i < 10000000000) : EvL K (tCB rStrI (tCons ta tNil)) σ H (sI i) 10 :=
  ⟨ed_cb (eds_cons h eds_nil) (cd_strI (log_ok ⟨by omega, b.2⟩)), sI_len b⟩
end
def spShown (K : PySem.W.Frag) : Sp := fun vs H Q _ => ∃ v n, vs = [v] ∧ NightAt K H v n ∧ n.ok = true ∧ RetV (.str (textOf n)) H Q
def spLines (K : PySem.W.Frag) : Sp := fun vs H Q _ => ∃ v n, vs = [v] ∧ Dp K H v (eNt n) ∧ n.ok = true ∧ RetR (fun u H' => NewL K H u H' ((noteL n).map .str)) H Q

end Fy

namespace Fy
open PySem PySem.Spec PyProof.Rows L2
/-! ### nights shown, walked -/
theorem txt1 (l : Str) : txt [l] = l ++ "\n" := by
  have e := txt_snoc [] l
  rw [List.nil_append] at e
  rw [e, txt_nil, nil_app]
def thLines (n : Nt) (i : Nat) : List Str := boatL n.room :: (n.things.take i).map thingL
def quLines (n : Nt) (i : Nat) : List Str := boatL n.room :: (n.things.map thingL ++ (n.quarrels.take i).map quarrelL)
theorem thLines_snoc {n : Nt} {i : Nat} {t : Int × Bool} (h : n.things[i]? = some t) : thLines n (i + 1) = thLines n i ++ [thingL t] := by
  unfold thLines
  rw [take_snoc h, List.map_append]
  rfl
theorem quLines_snoc {n : Nt} {i : Nat} {q : Int × Int × Int} (h : n.quarrels[i]? = some q) : quLines n (i + 1) = quLines n i ++ [quarrelL q] := by
  unfold quLines
  rw [take_snoc h, List.map_append, List.cons_append, List.append_assoc]
  rfl
theorem thLines_end (n : Nt) : thLines n n.things.length = quLines n 0 := by
  unfold thLines quLines
  rw [List.take_length, List.take_zero, List.map_nil, List.append_nil]
theorem quLines_end (n : Nt) : quLines n n.quarrels.length = noteL n := by
  unfold quLines
  rw [List.take_length, noteL_eq]
theorem th_sub {n : Nt} (ok : n.ok = true) (i : Nat) : (txt (thLines n i)).length ≤ 5000 := by
  have no := noteOk_of ok
  have a := txt_len (N := 90) (ls := thLines n i) fun l hl => by
    refine lines_90 no l ?_
    rw [noteL_eq]
    unfold thLines at hl
    rcases List.mem_cons.mp hl with rfl | hl
    · exact List.mem_cons_self
    · obtain ⟨t, ht, rfl⟩ := List.mem_map.mp hl
      exact List.mem_cons_of_mem _ (List.mem_append_left _ (List.mem_map.mpr ⟨t, List.mem_of_mem_take ht, rfl⟩))
  have b := ok_counts ok
  unfold thLines at a ⊢
  rw [List.length_cons, List.length_map, List.length_take] at a
  omega
theorem qu_sub {n : Nt} (ok : n.ok = true) (i : Nat) : (txt (quLines n i)).length ≤ 5000 := by
  have no := noteOk_of ok
  have a := txt_len (N := 90) (ls := quLines n i) fun l hl => by
    refine lines_90 no l ?_
    rw [noteL_eq]
    unfold quLines at hl
    rcases List.mem_cons.mp hl with rfl | hl
    · exact List.mem_cons_self
    · rcases List.mem_append.mp hl with hl | hl
      · exact List.mem_cons_of_mem _ (List.mem_append_left _ hl)
      · obtain ⟨q, hq, rfl⟩ := List.mem_map.mp hl
        exact List.mem_cons_of_mem _ (List.mem_append_right _ (List.mem_map.mpr ⟨q, List.mem_of_mem_take hq, rfl⟩))
  have b := ok_counts ok
  unfold quLines at a ⊢
  rw [List.length_cons, List.length_append, List.length_map, List.length_map, List.length_take] at a
  omega
section
variable {P : Program} {w : World} {K : PySem.W.Frag} {mg : Str → Option Value} {base : Heap}
end

end Fy

namespace Fy
open PySem PySem.Spec PyProof.Rows L2
/-! ### _law_lines, walked -/
abbrev rInt1L : List V → Hp → VK → Prop := fun xs H Q => (∃ i, xs = [.int i] ∧ Q (.int i) H) ∨ ∃ k, xs = [.bl k] ∧ Q (.int (if k then 1 else 0)) H
section
variable {K : PySem.W.Frag} {σ : L2.St} {H : Hp} {ta tb tl te : TE} {D : Ends} {tu tz : TS} {g : TG} {ds : List PyData}
theorem cd_intBL {b : Bool} : CD K rInt1L [.bool b] (.int (if b then 1 else 0)) := fun H vs h Q q => by
  obtain ⟨v, rfl, h1⟩ := dpa1 h
  cases dp_bl.mp h1
  exact .inr ⟨b, rfl, q _ H (Evl.Ex.refl H) (.int _)⟩
/-- a list that stood in H0, named by a term that lays nothing -/
def EvOld (K : PySem.W.Frag) (te : TE) (σ : L2.St) (H H0 : Hp) (ds : List PyData) : Prop := ∀ Q : VK, (∀ p xs, SqL K H0 p xs → DpAll K H0 xs ds → Q (.ref p) H) → te σ H Q
theorem eo_ix {j i : Nat} {v : V} {dds : List PyData} {H0 : Hp} (hj : σ[j]? = some (some v)) (hv : Dp K H0 v (.tuple dds)) (x0 : Ex H0 H) (hi : dds[i]? = some (.list ds)) : EvOld K (tOp (rIxT K) (tVar j) (tC (.int (i : Int)))) σ H H0 ds := fun Q q => by
  obtain ⟨a, xs, rfl, h1, h2⟩ := dp_tup.mp hv
  obtain ⟨y, hy, hyd⟩ := dpa_get' h2 hi
  obtain ⟨p, ys, rfl, p1, p2⟩ := dp_lst.mp hyd
  exact ⟨_, hj, a, xs, i, .ref p, rfl, rfl, Evl.ex_t x0 h1, atI_nat hy, q p ys p1 p2⟩
/-- over a list that stood, while a list made since grows -/
theorem w_layO {l : Addr} {H0 : Hp} (h : EvOld K tl σ H H0 ds) (x0 : Ex H0 H) (l0 : H0 l = none) (acc : Nat → List PyData) (l1 : ∃ ys, H l = some (.lst ys) ∧ DpAll K H ys (acc 0)) (Pv : Nat → L2.St → Prop) (p0 : Pv 0 σ)
    (hs : ∀ i d x σ' H' ys, ds[i]? = some d → Ex H0 H' → Dp K H' x d → Pv i σ' → H' l = some (.lst ys) → DpAll K H' ys (acc i) → g x σ' H' fun σ2 H2 => tu { D with nx := LayS K l H' (Pv (i + 1)) (acc (i + 1)), ct := LayS K l H' (Pv (i + 1)) (acc (i + 1)), bk := tz D } σ2 H2)
    (hd : ∀ σ' H' ys, Ex H0 H' → Pv ds.length σ' → H' l = some (.lst ys) → DpAll K H' ys (acc ds.length) → tz D σ' H') : tSeq (tFor (iList K tl) g tu) tz D σ H :=
  h _ fun p xs h1 h2 => by
    obtain ⟨ys0, l1, d1⟩ := l1
    have hl := dpa_len h2
    refine ⟨p, rfl, ⟨xs, Evl.ex_l x0 h1⟩, fun i m σ' H' => m = xs.length - i ∧ i ≤ xs.length ∧ Ex H0 H' ∧ Pv i σ' ∧ ∃ ys, H' l = some (.lst ys) ∧ DpAll K H' ys (acc i), ⟨xs.length, by simp, Nat.zero_le _, x0, p0, ys0, l1, d1⟩, ?_⟩
    rintro i m σ' H' ⟨rfl, hi, e0, pv, ys, el, ea⟩
    have q := Evl.ex_l e0 h1
    by_cases hlt : i < xs.length
    · refine .inr ⟨⟨xs, xs[i], q, by simp [hlt]⟩, LayS K l H' (Pv (i + 1)) (acc (i + 1)), fun σ3 H3 p3 => ?_, fun y H2 yy => ?_⟩
      · obtain ⟨p1, p2, p3⟩ := p3
        exact ⟨xs.length - (i + 1), by omega, rfl, hlt, e0.but l0 p2, p1, p3⟩
      · obtain ⟨e2, yy⟩ := yy
        subst e2
        obtain ⟨d, hd', hdy⟩ := dpa_get h2 (yy xs q)
        exact hs i d y σ' _ ys hd' e0 (dp_mono e0 _ _ hdy) pv el ea
    · have e2 : i = xs.length := by omega
      subst e2
      rw [hl] at pv ea
      exact .inl ⟨⟨xs, q, Nat.le_refl _⟩, hd σ' H' ys e0 pv el ea⟩
end
section
variable {P : Program} {w : World} {K : PySem.W.Frag} {mg : Str → Option Value} {base : Heap}
theorem sc__law_lines : FnScope ["night", "lines", "pace", "rows", "one", "other", "keeper", "words"] ["night"] (defScope s__law_lines) := ⟨rfl, rfl, rfl, by decide +kernel, rfl, by decide +kernel, by decide +kernel⟩
theorem ok__law_lines (T : Tx K mg) : Has P w K mg base CX0 2 "_law_lines" ["night"] (spLines K) := by
  obtain ⟨fd, F⟩ := T.f__law_lines
  refine ⟨T.g__law_lines, fd, F.ok sc__law_lines (fun vs H Q E h => ?_) (fun cdv A outer s H vs Q E hr h => ⟨_, PSs.nox (pss_cons (ps_set (i := 1) sc__law_lines.nd rfl (.inl rfl) (pe_lst (pa_cons (pe_op (r := rAddS) op_add_str pe_str (pe_callTy (r := rStrI) call_str_int (by rfl) T.b_str (by decide +kernel) (pa_cons (pe_ix (r := rIxT K) ix_tup (pv 0) pe_int (fun _ _ => rfl)) pa_nil))) pa_nil)))
      (pss_cons (ps_for PassesOwn.never rfl (pi_list (pe_ix (r := rIxT K) ix_tup (pv 0) pe_int (fun _ _ => rfl))) (pg_tup (by rfl) (pgs_cons (pg_name (i := 2) sc__law_lines.nd rfl (.inl rfl)) (pgs_cons (pg_name (i := 3) sc__law_lines.nd rfl (.inl rfl)) pgs_nil))) (pss_one (ps_expr (pe_bm PySem.F.plainAttrs_list PySem.F.slot_list_append PySem.F.type_list_append mt_append (pv 1) (pa_cons (pe_op (r := rAddS) op_add_str (pe_op (r := rAddS) op_add_str (pe_op (r := rAddS) op_add_str pe_str (pe_callTy (r := rStrI) call_str_int (by rfl) T.b_str (by decide +kernel) (pa_cons (pv 2) pa_nil))) pe_str) (pe_ix (r := rIxL K) ix_list (pe_lst (pa_cons pe_str (pa_cons pe_str pa_nil))) (pe_callTy call_int1 (by rfl) T.b_int (by decide +kernel) (pa_cons (pv 3) pa_nil)) (fun _ _ => rfl))) pa_nil)))))
      (pss_cons (ps_for PassesOwn.never rfl (pi_list (pe_ix (r := rIxT K) ix_tup (pv 0) pe_int (fun _ _ => rfl))) (pg_tup (by rfl) (pgs_cons (pg_name (i := 4) sc__law_lines.nd rfl (.inl rfl)) (pgs_cons (pg_name (i := 5) sc__law_lines.nd rfl (.inl rfl)) (pgs_cons (pg_name (i := 6) sc__law_lines.nd rfl (.inl rfl)) pgs_nil)))) (pss_cons (ps_set (i := 7) sc__law_lines.nd rfl (.inl rfl) (pe_lst (pa_cons pe_str (pa_cons (pe_callTy (r := rStrI) call_str_int (by rfl) T.b_str (by decide +kernel) (pa_cons (pv 4) pa_nil)) (pa_cons (pe_callTy (r := rStrI) call_str_int (by rfl) T.b_str (by decide +kernel) (pa_cons (pv 5) pa_nil)) (pa_cons pe_str pa_nil))))))
      (pss_cons (ps_if (pt_cmpR op_ge (pv 6) pe_int (nomark _)) (pss_one (ps_asg (pe_callTy (r := rStrI) call_str_int (by rfl) T.b_str (by decide +kernel) (pa_cons (pv 6) pa_nil)) (pg_sub (pv 7) pe_int set_list))) pss_nil)
      (pss_one (ps_expr (pe_bm PySem.F.plainAttrs_list PySem.F.slot_list_append PySem.F.type_list_append mt_append (pv 1) (pa_cons (pe_join pe_str (pv 7)) pa_nil)))))))
      (pss_one (ps_ret (pv 1)))))), ?_⟩), F.bindsN fun _ _ _ _ _ _ us hl => match us, hl with | [_], _ => rfl, F.kp⟩
  · obtain ⟨v, n, rfl, _⟩ := h
    rfl
  · obtain ⟨v, n, rfl, N, ok, k⟩ := h
    have no := noteOk_of ok
    have oc := ok_counts ok
    have N' : Dp K H v (.tuple [.list (n.things.map eT), .int n.room, .list (n.quarrels.map eQ)]) := N
    have e0 : EvL K (tOp rAddS (tC (.str "boat ")) (tCB rStrI (tCons (tOp (rIxT K) (tVar 0) (tC (.int 1))) tNil))) [some v, none, none, none, none, none, none, none] H (boatL n.room) 30 := by
      rw [boatL_eq]
      exact el_add (el_lit (by decide +kernel)) (el_strI (ed_op (ed_var rfl N') (ed_int (i := 1)) (rd_ixT (by rfl))) no.rm) (by decide)
    refine w_asgN (K := K) (ds := (thLines n 0).map .str) (EvN.cast (en_lst (eds_cons e0.d eds_nil) (show 1 ≤ 100000 by decide)) (by unfold thLines; rw [List.take_zero]; rfl)) (fun v1 H1 x1 h1 => ?_)
    obtain ⟨l, ys, rfl, l0, l1, l2⟩ := h1
    refine w_layO (K := K) (l := l) (H0 := H) (eo_ix (i := 0) rfl N' x1 rfl) x1 l0 (fun i => (thLines n i).map .str) ⟨ys, l1, l2⟩ (fun i σ => ∃ a b, σ = [some v, some (.ref l), a, b, none, none, none, none]) ⟨none, none, rfl⟩ ?_ ?_
    · rintro i d x σ' H2 ys hd x2 hx ⟨a, b, rfl⟩ hl2 ha2
      obtain ⟨t, ht, rfl⟩ := get_map hd
      obtain ⟨p, b⟩ := t
      have tb := no.th _ (List.mem_of_getElem? ht)
      have il := lt_of_get ht
      obtain ⟨ta, rfl, hs⟩ := dp_eT.mp hx
      refine g_tup2 rfl hs ?_
      show tDrop _ _ _ _
      have row : EvL K (tOp (rIxL K) (tLst (tCons (tC (.str "sits")) (tCons (tC (.str "rows")) tNil))) (tCB rInt1L (tCons (tVar 3) tNil))) [some v, some (.ref l), some (.int p), some (.bl b), none, none, none, none] H2 (rowW b) 20 :=
        ⟨ed_op (d := .list [.str "sits", .str "rows"]) (e := .int (if b then 1 else 0)) (en_lst (eds_cons ed_str (eds_cons ed_str eds_nil)) (show 2 ≤ 100000 by decide)).toD (ed_cb (eds_cons (ed_var rfl (.bl _)) eds_nil) cd_intBL) (rd_ixL (by cases b <;> rfl)), row_len b⟩
      exact w_lay (K := K) (d := .str (thingL (p, b))) rfl (EvD.cast (el_add (el_add (el_add (el_lit (by decide +kernel)) (el_strI (ed_var rfl (.int _)) tb) (by decide)) (el_lit (by decide +kernel)) (by decide)) row (by decide)).d (by rw [thingL_eq])) (ExB.refl l H2) hl2 ha2 (noLs_map (fun _ => rfl) _) rfl (by unfold thLines; rw [List.length_map, List.length_cons, List.length_map, List.length_take]; omega) (by show (thLines n (i + 1)).map PyData.str = _; rw [thLines_snoc ht, List.map_append]; rfl) ⟨_, _, rfl⟩ (fun _ _ h => h)
    · rintro σ' H2 ys x2 ⟨a, b, rfl⟩ hl2 ha2
      rw [List.length_map, thLines_end] at ha2
      refine w_layO (K := K) (l := l) (H0 := H) (eo_ix (i := 2) rfl N' x2 rfl) x2 l0 (fun i => (quLines n i).map .str) ⟨ys, hl2, ha2⟩ (fun i σ => ∃ c d e f, σ = [some v, some (.ref l), a, b, c, d, e, f]) ⟨_, _, _, _, rfl⟩ ?_ ?_
      · rintro i d x σ' H3 ys hd x3 hx ⟨c, d, e, f, rfl⟩ hl3 ha3
        obtain ⟨q, hq, rfl⟩ := get_map hd
        obtain ⟨one, other, keep⟩ := q
        have qb := no.qu _ (List.mem_of_getElem? hq)
        have il := lt_of_get hq
        obtain ⟨ta, rfl, hs⟩ := dp_eQ.mp hx
        refine g_tup3 rfl hs ?_
        show tSeq _ _ _ _ _
        refine w_asgN (K := K) (ds := ([("quarrel" : Str), sI one, sI other, "-"]).map .str) (en_lst (eds_cons ed_str (eds_cons (el_strI (ed_var rfl (.int _)) qb.1).d (eds_cons (el_strI (ed_var rfl (.int _)) qb.2.1).d (eds_cons ed_str eds_nil)))) (show 4 ≤ 100000 by decide)) (fun v7 H4 x4 h4 => ?_)
        obtain ⟨m, ws, rfl, m0, m1, m2⟩ := h4
        refine w_join (fun σ' H' => σ' = [some v, some (.ref l), a, b, some (.int one), some (.int other), some (.int keep), some (.ref m)] ∧ Ex H3 H' ∧ ∃ zs, H' m = some (.lst zs) ∧ DpAll K H' zs ((quarrelW (one, other, keep)).map .str)) ?go (fun go => ?main)
        case main =>
          refine' w_when K (b := decide (keep ≥ 0)) ?t (fun hb H5 x5 => ?_) (fun hb H5 x5 => ?_)
          case t => walk_at "et"
          · have h0 : 0 ≤ keep := of_decide_eq_true hb
            show tAsg _ _ _ _ _
            refine (el_strI (K := K) (ed_var rfl (.int _)) ⟨h0, qb.2.2.2⟩).d H5 (Evl.Ex.refl H5) _ fun u H6 x6 hu => ?_
            obtain ⟨w1, w2, w3, w4, rfl, a1, a2, a3, a4⟩ : ∃ w1 w2 w3 w4, ws = [w1, w2, w3, w4] ∧ Dp K H4 w1 (.str "quarrel") ∧ Dp K H4 w2 (.str (sI one)) ∧ Dp K H4 w3 (.str (sI other)) ∧ Dp K H4 w4 (.str "-") := by
              cases m2 with
              | cons a1 m2 => cases m2 with
                | cons a2 m2 => cases m2 with
                  | cons a3 m2 => cases m2 with
                    | cons a4 m2 => cases m2; exact ⟨_, _, _, _, rfl, a1, a2, a3, a4⟩
            have m6 := (x5.trans x6) _ _ m1
            refine ⟨_, rfl, m, [w1, w2, w3, w4], 3, 3, rfl, rfl, m6, rfl, ?_⟩
            have u6 : Up H6 (upd H6 m (.lst [w1, w2, w3, u])) := Up.lst m6
            have x46 := x5.trans x6
            refine go _ _ ⟨rfl, (x4.trans x46).mut m0, [w1, w2, w3, u], upd_same, ?_⟩
            unfold quarrelW keepW
            rw [if_pos h0]
            exact .cons (dp_up u6 _ _ rfl (dp_mono x46 _ _ a1)) (.cons (dp_up u6 _ _ rfl (dp_mono x46 _ _ a2)) (.cons (dp_up u6 _ _ rfl (dp_mono x46 _ _ a3)) (.cons (dp_up u6 _ _ rfl hu) .nil)))
          · have h0 : ¬ 0 ≤ keep := of_decide_eq_false hb
            refine go _ _ ⟨rfl, x4.trans x5, ws, x5 _ _ m1, ?_⟩
            unfold quarrelW keepW
            rw [if_neg h0]
            exact dpa_mono x5 _ _ m2
        case go =>
          rintro σ' H5 ⟨rfl, x5, zs, hz, hzd⟩
          show tDrop _ _ _ _
          have jn : EvD K (tM1 (rJoin K) (tC (.str " ")) (tVar 7)) [some v, some (.ref l), a, b, some (.int one), some (.int other), some (.int keep), some (.ref m)] H5 (.str (quarrelL (one, other, keep))) := by
            refine ed_join (ys := quarrelW (one, other, keep)) ed_str (ed_var rfl (dp_lst.mpr ⟨m, zs, rfl, SqL.of hz, hzd⟩)) ?_
            have b1 := sI_len qb.1
            have b2 := sI_len qb.2.1
            have b3 := keep_len qb.2.2
            have b4 : ("quarrel" : Str).length ≤ 20 := by decide +kernel
            have b5 : (" " : Str).length ≤ 20 := by decide +kernel
            unfold quarrelW
            simp only [List.map_cons, List.map_nil, List.sum_cons, List.sum_nil, List.length_cons, List.length_nil]
            dsimp only at b1 b2 b3
            omega
          exact w_lay (K := K) rfl jn (ExB.ex x5) (x5 _ _ hl3) (dpa_mono x5 _ _ ha3) (noLs_map (fun _ => rfl) _) rfl (by unfold quLines; rw [List.length_map, List.length_cons, List.length_append, List.length_map, List.length_map, List.length_take]; omega) (by show (quLines n (i + 1)).map PyData.str = _; rw [quLines_snoc hq, List.map_append]; rfl) ⟨_, _, _, _, rfl⟩ (fun _ _ h => h)
      · rintro σ' H3 ys x3 ⟨c, d, e, f, rfl⟩ hl3 ha3
        rw [List.length_map, quLines_end] at ha3
        refine ⟨_, rfl, ?_⟩
        exact k _ H3 x3 ⟨l, ys, rfl, l0, hl3, ha3⟩
end

end Fy

namespace Fy
open PySem PySem.Spec PyProof.Rows L2
/-! ### what a text writes, as the law tells it -/
def lawNum (x : Str) (most : Int) : Int := match numberOf x with
  | some v => if v > most then -1 else v
  | none => -1
def isThing (ws : List Str) : Bool := decide (ws.length = 3) && decide (wAt ws 0 = "thing")
def isQuar (ws : List Str) : Bool := decide (ws.length = 4) && decide (wAt ws 0 = "quarrel")
def preN : List (List Str) → Nat
  | [] => 0
  | ws :: r => if isThing ws = true then preN r + 1 else 0
def toldT (ws : List Str) : Option (Int × Bool) := if (decide (lawNum (wAt ws 1) 1000000000 < 1) || !rowsS (wAt ws 2)) = true then none else some (lawNum (wAt ws 1) 1000000000, decide (wAt ws 2 = "rows"))
def bad3 (a b c : Int) : Bool := (decide (a < 0) || (decide (b < 0) || decide (c < 0))) || (decide (a = b) || (decide (a = c) || decide (b = c)))
def third (ws : List Str) (m : Int) : Int := if wAt ws 3 = "-" then m else lawNum (wAt ws 3) (m - 1)
def lawToldQ (ws : List Str) (m : Int) : Option (Int × Int × Int) := if bad3 (lawNum (wAt ws 1) (m - 1)) (lawNum (wAt ws 2) (m - 1)) (third ws m) = true then none else some (lawNum (wAt ws 1) (m - 1), lawNum (wAt ws 2) (m - 1), if wAt ws 3 = "-" then -1 else third ws m)
def mapO {α β : Type} (f : α → Option β) : List α → Option (List β)
  | [] => some []
  | a :: r => (f a).bind fun b => (mapO f r).map fun bs => b :: bs
theorem mapO_cons {α β : Type} (f : α → Option β) (a : α) (r : List α) : mapO f (a :: r) = (f a).bind fun b => (mapO f r).map fun bs => b :: bs := rfl
def keepIf {α : Type} (p : α → Bool) : Option α → Option α
  | some a => if p a = true then some a else none
  | none => none
def roomW (W : List (List Str)) : Int := lawNum (wAt (W.headD []) 1) 3
def dueBad (W : List (List Str)) : Bool := decide (preN (restW W) < 1) || (decide (preN (restW W) > 6) || ((mapO toldT ((restW W).take (preN (restW W)))).isNone || decide ((restW W).length - preN (restW W) > 30)))
def dueOf (W : List (List Str)) : Option Nt := if ((lastOk W && headOk W) && !decide (roomW W < 1)) = true then
    if dueBad W = true then none else if ((restW W).drop (preN (restW W))).all isQuar = false then none else
    (mapO toldT ((restW W).take (preN (restW W)))).bind fun ts => (mapO (fun ws => lawToldQ ws (preN (restW W) : Nat)) ((restW W).drop (preN (restW W)))).map fun qs => ⟨ts, roomW W, qs⟩
  else none
theorem preN_le : ∀ l : List (List Str), preN l ≤ l.length
  | [] => Nat.le_refl _
  | ws :: r => by
    have := preN_le r
    unfold preN
    split
    · rw [List.length_cons]; omega
    · exact Nat.zero_le _
theorem preN_take : ∀ l : List (List Str), ∀ ws ∈ l.take (preN l), isThing ws = true
  | [], ws, h => by simp at h
  | a :: r, ws, h => by
    unfold preN at h
    by_cases e : isThing a = true
    · rw [if_pos e, List.take_succ_cons] at h
      rcases List.mem_cons.mp h with rfl | h
      · exact e
      · exact preN_take r ws h
    · rw [if_neg e, List.take_zero] at h
      cases h
theorem preN_stop : ∀ l : List (List Str), ∀ ws, l[preN l]? = some ws → isThing ws = false
  | [], ws, h => by simp at h
  | a :: r, ws, h => by
    unfold preN at h
    by_cases e : isThing a = true
    · rw [if_pos e, List.getElem?_cons_succ] at h
      exact preN_stop r ws h
    · rw [if_neg e, List.getElem?_cons_zero] at h
      cases h
      simpa using e
theorem mapO_len {α β : Type} {f : α → Option β} : ∀ {l : List α} {ys : List β}, mapO f l = some ys → ys.length = l.length
  | [], ys, h => by cases h; rfl
  | a :: r, ys, h => by
    unfold mapO at h
    cases e : f a with
    | none => rw [e] at h; cases h
    | some b =>
      cases e2 : mapO f r with
      | none => rw [e, e2] at h; cases h
      | some bs =>
        rw [e, e2] at h
        cases h
        rw [List.length_cons, List.length_cons, mapO_len e2]
theorem mapO_keep {α β : Type} {f g : α → Option β} {p : β → Bool} : ∀ {l : List α}, (∀ a ∈ l, g a = keepIf p (f a)) → mapO g l = keepIf (fun ys => ys.all p) (mapO f l)
  | [], _ => rfl
  | a :: r, h => by
    have ih := mapO_keep (f := f) (g := g) (p := p) (l := r) fun b hb => h b (List.mem_cons_of_mem _ hb)
    unfold mapO
    rw [h a List.mem_cons_self, ih]
    cases f a with
    | none => rfl
    | some b =>
      cases mapO f r with
      | none =>
        cases hp : p b <;> simp [keepIf, hp]
      | some bs =>
        cases hp : p b <;> cases hq : bs.all p <;> simp [keepIf, hp, hq]
theorem mapO_none {α β : Type} {f : α → Option β} {a : α} : ∀ {l : List α}, a ∈ l → f a = none → mapO f l = none
  | b :: r, h, e => by
    unfold mapO
    rcases List.mem_cons.mp h with rfl | h
    · rw [e]; rfl
    · rw [mapO_none h e]
      cases f b <;> rfl
theorem scan_qs : ∀ (l : List (List Str)) (ts : List (Int × Bool)) (qs : List (Int × Int × Int)), qs ≠ [] → scanW ts qs l = (mapO quarrelOf l).map fun q => (ts, qs ++ q)
  | [], ts, qs, _ => by show some (ts, qs) = some (ts, qs ++ []); rw [List.append_nil]
  | ws :: r, ts, qs, h => by
    unfold scanW mapO
    rw [decide_eq_false h, Bool.and_false, if_neg Bool.false_ne_true]
    cases quarrelOf ws with
    | none => rfl
    | some q =>
      show scanW ts (qs ++ [q]) r = _
      rw [scan_qs r ts (qs ++ [q]) (by simp)]
      cases mapO quarrelOf r with
      | none => rfl
      | some bs => show some (ts, (qs ++ [q]) ++ bs) = some (ts, qs ++ (q :: bs)); rw [List.append_assoc]; rfl
theorem thing_ne : ¬ (("thing" : Str) = "quarrel") := by decide +kernel
theorem scan_split : ∀ (l : List (List Str)) (ts : List (Int × Bool)), scanW ts [] l = (mapO thingOf (l.take (preN l))).bind fun ts' => (mapO quarrelOf (l.drop (preN l))).map fun qs => (ts ++ ts', qs)
  | [], ts => by show some (ts, []) = some (ts ++ [], []); rw [List.append_nil]
  | ws :: r, ts => by
    by_cases e : isThing ws = true
    · have e0 : wAt ws 0 = "thing" := of_decide_eq_true (Bool.and_eq_true_iff.mp e).2
      have k : preN (ws :: r) = preN r + 1 := by show (if _ then _ else _) = _; rw [if_pos e]
      rw [k, List.take_succ_cons, List.drop_succ_cons, mapO_cons]
      unfold scanW
      rw [decide_eq_true e0, decide_eq_true rfl, Bool.true_and, if_pos rfl]
      cases thingOf ws with
      | none => rfl
      | some t =>
        show scanW (ts ++ [t]) [] r = _
        rw [scan_split r (ts ++ [t])]
        show _ = ((mapO thingOf (r.take (preN r))).map fun bs => t :: bs).bind fun ts' => (mapO quarrelOf (r.drop (preN r))).map fun qs => (ts ++ ts', qs)
        cases mapO thingOf (r.take (preN r)) with
        | none => rfl
        | some bs =>
          show ((mapO quarrelOf (r.drop (preN r))).map fun qs => ((ts ++ [t]) ++ bs, qs)) = (mapO quarrelOf (r.drop (preN r))).map fun qs => (ts ++ (t :: bs), qs)
          rw [List.append_assoc]
          rfl
    · have k : preN (ws :: r) = 0 := by show (if _ then _ else _) = _; rw [if_neg e]
      rw [k, List.take_zero, List.drop_zero]
      show _ = (mapO quarrelOf (ws :: r)).map _
      unfold scanW mapO
      by_cases e0 : wAt ws 0 = "thing"
      · have el : ¬ ws.length = 3 := fun c => e (by unfold isThing; rw [decide_eq_true c, decide_eq_true e0]; rfl)
        have t0 : thingOf ws = none := by unfold thingOf; rw [decide_eq_false el, Bool.false_and, if_neg Bool.false_ne_true]
        have q0 : quarrelOf ws = none := by unfold quarrelOf; rw [decide_eq_false (show ¬ wAt ws 0 = "quarrel" from fun c => thing_ne (e0.symm.trans c)), Bool.and_false, if_neg Bool.false_ne_true]
        rw [decide_eq_true e0, decide_eq_true rfl, Bool.true_and, if_pos rfl, t0, q0]
        rfl
      · rw [decide_eq_false e0, Bool.false_and, if_neg Bool.false_ne_true]
        cases quarrelOf ws with
        | none => rfl
        | some q =>
          show scanW ts ([] ++ [q]) r = _
          rw [scan_qs r ts _ (by simp)]
          cases mapO quarrelOf r with
          | none => rfl
          | some bs => show some (ts, [q] ++ bs) = some (ts ++ [], q :: bs); rw [List.append_nil]; rfl
theorem num_nn {x : Str} {v : Int} (h : numberOf x = some v) : 0 ≤ v := by
  unfold numberOf at h
  split at h
  · cases h; unfold numV; omega
  · cases h
theorem law_thing {ws : List Str} (h : isThing ws = true) : toldT ws = keepIf paceOk (thingOf ws) := by
  have l3 : ws.length = 3 := of_decide_eq_true (Bool.and_eq_true_iff.mp h).1
  unfold toldT thingOf lawNum
  rw [decide_eq_true l3, Bool.true_and]
  cases hr : rowsS (wAt ws 2) with
  | false => simp [keepIf]
  | true =>
    cases hn : numberOf (wAt ws 1) with
    | none => simp [keepIf]
    | some v =>
      have := num_nn hn
      by_cases c : v > 1000000000
      · have : ¬ (1 ≤ v ∧ v ≤ 1000000000) := by omega
        simp [keepIf, paceOk, c, this]
      · by_cases d : v < 1
        · have : ¬ (1 ≤ v ∧ v ≤ 1000000000) := by omega
          simp [keepIf, paceOk, c, d, this]
        · have : (1 ≤ v ∧ v ≤ 1000000000) := by omega
          simp [keepIf, paceOk, c, d, this]
theorem room_num (x : Str) : (1 ≤ lawNum x 3 → numberOf x = some (lawNum x 3) ∧ roomOk (lawNum x 3) = true) ∧ (lawNum x 3 < 1 → ∀ r, numberOf x = some r → roomOk r = false) := by
  unfold lawNum
  cases hn : numberOf x with
  | none => exact ⟨fun h => by simp at h, fun _ r e => by cases e⟩
  | some v =>
    have := num_nn hn
    by_cases c : v > 3
    · rw [show (match some v with | some v => if v > 3 then (-1 : Int) else v | none => -1) = -1 from if_pos c]
      exact ⟨fun h => by omega, fun _ r e => by cases e; exact decide_eq_false (by omega)⟩
    · rw [show (match some v with | some v => if v > 3 then (-1 : Int) else v | none => -1) = v from if_neg c]
      exact ⟨fun h => ⟨rfl, decide_eq_true (by omega)⟩, fun h r e => by cases e; exact decide_eq_false (by omega)⟩
theorem lawNum_some {x : Str} {v most : Int} (h : numberOf x = some v) : lawNum x most = if v > most then -1 else v := by unfold lawNum; rw [h]
theorem lawNum_none {x : Str} {most : Int} (h : numberOf x = none) : lawNum x most = -1 := by unfold lawNum; rw [h]
theorem law_told {ws : List Str} {m : Int} (hm : 0 ≤ m) (h : isQuar ws = true) : lawToldQ ws m = keepIf (quarrelOk m) (quarrelOf ws) := by
  have qo : quarrelOf ws = (keeperOf (wAt ws 3)).bind fun k => (numberOf (wAt ws 1)).bind fun a => (numberOf (wAt ws 2)).map fun b => (a, b, k) := by
    unfold quarrelOf
    exact if_pos h
  have tk : third ws m = if wAt ws 3 = "-" then m else lawNum (wAt ws 3) (m - 1) := rfl
  have ko : keeperOf (wAt ws 3) = if wAt ws 3 = "-" then some (-1) else numberOf (wAt ws 3) := rfl
  have neg : ∀ a b c : Int, (a < 0 ∨ b < 0 ∨ c < 0) → bad3 a b c = true := fun a b c h => by
    unfold bad3
    rcases h with h | h | h <;> simp [h]
  unfold lawToldQ
  rw [qo, tk, ko]
  cases h1 : numberOf (wAt ws 1) with
  | none =>
    rw [neg _ _ _ (.inl (by rw [lawNum_none h1]; decide)), if_pos rfl]
    cases (if wAt ws 3 = "-" then some (-1 : Int) else numberOf (wAt ws 3)) <;> rfl
  | some a =>
    have a0 := num_nn h1
    cases h2 : numberOf (wAt ws 2) with
    | none =>
      rw [neg _ _ _ (.inr (.inl (by rw [lawNum_none h2]; decide))), if_pos rfl]
      cases (if wAt ws 3 = "-" then some (-1 : Int) else numberOf (wAt ws 3)) <;> rfl
    | some b =>
      have b0 := num_nn h2
      rw [lawNum_some h1, lawNum_some h2]
      by_cases e : wAt ws 3 = "-"
      · rw [if_pos e, if_pos e, if_pos e]
        show _ = keepIf (quarrelOk m) (some (a, b, -1))
        unfold keepIf quarrelOk quarrelIn quarrelTwo bad3
        dsimp only
        by_cases c1 : a > m - 1
        · have : ¬ (0 ≤ a ∧ a < m) := by omega
          simp [c1, this]
        · by_cases c2 : b > m - 1
          · have : ¬ (0 ≤ b ∧ b < m) := by omega
            simp [c1, c2, this]
          · have d1 : (0 ≤ a ∧ a < m) := by omega
            have d2 : (0 ≤ b ∧ b < m) := by omega
            have d3 : (-1 ≤ (-1 : Int) ∧ (-1 : Int) < m) := by omega
            have d4 : ¬ a < 0 := by omega
            have d5 : ¬ b < 0 := by omega
            have d6 : ¬ m < 0 := by omega
            have d7 : ¬ a = m := by omega
            have d8 : ¬ b = m := by omega
            have d9 : ¬ (-1 : Int) = a := by omega
            have d10 : ¬ (-1 : Int) = b := by omega
            rw [if_neg c1, if_neg c2, decide_eq_true d1, decide_eq_true d2, decide_eq_true d3, decide_eq_false d4, decide_eq_false d5, decide_eq_false d6, decide_eq_false d7, decide_eq_false d8, decide_eq_false d9, decide_eq_false d10]
            by_cases ab : a = b <;> simp [ab]
      · rw [if_neg e, if_neg e, if_neg e]
        cases h3 : numberOf (wAt ws 3) with
        | none =>
          rw [neg _ _ _ (.inr (.inr (by rw [lawNum_none h3]; decide))), if_pos rfl]
          rfl
        | some c =>
          have c0 := num_nn h3
          rw [lawNum_some h3]
          show _ = keepIf (quarrelOk m) (some (a, b, c))
          unfold keepIf quarrelOk quarrelIn quarrelTwo bad3
          dsimp only
          by_cases c1 : a > m - 1
          · have : ¬ (0 ≤ a ∧ a < m) := by omega
            simp [c1, this]
          · by_cases c2 : b > m - 1
            · have : ¬ (0 ≤ b ∧ b < m) := by omega
              simp [c1, c2, this]
            · by_cases c3 : c > m - 1
              · have : ¬ (-1 ≤ c ∧ c < m) := by omega
                simp [c1, c2, c3, this]
              · have d1 : (0 ≤ a ∧ a < m) := by omega
                have d2 : (0 ≤ b ∧ b < m) := by omega
                have d3 : (-1 ≤ c ∧ c < m) := by omega
                have d4 : ¬ a < 0 := by omega
                have d5 : ¬ b < 0 := by omega
                have d6 : ¬ c < 0 := by omega
                rw [if_neg c1, if_neg c2, if_neg c3, decide_eq_true d1, decide_eq_true d2, decide_eq_true d3, decide_eq_false d4, decide_eq_false d5, decide_eq_false d6]
                have s1 : decide (c = a) = decide (a = c) := decide_eq_decide.mpr eq_comm
                have s2 : decide (c = b) = decide (b = c) := decide_eq_decide.mpr eq_comm
                rw [s1, s2]
                cases decide (a = b) <;> cases decide (a = c) <;> cases decide (b = c) <;> rfl
theorem due_eq (W : List (List Str)) : dueOf W = noteOf W := by
  unfold dueOf noteOf
  cases hh : (lastOk W && headOk W) with
  | false => rw [Bool.false_and, if_neg Bool.false_ne_true, if_neg Bool.false_ne_true]
  | true =>
    rw [Bool.true_and, if_pos rfl, scan_split]
    obtain ⟨r1, r2⟩ := room_num (wAt (W.headD []) 1)
    have rw' : roomW W = lawNum (wAt (W.headD []) 1) 3 := rfl
    unfold dueBad
    rw [rw']
    generalize hl : restW W = l
    have kl := preN_le l
    have kt : (l.take (preN l)).length = preN l := by rw [List.length_take]; omega
    have kd : (l.drop (preN l)).length = l.length - preN l := List.length_drop
    rw [mapO_keep (f := thingOf) (g := toldT) (p := paceOk) (l := l.take (preN l)) (fun a ha => law_thing (preN_take l a ha))]
    by_cases c : lawNum (wAt (W.headD []) 1) 3 < 1
    · rw [decide_eq_true c]
      show none = _
      cases mapO thingOf (l.take (preN l)) with
      | none => rfl
      | some ts =>
        cases mapO quarrelOf (l.drop (preN l)) with
        | none => rfl
        | some qs =>
          show none = (numberOf (wAt (W.headD []) 1)).bind _
          cases hn : numberOf (wAt (W.headD []) 1) with
          | none => rfl
          | some r =>
            show none = if (thingsOk _ && (roomOk r && _)) = true then _ else _
            rw [r2 c r hn, Bool.false_and, Bool.and_false, if_neg Bool.false_ne_true]
    · rw [decide_eq_false c]
      obtain ⟨n1, n2⟩ := r1 (by omega)
      generalize lawNum (wAt (W.headD []) 1) 3 = r at n1 n2
      rw [n1]
      show (if _ then none else _) = _
      cases ht : mapO thingOf (l.take (preN l)) with
      | none => simp [keepIf]
      | some ts =>
        have tl := mapO_len ht
        rw [kt] at tl
        cases hp : ts.all paceOk with
        | false =>
          have z : keepIf (fun ys => ys.all paceOk) (some ts) = none := if_neg (by show ¬ ts.all paceOk = true; rw [hp]; decide)
          rw [z]
          have u : ∀ b, (Nt.mk ts r b).ok = false := fun b => by
            unfold Nt.ok thingsOk
            rw [hp, Bool.and_false, Bool.false_and]
          have no : (Option.isNone (none : Option (List (Int × Bool)))) = true := rfl
          rw [no, Bool.true_or, Bool.or_true, Bool.or_true, if_pos rfl]
          cases mapO quarrelOf (l.drop (preN l)) with
          | none => rfl
          | some b =>
            show none = if (Nt.mk ts r b).ok = true then _ else none
            rw [u b]
            rfl
        | true =>
          have z : keepIf (fun ys => ys.all paceOk) (some ts) = some ts := if_pos hp
          rw [z]
          cases hq : (l.drop (preN l)).all isQuar with
          | false =>
            obtain ⟨ws, hw, hn⟩ : ∃ ws ∈ l.drop (preN l), isQuar ws = false := by
              rw [List.all_eq_false] at hq
              obtain ⟨x, a, b⟩ := hq
              exact ⟨x, a, by simpa using b⟩
            have q0 : quarrelOf ws = none := by
              unfold quarrelOf
              rw [if_neg]
              unfold isQuar at hn
              rw [hn]
              decide
            rw [mapO_none hw q0]
            simp
          | true =>
            rw [mapO_keep (f := quarrelOf) (p := quarrelOk (preN l : Nat)) (l := l.drop (preN l)) (fun a ha => law_told (by omega) (List.all_eq_true.mp hq a ha))]
            rw [if_neg (show ¬ (true = false) by decide)]
            cases hqs : mapO quarrelOf (l.drop (preN l)) with
            | none => simp [keepIf]
            | some qs =>
              have ql := mapO_len hqs
              rw [kd] at ql
              show (if _ then none else Option.map _ (if _ then some qs else none)) = if (Nt.mk ts r qs).ok = true then some (Nt.mk ts r qs) else none
              unfold Nt.ok thingsOk quarrelsOk
              rw [hp, n2, tl, ql]
              by_cases b1 : (1 ≤ preN l ∧ preN l ≤ 6)
              · rw [decide_eq_true b1]
                by_cases b2 : l.length - preN l ≤ 30
                · rw [decide_eq_true b2, decide_eq_false (show ¬ preN l < 1 by omega), decide_eq_false (show ¬ preN l > 6 by omega), decide_eq_false (show ¬ l.length - preN l > 30 by omega)]
                  cases hz : qs.all (quarrelOk (preN l : Nat)) <;> simp [hz]
                · rw [decide_eq_false b2, decide_eq_true (show l.length - preN l > 30 by omega)]
                  simp
              · rw [decide_eq_false b1]
                by_cases b3 : preN l < 1
                · rw [decide_eq_true b3]; simp
                · rw [decide_eq_true (show preN l > 6 by omega)]; simp

end Fy

namespace Fy
open PySem PySem.Spec PyProof.Rows L2
/-! ### numbers, things, quarrels as the law tells them, walked -/
abbrev rInt1D : List V → Hp → VK → Prop := fun xs H Q => (∃ i, xs = [.int i] ∧ Q (.int i) H) ∨ ∃ k, xs = [.bl k] ∧ Q (.int (if k then 1 else 0)) H
def eO {α : Type} (f : α → PyData) : Option α → PyData
  | some a => f a
  | none => .none
theorem noL_eO {α : Type} {f : α → PyData} (h : ∀ a, noL (f a) = true) : ∀ o : Option α, noL (eO f o) = true
  | some a => h a
  | none => rfl
def spLNum (K : PySem.W.Frag) : Sp := spP K (fun x : Str × Int => x.1.length ≤ 90000) (fun x => [.str x.1, .int x.2]) (fun x => .int (lawNum x.1 x.2))
def spLThing (K : PySem.W.Frag) : Sp := spP K (fun ws : List Str => ws.length = 3 ∧ Small 90000 ws) (fun ws => [eWs ws]) (fun ws => eO eT (toldT ws))
def spLToldQ (K : PySem.W.Frag) : Sp := spP K (fun x : List Str × Nat => x.1.length = 4 ∧ Small 90000 x.1 ∧ x.2 ≤ 6) (fun x => [eWs x.1, .int (x.2 : Int)]) (fun x => eO eQ (lawToldQ x.1 x.2))
/-- len(set(xs)) of ints -/
def tLenSetX (K : PySem.W.Frag) (ta : TE) : TE := fun σ H Q => ta σ H fun x H1 => ∃ (l : Addr) (ns : List Int), x = .ref l ∧ SqL K H1 l (ns.map V.int) ∧ ns.length ≤ 4000 ∧ Q (.int ((firstMet (fun i => ns.getD i 0) ns.length).length : Nat)) H1
theorem pe_lenSetX {X : Cx} {a : Expr} {ta : TE} {p p2 q pos : Pos} (hg : Gl X "len") (hm : X.mg "len" = none) (hg2 : Gl X "set") (hm2 : X.mg "set" = none) (ha : PE X a ta) (hc : X.calm = true := by rfl)
    (na : starEach [a] X.env = (false, eval a X.env) :: starEach [] X.env := by rfl) : PE X (.Call (.Name "len" p) [.Call (.Name "set" p2) [a] [] q] [] pos) (tLenSetX X.K ta) := by
  refine ⟨fun pins s σ H Q I h => ?_⟩
  refine Call_ (ld_blt I hg hm boot_len ?_)
  refine PyProof.Rows.callWith_builtin1 (PyProof.Rows.args_cons ?_ rfl) rfl rfl
  refine Call_ (ld_blt I hg2 hm2 boot_set ?_)
  refine PyProof.Rows.callWith_type1 (PyProof.Rows.args_cons (thn (ha.run pins s σ H _ I h) fun v s1 ⟨x, H1, I1, r1, q1⟩ => PyProof.Rows.args_nil ?_) na) na rfl
  obtain ⟨l, ns, rfl, hq, hl, q1⟩ := q1
  cases r1
  obtain ⟨its, r, pl, hz⟩ := I1.list hq
  have hlen : its.toArray.size = ns.length := by rw [List.size_toArray, ← r.length, List.length_map]
  refine call_set_list (I1.ok.hd hc) pl.isList (by simpa using RZ.intsAre_vals r) (by rw [hlen]; unfold scanBound; omega) fun h' tk hS hk => ?_
  refine PyProof.Rows.args_nil ?_
  rw [hlen] at hS
  have fl := firstMet_length_le (fun i => ns.getD i 0) ns.length
  obtain ⟨o, es, ep, t, ho, hex, hd, _, _, _, hf, hn⟩ := hS
  have I2 : Inv X pins σ H1 { s1 with heap := h', toks := tk } := I1.kept fun b o e => hk b o (Heap.lt_size e) e
  exact call_len_set ho hex hd hf (by rw [hn] <;> omega) ⟨.int _, H1, I2.tok _, ⟨_, by rw [hn]⟩, q1⟩
theorem met3 (a b c : Int) : decide (((firstMet (fun i => [a, b, c].getD i 0) 3).length : Int) < 3) = (decide (a = b) || (decide (a = c) || decide (b = c))) := by
  have e : firstMet (fun i => [a, b, c].getD i 0) 3 = step_dedup (step_dedup (step_dedup [] a) b) c := rfl
  rw [e]
  unfold step_dedup
  by_cases h1 : a = b
  · subst h1
    by_cases h2 : a = c
    · subst h2; simp
    · simp [h2]
  · by_cases h2 : a = c
    · subst h2; simp [h1]
    · by_cases h3 : b = c
      · subst h3; simp [h1]
      · simp [h1, h2, h3]
theorem min3 {a b c m : Int} (h1 : m ∈ [a, b, c]) (h2 : ∀ y, y ∈ [a, b, c] → m ≤ y) : decide (m < 0) = (decide (a < 0) || (decide (b < 0) || decide (c < 0))) := by
  have ha := h2 a (by simp)
  have hb := h2 b (by simp)
  have hc := h2 c (by simp)
  simp only [List.mem_cons, List.not_mem_nil, or_false] at h1
  by_cases m0 : m < 0
  · rw [decide_eq_true m0]
    rcases h1 with rfl | rfl | rfl <;> simp [m0]
  · rw [decide_eq_false m0, decide_eq_false (show ¬ a < 0 by omega), decide_eq_false (show ¬ b < 0 by omega), decide_eq_false (show ¬ c < 0 by omega)]
    rfl
section
variable {K : PySem.W.Frag} {σ : L2.St} {H : Hp} {ta tb te : TE} {ws : List Str} {x : Str} {m : Int} {b : Bool}
theorem cd_intBD : CD K rInt1D [.bool b] (.int (if b then 1 else 0)) := fun H vs h Q q => by
  obtain ⟨v, rfl, h1⟩ := dpa1 h
  cases dp_bl.mp h1
  exact .inr ⟨b, rfl, q _ H (Evl.Ex.refl H) (.int _)⟩
theorem ed_lnum (h : EvD K ta σ H (.str x)) (hm : EvD K tb σ H (.int m)) (hl : x.length ≤ 90000) : EvD K (tCall (spLNum K) [] E0 (tCons ta (tCons tb tNil))) σ H (.int (lawNum x m)) :=
  ed_call (x := (x, m)) hl (eds_cons h (eds_cons hm eds_nil))
theorem ed_billion : EvD K (tOp (rI CPow fun i j => .int (i ^ j.toNat)) (tC (.int 10)) (tC (.int 9))) σ H (.int 1000000000) :=
  ed_op ed_int ed_int (rd_I (show CPow 10 9 by unfold CPow; decide) fun _ => by
    have e : (10 : Int) ^ (9 : Int).toNat = 1000000000 := by decide
    rw [e]
    exact .int _)
theorem wAt_small {N : Nat} (hs : Small N ws) {i : Nat} (h : i < ws.length) : (wAt ws i).length ≤ N ∧ PyData.strOk (wAt ws i) = true := hs.2.2 _ (List.mem_of_getElem? (wAt_get h))
end
theorem num_ahead {x : Str} (h : ((decide ((x.length : Int) < 1) || (decide ((x.length : Int) > 10) || (decide ((x.length : Int) > 1) && decide ((sg x).head? = some 48)))) : Bool) = true) : numberOf x = none := by
  unfold numberOf numOk
  rw [if_neg]
  intro c
  rw [Bool.and_eq_true, Bool.and_eq_true] at c
  obtain ⟨⟨c1, c2⟩, _⟩ := c
  unfold lenOk at c1
  simp only [Bool.and_eq_true, decide_eq_true_eq] at c1
  rw [decide_eq_false (show ¬ (x.length : Int) < 1 by omega), decide_eq_false (show ¬ (x.length : Int) > 10 by omega), Bool.false_or, Bool.false_or, Bool.and_eq_true, decide_eq_true_eq, decide_eq_true_eq] at h
  unfold zeroAhead at c2
  rw [decide_eq_true h.2, Bool.true_and, Bool.not_not] at c2
  have e := of_decide_eq_true c2
  rw [e] at h
  have l1 : ("0" : Str).length = 1 := by decide +kernel
  rw [l1] at h
  omega
theorem num_len {x : Str} (h : ((decide ((x.length : Int) < 1) || (decide ((x.length : Int) > 10) || (decide ((x.length : Int) > 1) && decide ((sg x).head? = some 48)))) : Bool) = false) : lenOk x = true ∧ zeroAhead x = false := by
  obtain ⟨h1, h⟩ := Bool.or_eq_false_iff.mp h
  obtain ⟨h2, h3⟩ := Bool.or_eq_false_iff.mp h
  have l1 := of_decide_eq_false h1
  have l2 := of_decide_eq_false h2
  refine ⟨by unfold lenOk; rw [decide_eq_true (by omega), decide_eq_true (by omega)]; rfl, ?_⟩
  unfold zeroAhead
  cases hz : decide ((sg x).head? = some 48) with
  | false => rfl
  | true =>
    rw [hz, Bool.and_true] at h3
    have l3 := of_decide_eq_false h3
    have l4 : (sg x).length = 1 := by rw [sg_len]; omega
    obtain ⟨c, hc⟩ : ∃ c, sg x = [c] := by
      cases e : sg x with
      | nil => rw [e] at l4; cases l4
      | cons c r => cases r with
        | nil => exact ⟨c, rfl⟩
        | cons d r => rw [e] at l4; simp at l4
    have e := of_decide_eq_true hz
    rw [hc] at e
    have e0 : x = "0" := sg_inj (by rw [hc]; cases e; decide +kernel)
    rw [decide_eq_true e0]
    rfl
section
variable {P : Program} {w : World} {K : PySem.W.Frag} {mg : Str → Option Value} {base : Heap}
theorem sc__law_number : FnScope ["word", "most", "sign"] ["word", "most"] (defScope s__law_number) := ⟨rfl, rfl, rfl, by decide +kernel, rfl, by decide +kernel, by decide +kernel⟩
theorem ok__law_number (T : Tx K mg) : Has P w K mg base CX0 1 "_law_number" ["word", "most"] (spLNum K) := by
  obtain ⟨fd, F⟩ := T.f__law_number
  refine ⟨T.g__law_number, fd, F.ok sc__law_number (fun vs H Q E h => ?_) (fun cdv A outer s H vs Q E hr h => ⟨_, PSs.nox (pss_cons (ps_if (PW.pt (pw_or (pt_cmpR op_lt (pe_callB (r := rLenS) call_len_str (by rfl) T.b_len (by decide +kernel) (pa_cons (pv 0) pa_nil)) pe_int (nomark _)) (pw_or (pt_cmpR op_gt (pe_callB (r := rLenS) call_len_str (by rfl) T.b_len (by decide +kernel) (pa_cons (pv 0) pa_nil)) pe_int (nomark _)) (pw_or1 (PW.pt (pw_and (pt_cmpR op_gt (pe_callB (r := rLenS) call_len_str (by rfl) T.b_len (by decide +kernel) (pa_cons (pv 0) pa_nil)) pe_int (nomark _)) (pw_and1 (pt_cmpR op_eq (pe_ix (r := rIxS) ix_str (pv 0) pe_int (fun _ _ => rfl)) pe_str (nomark _))))))))) (pss_one (ps_ret (pe_un un_neg pe_int))) pss_nil)
      (pss_cons (ps_for PassesOwn.never rfl (pi_str (pv 0)) (pg_name (i := 2) sc__law_number.nd rfl (.inl rfl)) (pss_one (ps_if (pt_cmpR (r := rNotInS) op_notInS (pv 2) pe_str (by rfl)) (pss_one (ps_ret (pe_un un_neg pe_int))) pss_nil)))
      (pss_cons (ps_if (pt_cmpR op_gt (pe_callTy (r := rIntS) call_int_str (by rfl) T.b_int (by decide +kernel) (pa_cons (pv 0) pa_nil)) (pv 1) (nomark _)) (pss_one (ps_ret (pe_un un_neg pe_int))) pss_nil)
      (pss_one (ps_ret (pe_callTy (r := rIntS) call_int_str (by rfl) T.b_int (by decide +kernel) (pa_cons (pv 0) pa_nil))))))), ?_⟩), F.bindsN fun _ _ _ _ _ _ us hl => match us, hl with | [_, _], _ => rfl, F.kp⟩
  · exact spP.len (K := K) (enc := fun x : Str × Int => [.str x.1, .int x.2]) (fun _ => rfl) h
  · obtain ⟨⟨x, most⟩, hl, hvs, k⟩ := h
    obtain ⟨u1, u2, rfl, hu1, hu2⟩ := dpa2 hvs
    cases dp_str.mp hu1
    cases dp_int.mp hu2
    have hl : x.length ≤ 90000 := hl
    have kn : numberOf x = none → ∀ H', Ex H H' → Q (.int (-1)) H' := fun e H' x' => by
      have z := k (.int (-1)) H' x'
      have e2 : lawNum x most = -1 := lawNum_none e
      refine z ?_
      show Dp K H' (.int (-1)) (.int (lawNum x most))
      rw [e2]
      exact .int _
    have len : EvD K (tCB rLenS (tCons (tVar 0) tNil)) [some (.str x), some (.int most), none] H (.int (x.length : Nat)) := ed_cb (eds_cons (ed_var rfl (.str _)) eds_nil) (cd_lenS (by omega))
    have sec : decide ((x.length : Int) > 1) = true → EvB K (tTest (tOp rEq (tOp rIxS (tVar 0) (tC (.int 0))) (tC (.str "0")))) [some (.str x), some (.int most), none] H (decide ((sg x).head? = some 48)) := fun hb => by
      have hb := of_decide_eq_true hb
      obtain ⟨c, r, hc⟩ : ∃ c r, sg x = c :: r := by
        cases e : sg x with
        | nil => have := sg_len x; rw [e] at this; simp at this; omega
        | cons c r => exact ⟨c, r, rfl⟩
      have e : decide ((sg x).head? = some 48) = decide ((⟨#[c]⟩ : Str) = "0") := by
        rw [hc, one_zero]
        exact decide_eq_decide.mpr ⟨fun h => by injection h, fun h => by rw [h]; rfl⟩
      rw [e]
      exact eb_d (ed_op (d := .str ⟨#[c]⟩) (e := .str "0") (ed_op (d := .str x) (e := .int 0) (ed_var rfl (.str _)) ed_int (rd_ixS (by omega) (by rw [hc]; show atI (c :: r) ((0 : Nat) : Int) = some c; exact atI_nat rfl))) ed_str rd_eqS)
    refine w_when K (b := decide ((x.length : Int) < 1) || (decide ((x.length : Int) > 10) || (decide ((x.length : Int) > 1) && decide ((sg x).head? = some 48)))) (eb_or (eb_d (ed_op len ed_int (rd_I0 fun _ => .bl _))) (fun _ => eb_or (eb_d (ed_op len ed_int (rd_I0 fun _ => .bl _))) (fun _ => eb_and (eb_d (ed_op len ed_int (rd_I0 fun _ => .bl _))) sec))) (fun hb H1 x1 => ?_) (fun hb H1 x1 => ?_)
    · refine w_ret1 (K := K) (d := .int (-1)) (ed_un ed_int (fun _ => .int _)) fun v9 H9 x9 h9 => ?_
      cases dp_int.mp h9
      exact kn (num_ahead hb) H9 (x1.trans x9)
    · obtain ⟨hlen, hz⟩ := num_len hb
      refine w_forS (K := K) (x := x) (ed_var rfl (.str _)) (fun k σ H' => ∃ b, σ = [some (.str x), some (.int most), b] ∧ Ex H1 H' ∧ ((sg x).take k).all isDig = true) (fun H2 x2 => ⟨none, rfl, x2, rfl⟩) ?_ ?_
      · rintro k c σ' H2 hc ⟨b, rfl, x2, ha⟩
        refine w_when1 K (b := !isDig c) (eb_d (EvD.cast (ed_op (d := .str ⟨#[c]⟩) (e := .str "0123456789") (ed_var rfl (.str _)) ed_str rd_niS) (by rw [dig_mem]))) (fun hb2 H3 x3 => ?_) (fun hb2 H3 x3 => ?_)
        · refine w_ret1 (K := K) (d := .int (-1)) (ed_un ed_int (fun _ => .int _)) fun v9 H9 x9 h9 => ?_
          cases dp_int.mp h9
          refine kn ?_ H9 (((x1.trans x2).trans x3).trans x9)
          unfold numberOf numOk
          rw [all_not hc (by simpa using hb2), Bool.and_false]
          rfl
        · exact ⟨_, rfl, x2.trans x3, by rw [all_take hc ha]; simpa using hb2⟩
      · rintro σ' H2 ⟨b, rfl, x2, ha⟩
        rw [List.take_length] at ha
        have dg : PySem.NumText.AllDigits (sg x) := fun c hc => of_decide_eq_true (List.all_eq_true.mp ha c hc)
        have hl2 := hlen
        unfold lenOk at hl2
        simp only [Bool.and_eq_true, decide_eq_true_eq] at hl2
        have hne : sg x ≠ [] := fun e => by have := sg_len x; rw [e] at this; simp at this; omega
        have it := PySem.intText_digits (x := x) dg hne (show x.length ≤ 4300 by omega)
        have no : numberOf x = some (numV x) := by
          unfold numberOf numOk
          rw [hlen, hz, ha]
          rfl
        have ln : lawNum x most = if numV x > most then -1 else numV x := lawNum_some no
        have iE : ∀ H', EvD K (tCB rIntS (tCons (tVar 0) tNil)) [some (.str x), some (.int most), b] H' (.int (numV x)) := fun H' => ed_cb (eds_cons (ed_var rfl (.str _)) eds_nil) (cd_intS it (by omega))
        refine w_when K (b := decide (numV x > most)) (eb_d (ed_op (iE H2) (ed_var rfl (.int _)) (rd_I0 fun _ => .bl _))) (fun hb2 H3 x3 => ?_) (fun hb2 H3 x3 => ?_)
        · refine w_ret1 (K := K) (d := .int (-1)) (ed_un ed_int (fun _ => .int _)) fun v9 H9 x9 h9 => ?_
          refine k v9 H9 (((x1.trans x2).trans x3).trans x9) ?_
          show Dp K H9 v9 (.int (lawNum x most))
          rw [ln, if_pos (of_decide_eq_true hb2)]
          exact h9
        · refine w_ret1 (K := K) (d := .int (numV x)) (iE H3) fun v9 H9 x9 h9 => ?_
          refine k v9 H9 (((x1.trans x2).trans x3).trans x9) ?_
          show Dp K H9 v9 (.int (lawNum x most))
          rw [ln, if_neg (of_decide_eq_false hb2)]
          exact h9
theorem sc__law_thing : FnScope ["words", "pace"] ["words"] (defScope s__law_thing) := ⟨rfl, rfl, rfl, by decide +kernel, rfl, by decide +kernel, by decide +kernel⟩
theorem ok__law_thing (T : Tx K mg) : Has P w K mg base CX0 2 "_law_thing" ["words"] (spLThing K) := by
  obtain ⟨fd, F⟩ := T.f__law_thing
  have G__law_number := ok__law_number (P := P) (w := w) (base := base) T
  refine ⟨T.g__law_thing, fd, F.ok sc__law_thing (fun vs H Q E h => ?_) (fun cdv A outer s H vs Q E hr h => ⟨_, PSs.nox (pss_cons (ps_set (i := 1) sc__law_thing.nd rfl (.inl rfl) (pe_f G__law_number (hr.mono (by decide)) rfl (pa_cons (pe_ix (r := rIxL K) ix_list (pv 0) pe_int (fun _ _ => rfl)) (pa_cons (pe_op op_pow pe_int pe_int) pa_nil))))
      (pss_cons (ps_if (PW.pt (pw_or (pt_cmpR op_lt (pv 1) pe_int (nomark _)) (pw_or1 (pt_cmpR (r := rNotInD K) (op_notInD (un65 hr)) (pe_ix (r := rIxL K) ix_list (pv 0) pe_int (fun _ _ => rfl)) (pe_lst (pa_cons pe_str (pa_cons pe_str pa_nil))) (by rfl))))) (pss_one (ps_ret pe_non)) pss_nil)
      (pss_one (ps_ret (pe_tup (pa_cons (pv 1) (pa_cons (pe_cmpR op_eq (pe_ix (r := rIxL K) ix_list (pv 0) pe_int (fun _ _ => rfl)) pe_str (nomark _)) pa_nil))))))), ?_⟩), F.bindsN fun _ _ _ _ _ _ us hl => match us, hl with | [_], _ => rfl, F.kp⟩
  · exact spP.len (K := K) (enc := fun ws : List Str => [eWs ws]) (fun _ => rfl) h
  · obtain ⟨ws, ⟨l3, hs⟩, hvs, k⟩ := h
    obtain ⟨v, rfl, hv⟩ := dpa1 hvs
    have vE : ∀ H' a, Ex H H' → EvD K (tVar 0) [some v, a] H' (eWs ws) := fun H' a x => ed_var rfl (dp_mono x _ _ hv)
    have r0 := Evl.Ex.refl H
    refine w_asg (K := K) (d := .int (lawNum (wAt ws 1) 1000000000)) (ed_lnum (ed_word 1 (vE H _ r0) (by omega)) ed_billion (wAt_small hs (by omega)).1) (fun v1 H1 x1 h1 => ?_)
    cases dp_int.mp h1
    refine w_when K (b := decide (lawNum (wAt ws 1) 1000000000 < 1) || !rowsS (wAt ws 2)) (eb_or (eb_d (ed_op (ed_var rfl (.int _)) ed_int (rd_I0 fun _ => .bl _))) (fun hq => eb_d (EvD.cast (ed_op (d := .str (wAt ws 2)) (e := .list [.str "rows", .str "sits"]) (ed_word 2 (vE H1 _ x1) (by omega)) (en_lst (eds_cons ed_str (eds_cons ed_str eds_nil)) (show 2 ≤ 100000 by decide)).toD (rd_niDL (sh_str (wAt_small hs (by omega)).2) (sh_eWs (a := ["rows", "sits"]) (by decide +kernel)))) (by rw [any_rows])))) (fun hb H2 x2 => ?_) (fun hb H2 x2 => ?_)
    · refine w_ret1 (K := K) (d := .none) ed_non fun v9 H9 x9 h9 => k v9 H9 ((x1.trans x2).trans x9) ?_
      show Dp K H9 v9 (eO eT (toldT ws))
      unfold toldT
      rw [if_pos hb]
      exact h9
    · refine w_ret1 (K := K) (d := eT (lawNum (wAt ws 1) 1000000000, decide (wAt ws 2 = "rows"))) (?tt : EvD K _ _ _ (.tuple [.int _, .bool _])) fun v9 H9 x9 h9 => k v9 H9 ((x1.trans x2).trans x9) ?_
      case tt => exact ed_tup (ds := [.int _, .bool _]) (eds_cons (ed_var rfl (.int _)) (eds_cons (ed_op (d := .str (wAt ws 2)) (e := .str "rows") (ed_word 2 (vE H2 _ (x1.trans x2)) (by omega)) ed_str rd_eqS) eds_nil)) (show 2 ≤ 100000 by decide)
      show Dp K H9 v9 (eO eT (toldT ws))
      unfold toldT
      rw [if_neg (by rw [hb]; decide)]
      exact h9
theorem sc__law_told_quarrel : FnScope ["words", "many", "numbers", "word"] ["words", "many"] (defScope s__law_told_quarrel) := ⟨rfl, rfl, rfl, by decide +kernel, rfl, by decide +kernel, by decide +kernel⟩
theorem ok__law_told_quarrel (T : Tx K mg) : Has P w K mg base CX0 2 "_law_told_quarrel" ["words", "many"] (spLToldQ K) := by
  obtain ⟨fd, F⟩ := T.f__law_told_quarrel
  have G__law_number := ok__law_number (P := P) (w := w) (base := base) T
  refine ⟨T.g__law_told_quarrel, fd, F.ok sc__law_told_quarrel (fun vs H Q E h => ?_) (fun cdv A outer s H vs Q E hr h => ⟨_, PSs.nox (pss_cons (ps_setLc (i := 2) (hy := by rfl) (hyl := by rfl) (hsw := sw_true rfl rfl rfl (by decide +kernel)) (hc := by rfl) (hN := sc__law_told_quarrel.nd) (own := [("word", 3)]) (g := gName 3) (hi := (pi_list (pe_slice (r := rSlL K) sl_list (pv 0) (po_some pe_int) po_none))) (ok := blkOk_by (N := ["words", "many", "numbers", "word"]) (sc := defScope s__law_told_quarrel) (by decide +kernel)) (hg := fun _ _ _ _ _ => pg_name (i := 3) sc__law_told_quarrel.nd rfl (.inl rfl)) (ht := fun _ _ _ _ _ => pts_nil) (he := fun _ _ _ _ _ => (pe_f G__law_number (hr.mono (by decide)) rfl (pa_cons (pv 3) (pa_cons (pe_op op_sub (pv 1) pe_int) pa_nil)))))
      (pss_cons (ps_if (pt_cmpR op_eq (pe_ix (r := rIxL K) ix_list (pv 0) pe_int (fun _ _ => rfl)) pe_str (nomark _)) (pss_one (ps_asg (pv 1) (pg_sub (pv 2) pe_int set_list))) pss_nil)
      (pss_cons (ps_if (PW.pt (pw_or (pt_cmpR op_lt (pe_callB (r := rMin K) (cr_min rfl) (by rfl) T.b_min (by decide +kernel) (pa_cons (pv 2) pa_nil)) pe_int (nomark _)) (pw_or1 (pt_cmpR op_lt (pe_lenSetX rfl T.b_len rfl T.b_set (pv 2)) pe_int (nomark _))))) (pss_one (ps_ret pe_non)) pss_nil)
      (pss_one (ps_ret (pe_tup (pa_cons (pe_ix (r := rIxL K) ix_list (pv 2) pe_int (fun _ _ => rfl)) (pa_cons (pe_ix (r := rIxL K) ix_list (pv 2) pe_int (fun _ _ => rfl)) (pa_cons (pe_ix (r := rIxL K) ix_list (pe_lst (pa_cons (pe_ix (r := rIxL K) ix_list (pv 2) pe_int (fun _ _ => rfl)) (pa_cons (pe_un un_neg pe_int) pa_nil))) (pe_callTy call_int1 (by rfl) T.b_int (by decide +kernel) (pa_cons (pe_cmpR op_eq (pe_ix (r := rIxL K) ix_list (pv 0) pe_int (fun _ _ => rfl)) pe_str (nomark _)) pa_nil)) (fun _ _ => rfl)) pa_nil))))))))), ?_⟩), F.bindsN fun _ _ _ _ _ _ us hl => match us, hl with | [_, _], _ => rfl, F.kp⟩
  · exact spP.len (K := K) (enc := fun x : List Str × Nat => [eWs x.1, .int (x.2 : Int)]) (fun _ => rfl) h
  · obtain ⟨⟨ws, m⟩, ⟨l4, hs, hm⟩, hvs, k⟩ := h
    obtain ⟨v, u, rfl, hv, hu⟩ := dpa2 hvs
    cases dp_int.mp hu
    have l4 : ws.length = 4 := l4
    have hs : Small 90000 ws := hs
    have hm : m ≤ 6 := hm
    obtain ⟨w0, w1, w2, w3, rfl⟩ : ∃ w0 w1 w2 w3, ws = [w0, w1, w2, w3] := by
      match ws, l4 with
      | [a, b, c, d], _ => exact ⟨a, b, c, d, rfl⟩
    have s1 := wAt_small hs (i := 1) (by omega)
    have s2 := wAt_small hs (i := 2) (by omega)
    have s3 := wAt_small hs (i := 3) (by omega)
    have hv' : Dp K H v (.list ([w0, w1, w2, w3].map .str)) := hv
    have many : ∀ (σ' : L2.St) H', σ'[1]? = some (some (.int (m : Int))) → EvD K (tOp (rI0 fun i j => .int (i - j)) (tVar 1) (tC (.int 1))) σ' H' (.int ((m : Int) - 1)) := fun σ' H' h => ed_op (ed_var h (.int _)) ed_int (rd_I0 fun _ => .int _)
    refine w_asgN (K := K) (ds := [lawNum w1 ((m : Int) - 1), lawNum w2 ((m : Int) - 1), lawNum w3 ((m : Int) - 1)].map .int) (EvN.cast (en_mapL .str (xs := [w1, w2, w3]) (fun w => .int (lawNum w ((m : Int) - 1))) (fun _ => rfl) (EvN.cast (en_slL (ed_var rfl hv') (eo_some (i := ((1 : Nat) : Int)) ed_int) eo_none) (by rw [cutD_from]; rfl)).toD (show 3 ≤ 100000 by decide) (fun _ => rfl) (fun i b y H3 hb x3 hy => ed_lnum (ed_var rfl hy) (many _ _ rfl) (by
      have := List.mem_of_getElem? hb
      simp only [List.mem_cons, List.not_mem_nil, or_false] at this
      rcases this with rfl | rfl | rfl
      · exact s1.1
      · exact s2.1
      · exact s3.1))) rfl) (fun v2 H2 x2 h2 => ?_)
    obtain ⟨l, ys, rfl, l0, l1, l2⟩ := h2
    cases dpa_ints.mp l2
    have vE : ∀ (σ' : L2.St) H', σ'[0]? = some (some v) → Ex H H' → EvD K (tVar 0) σ' H' (eWs [w0, w1, w2, w3]) := fun σ' H' h x => ed_var h (dp_mono x _ _ hv)
    refine w_join (fun σ' H' => σ' = [some v, some (.int (m : Int)), some (.ref l), none] ∧ Ex H H' ∧ H' l = some (.lst ([lawNum w1 ((m : Int) - 1), lawNum w2 ((m : Int) - 1), third [w0, w1, w2, w3] m].map V.int))) ?go (fun go => ?main)
    case main =>
      refine w_when K (b := decide (w3 = "-")) (eb_d (ed_op (d := .str w3) (e := .str "-") (ed_word 3 (vE _ _ rfl x2) (show 3 < 4 by decide)) ed_str rd_eqS)) (fun hb H3 x3 => ?_) (fun hb H3 x3 => ?_)
      · have e3 : w3 = "-" := of_decide_eq_true hb
        show tAsg _ _ _ _ _
        refine ⟨.int (m : Int), rfl, _, rfl, l, _, 2, 2, rfl, rfl, x3 _ _ l1, rfl, ?_⟩
        refine go _ _ ⟨rfl, (x2.trans x3).mut l0, ?_⟩
        rw [upd_same]
        show some (HO.lst [.int (lawNum w1 ((m : Int) - 1)), .int (lawNum w2 ((m : Int) - 1)), .int (m : Int)]) = some (HO.lst [.int (lawNum w1 ((m : Int) - 1)), .int (lawNum w2 ((m : Int) - 1)), .int (if w3 = "-" then (m : Int) else lawNum w3 ((m : Int) - 1))])
        rw [if_pos e3]
      · have e3 : ¬ w3 = "-" := of_decide_eq_false hb
        refine go _ _ ⟨rfl, x2.trans x3, ?_⟩
        rw [x3 _ _ l1]
        show some (HO.lst [.int (lawNum w1 ((m : Int) - 1)), .int (lawNum w2 ((m : Int) - 1)), .int (lawNum w3 ((m : Int) - 1))]) = some (HO.lst [.int (lawNum w1 ((m : Int) - 1)), .int (lawNum w2 ((m : Int) - 1)), .int (if w3 = "-" then (m : Int) else lawNum w3 ((m : Int) - 1))])
        rw [if_neg e3]
    case go =>
      rintro σ' H3 ⟨rfl, x3, l3⟩
      generalize ht : third [w0, w1, w2, w3] m = c at l3
      generalize ha : lawNum w1 ((m : Int) - 1) = a at l3
      generalize hb : lawNum w2 ((m : Int) - 1) = b at l3
      have nD : ∀ H', Ex H3 H' → Dp K H' (.ref l) (.list ([a, b, c].map .int)) := fun H' x => dp_lst.mpr ⟨l, _, rfl, SqL.of (x _ _ l3), dpa_ints.mpr rfl⟩
      have r3 := Evl.Ex.refl H3
      have mn : EvB K (tTest (tOp (rI0 fun i j => .bl (decide (i < j))) (tCB (rMin K) (tCons (tVar 2) tNil)) (tC (.int 0)))) [some v, some (.int (m : Int)), some (.ref l), none] H3 (decide (a < 0) || (decide (b < 0) || decide (c < 0))) := fun H4 x4 Q q =>
        ⟨_, rfl, l, [a, b, c], rfl, SqL.of (x4 _ _ l3), by show 0 < 3; decide, fun mm hm1 hm2 => ⟨mm, 0, rfl, rfl, ⟨_, rfl, by rw [min3 hm1 hm2]; exact q H4 (Evl.Ex.refl H4)⟩⟩⟩
      have st : EvB K (tTest (tOp (rI0 fun i j => .bl (decide (i < j))) (tLenSetX K (tVar 2)) (tC (.int 3)))) [some v, some (.int (m : Int)), some (.ref l), none] H3 (decide (a = b) || (decide (a = c) || decide (b = c))) := fun H4 x4 Q q =>
        ⟨_, rfl, l, [a, b, c], rfl, SqL.of (x4 _ _ l3), by show 3 ≤ 4000; decide, ⟨_, 3, rfl, rfl, ⟨_, rfl, by
          have z := met3 a b c
          show Q (decide (((firstMet (fun i => [a, b, c].getD i 0) 3).length : Int) < 3)) H4
          rw [z]; exact q H4 (Evl.Ex.refl H4)⟩⟩⟩
      refine w_when K (b := bad3 a b c) (eb_or mn (fun _ => st)) (fun hb2 H4 x4 => ?_) (fun hb2 H4 x4 => ?_)
      · refine w_ret1 (K := K) (d := .none) ed_non fun v9 H9 x9 h9 => k v9 H9 ((x3.trans x4).trans x9) ?_
        show Dp K H9 v9 (eO eQ (if bad3 (lawNum w1 ((m : Int) - 1)) (lawNum w2 ((m : Int) - 1)) (third [w0, w1, w2, w3] m) = true then none else some (lawNum w1 ((m : Int) - 1), lawNum w2 ((m : Int) - 1), if w3 = "-" then -1 else third [w0, w1, w2, w3] m)))
        rw [ht, ha, hb, if_pos hb2]
        exact h9
      · refine w_ret1 (K := K) (d := eQ (a, b, if w3 = "-" then -1 else c)) (?tt : EvD K _ _ _ (.tuple [.int _, .int _, .int _])) fun v9 H9 x9 h9 => k v9 H9 ((x3.trans x4).trans x9) ?_
        case tt =>
          have nE : EvD K (tVar 2) [some v, some (.int (m : Int)), some (.ref l), none] H4 (.list ([a, b, c].map .int)) := ed_var rfl (nD H4 x4)
          refine ed_tup (ds := [.int _, .int _, .int _]) (eds_cons (ed_op nE (ed_int (i := 0)) (rd_ixL (by rfl))) (eds_cons (ed_op nE (ed_int (i := 1)) (rd_ixL (by rfl))) (eds_cons (ed_op (d := .list [.int c, .int (-1)]) (e := .int (if decide (w3 = "-") then 1 else 0)) (en_lst (eds_cons (ed_op nE (ed_int (i := 2)) (rd_ixL (by rfl))) (eds_cons (ed_un (g := fun i => .int (-i)) (i := 1) ed_int (fun _ => .int _)) eds_nil)) (show 2 ≤ 100000 by decide)).toD (ed_cb (eds_cons (ed_op (d := .str w3) (e := .str "-") (ed_word 3 (vE _ _ rfl (x3.trans x4)) (show 3 < 4 by decide)) ed_str rd_eqS) eds_nil) cd_intBD) (rd_ixL ?ii)) eds_nil))) (show 3 ≤ 100000 by decide)
          case ii =>
            by_cases e3 : w3 = "-"
            · rw [decide_eq_true e3, if_pos e3]; rfl
            · rw [decide_eq_false e3, if_neg e3]; rfl
        show Dp K H9 v9 (eO eQ (if bad3 (lawNum w1 ((m : Int) - 1)) (lawNum w2 ((m : Int) - 1)) (third [w0, w1, w2, w3] m) = true then none else some (lawNum w1 ((m : Int) - 1), lawNum w2 ((m : Int) - 1), if w3 = "-" then -1 else third [w0, w1, w2, w3] m)))
        rw [ht, ha, hb, if_neg (by rw [hb2]; decide)]
        exact h9
end

end Fy

namespace Fy
open PySem PySem.Spec PyProof.Rows L2
/-! ### what a text writes, walked -/
def spLDue (K : PySem.W.Frag) : Sp := fun vs H Q _ => ∃ x : Str, vs = [.str x] ∧ x.length ≤ 50000 ∧ PyData.strOk x = true ∧ RetR (fun v H' => Dp K H' v (eO eNt (dueOf (linesW x)))) H Q
theorem anyO {α β : Type} {f : α → Option β} {e : β → PyData} (he : ∀ b, PyData.eqv (e b) .none = false) : ∀ l : List α, ((l.map fun a => eO e (f a)).any fun z => PyData.eqv z .none) = (mapO f l).isNone
  | [] => rfl
  | a :: r => by
    rw [List.map_cons, List.any_cons, anyO he r, mapO_cons]
    cases f a with
    | none => show (PyData.eqv .none .none || _) = true; simp [PyData.eqv]
    | some b =>
      show (PyData.eqv (e b) .none || _) = ((mapO f r).map fun bs => b :: bs).isNone
      rw [he b, Bool.false_or, Option.isNone_map]
theorem allO {α β : Type} {f : α → Option β} {e : β → PyData} : ∀ {l : List α} {ys : List β}, mapO f l = some ys → (l.map fun a => eO e (f a)) = ys.map e
  | [], ys, h => by cases h; rfl
  | a :: r, ys, h => by
    rw [mapO_cons] at h
    cases e1 : f a with
    | none => rw [e1] at h; cases h
    | some b =>
      cases e2 : mapO f r with
      | none => rw [e1, e2] at h; cases h
      | some bs =>
        rw [e1, e2] at h
        cases h
        rw [List.map_cons, List.map_cons, allO e2, e1]
        rfl
theorem eqv_eT_none (t : Int × Bool) : PyData.eqv (eT t) .none = false := by simp [eT, PyData.eqv]
theorem eqv_eQ_none (t : Int × Int × Int) : PyData.eqv (eQ t) .none = false := by simp [eQ, PyData.eqv]
theorem lay_eO {α : Type} {f : α → PyData} (h : ∀ a, (f a).canLay0 = true) : ∀ o : Option α, (eO f o).canLay0 = true
  | some a => h a
  | none => by simp [eO, PyData.canLay0]
theorem dep_eO {α : Type} {f : α → PyData} {n : Nat} (h : ∀ a, (f a).depth ≤ n) : ∀ o : Option α, (eO f o).depth ≤ n
  | some a => h a
  | none => by simp [eO, PyData.depth]
theorem sh_eOs {α β : Type} {f : α → Option β} {e : β → PyData} (h : ∀ b, (e b).canLay0 = true) (h2 : ∀ b, (e b).depth ≤ 60) (l : List α) : SeqAt.shaped (.list (l.map fun a => eO e (f a))) = true :=
  sh_lst (f := fun a => eO e (f a)) (fun a => lay_eO h _) (fun a => dep_eO h2 _) l
theorem sh_none : SeqAt.shaped .none = true := by decide +kernel
def atThing (R : List (List Str)) (k : Nat) : Bool := match R[k]? with
  | some ws => isThing ws
  | none => false
theorem preN_drop (R : List (List Str)) (k : Nat) : preN (R.drop k) = if atThing R k = true then preN (R.drop (k + 1)) + 1 else 0 := by
  unfold atThing
  cases e : R[k]? with
  | none =>
    have := List.getElem?_eq_none_iff.mp e
    rw [List.drop_of_length_le this]
    rfl
  | some ws =>
    obtain ⟨h1, h2⟩ := List.getElem?_eq_some_iff.mp e
    rw [List.drop_eq_getElem_cons h1, h2]
    rfl
theorem due_no1 {W : List (List Str)} (h : ((lastOk W && headOk W) && !decide (roomW W < 1)) = false) : dueOf W = none := by
  unfold dueOf
  rw [if_neg (by rw [h]; decide)]
theorem due_1 {W : List (List Str)} (h : ((lastOk W && headOk W) && !decide (roomW W < 1)) = true) : dueOf W = if dueBad W = true then none else if ((restW W).drop (preN (restW W))).all isQuar = false then none else
    (mapO toldT ((restW W).take (preN (restW W)))).bind fun ts => (mapO (fun ws => lawToldQ ws (preN (restW W) : Nat)) ((restW W).drop (preN (restW W)))).map fun qs => ⟨ts, roomW W, qs⟩ := by
  unfold dueOf
  rw [if_pos h]
section
variable {P : Program} {w : World} {K : PySem.W.Frag} {mg : Str → Option Value} {base : Heap}
theorem sc__law_due : FnScope ["text", "lines", "rest", "many", "things", "quarrels", "words", "line"] ["text"] (defScope s__law_due) := ⟨rfl, rfl, rfl, by decide +kernel, rfl, by decide +kernel, by decide +kernel⟩
theorem ok__law_due (T : Tx K mg) : Has P w K mg base CX0 3 "_law_due" ["text"] (spLDue K) := by
  obtain ⟨fd, F⟩ := T.f__law_due
  have G__law_number := ok__law_number (P := P) (w := w) (base := base) T
  have G__law_told_quarrel := ok__law_told_quarrel (P := P) (w := w) (base := base) T
  have G__law_thing := ok__law_thing (P := P) (w := w) (base := base) T
  refine ⟨T.g__law_due, fd, F.ok sc__law_due (fun vs H Q E h => ?_) (fun cdv A outer s H vs Q E hr h => ⟨_, PSs.nox (pss_cons (ps_setLc (i := 1) (hy := by rfl) (hyl := by rfl) (hsw := sw_true rfl rfl rfl (by decide +kernel)) (hc := by rfl) (hN := sc__law_due.nd) (own := [("line", 7)]) (g := gName 7) (hi := (pi_list (pe_split (pv 0) pe_str))) (ok := blkOk_by (N := ["text", "lines", "rest", "many", "things", "quarrels", "words", "line"]) (sc := defScope s__law_due) (by decide +kernel)) (hg := fun _ _ _ _ _ => pg_name (i := 7) sc__law_due.nd rfl (.inl rfl)) (ht := fun _ _ _ _ _ => pts_nil) (he := fun _ _ _ _ _ => (pe_split (pv 7) pe_str)))
      (pss_cons (ps_if (PW.pt (pw_or (pt_cmpR (r := rNeD K) (op_neD hr.units) (pe_ix (r := rIxL K) ix_list (pv 1) (pe_un un_neg pe_int) (fun _ _ => rfl)) (pe_lst (pa_cons pe_str pa_nil)) (nomark _)) (pw_or (pt_cmpR op_ne (pe_callB (r := rLenQ K) call_len_seq (by rfl) T.b_len (by decide +kernel) (pa_cons (pe_ix (r := rIxL K) ix_list (pv 1) pe_int (fun _ _ => rfl)) pa_nil)) pe_int (nomark _)) (pw_or (pt_cmpR op_ne (pe_ix (r := rIxL K) ix_list (pe_ix (r := rIxL K) ix_list (pv 1) pe_int (fun _ _ => rfl)) pe_int (fun _ _ => rfl)) pe_str (nomark _)) (pw_or1 (pt_cmpR op_lt (pe_f G__law_number (hr.mono (by decide)) rfl (pa_cons (pe_ix (r := rIxL K) ix_list (pe_ix (r := rIxL K) ix_list (pv 1) pe_int (fun _ _ => rfl)) pe_int (fun _ _ => rfl)) (pa_cons pe_int pa_nil))) pe_int (nomark _))))))) (pss_one (ps_ret pe_non)) pss_nil)
      (pss_cons (ps_set (i := 2) sc__law_due.nd rfl (.inl rfl) (pe_slice (r := rSlL K) sl_list (pv 1) (po_some pe_int) (po_some (pe_op op_sub (pe_callB (r := rLenQ K) call_len_seq (by rfl) T.b_len (by decide +kernel) (pa_cons (pv 1) pa_nil)) pe_int))))
      (pss_cons (ps_set (i := 3) sc__law_due.nd rfl (.inl rfl) pe_int)
      (pss_cons (ps_while PassesOwn.never (PW.pt (pw_and (pt_cmpR op_lt (pv 3) (pe_callB (r := rLenQ K) call_len_seq (by rfl) T.b_len (by decide +kernel) (pa_cons (pv 2) pa_nil)) (nomark _)) (pw_and (pt_cmpR op_eq (pe_callB (r := rLenQ K) call_len_seq (by rfl) T.b_len (by decide +kernel) (pa_cons (pe_ix (r := rIxL K) ix_list (pv 2) (pv 3) (fun _ _ => rfl)) pa_nil)) pe_int (nomark _)) (pw_and1 (pt_cmpR op_eq (pe_ix (r := rIxL K) ix_list (pe_ix (r := rIxL K) ix_list (pv 2) (pv 3) (fun _ _ => rfl)) pe_int (fun _ _ => rfl)) pe_str (nomark _)))))) (pss_one (ps_set (i := 3) sc__law_due.nd rfl (.inl rfl) (pe_op op_add (pv 3) pe_int))))
      (pss_cons (ps_setLc (i := 4) (hy := by rfl) (hyl := by rfl) (hsw := sw_true rfl rfl rfl (by decide +kernel)) (hc := by rfl) (hN := sc__law_due.nd) (own := [("words", 6)]) (g := gName 6) (hi := (pi_list (pe_slice (r := rSlL K) sl_list (pv 2) po_none (po_some (pv 3))))) (ok := blkOk_by (N := ["text", "lines", "rest", "many", "things", "quarrels", "words", "line"]) (sc := defScope s__law_due) (by decide +kernel)) (hg := fun _ _ _ _ _ => pg_name (i := 6) sc__law_due.nd rfl (.inl rfl)) (ht := fun _ _ _ _ _ => pts_nil) (he := fun _ _ _ _ _ => (pe_f G__law_thing (hr.mono (by decide)) rfl (pa_cons (pv 6) pa_nil))))
      (pss_cons (ps_if (PW.pt (pw_or (pt_cmpR op_lt (pv 3) pe_int (nomark _)) (pw_or (pt_cmpR op_gt (pv 3) pe_int (nomark _)) (pw_or (pt_cmpR (r := rInD K) (op_inD (un65 hr)) pe_non (pv 4) (by rfl)) (pw_or1 (pt_cmpR op_gt (pe_op op_sub (pe_callB (r := rLenQ K) call_len_seq (by rfl) T.b_len (by decide +kernel) (pa_cons (pv 2) pa_nil)) (pv 3)) pe_int (nomark _))))))) (pss_one (ps_ret pe_non)) pss_nil)
      (pss_cons (ps_set (i := 5) sc__law_due.nd rfl (.inl rfl) (pe_lst pa_nil))
      (pss_cons (ps_for PassesOwn.never rfl (pi_list (pe_slice (r := rSlL K) sl_list (pv 2) (po_some (pv 3)) po_none)) (pg_name (i := 6) sc__law_due.nd rfl (.inl rfl)) (pss_cons (ps_if (PW.pt (pw_or (pt_cmpR op_ne (pe_callB (r := rLenQ K) call_len_seq (by rfl) T.b_len (by decide +kernel) (pa_cons (pv 6) pa_nil)) pe_int (nomark _)) (pw_or1 (pt_cmpR op_ne (pe_ix (r := rIxL K) ix_list (pv 6) pe_int (fun _ _ => rfl)) pe_str (nomark _))))) (pss_one (ps_ret pe_non)) pss_nil)
      (pss_one (ps_expr (pe_bm PySem.F.plainAttrs_list PySem.F.slot_list_append PySem.F.type_list_append mt_append (pv 5) (pa_cons (pe_f G__law_told_quarrel (hr.mono (by decide)) rfl (pa_cons (pv 6) (pa_cons (pv 3) pa_nil))) pa_nil))))))
      (pss_cons (ps_if (pt_cmpR (r := rInD K) (op_inD (un65 hr)) pe_non (pv 5) (by rfl)) (pss_one (ps_ret pe_non)) pss_nil)
      (pss_one (ps_ret (pe_tup (pa_cons (pv 4) (pa_cons (pe_f G__law_number (hr.mono (by decide)) rfl (pa_cons (pe_ix (r := rIxL K) ix_list (pe_ix (r := rIxL K) ix_list (pv 1) pe_int (fun _ _ => rfl)) pe_int (fun _ _ => rfl)) (pa_cons pe_int pa_nil))) (pa_cons (pv 5) pa_nil)))))))))))))))), ?_⟩), F.bindsN fun _ _ _ _ _ _ us hl => match us, hl with | [_], _ => rfl, F.kp⟩
  · obtain ⟨x, rfl, _⟩ := h
    rfl
  · obtain ⟨x, rfl, hl, hok, kq⟩ := h
    obtain ⟨s1, s2, s3⟩ := split_nl_len x
    obtain ⟨W1, W2⟩ := lines_len x
    have sm := small_lines (N := 90000) (show x.length ≤ 90000 by omega) hok
    refine w_asgN (K := K) (ds := (linesW x).map eWs) (EvN.cast (en_mapLL (xs := Txt.split x "\n") .str (fun l => (Txt.split l " ").map .str) (fun l => noLs_map (fun _ => rfl) _) (en_split (ed_var rfl (.str _)) ed_str (by decide +kernel) (by omega)) (by omega) (fun _ => rfl) (fun i a v H1 ha x1 hv => en_split (ed_var rfl hv) ed_str (by decide +kernel) (by have := (s3 a (List.mem_of_getElem? ha)).1; omega))) (by unfold linesW; rw [List.map_map]; rfl)) (fun v1 H1 x1 hL => ?_)
    have hW := hL.dp
    generalize linesW x = W at hW W1 W2 sm kq
    obtain ⟨hd, tl, eW⟩ : ∃ hd tl, W = hd :: tl := by
      cases W with
      | nil => simp at W2
      | cons a r => exact ⟨a, r, rfl⟩
    obtain ⟨la, hla⟩ : ∃ la, W.getLast? = some la := by
      cases e : W.getLast? with
      | none => rw [eW] at e; simp at e
      | some la => exact ⟨la, rfl⟩
    have lam := List.mem_of_getLast? hla
    have hdS := sm hd (by rw [eW]; exact List.mem_cons_self)
    have laS := sm la lam
    have atL : atI (W.map eWs) (-1) = some (eWs la) := atI_last (by rw [List.getLast?_map, hla]; rfl)
    have at0 : atI (W.map eWs) 0 = some (eWs hd) := by rw [eW]; exact atI_zero
    have hO : headOk W = (decide (hd.length = 2) && decide (wAt hd 0 = "boat")) := by rw [eW]; rfl
    have rO : roomW W = lawNum (wAt hd 1) 3 := by rw [eW]; rfl
    have l0 : ∀ H' σ', σ'[1]? = some (some v1) → Ex H1 H' → EvD K (tOp (rIxL K) (tVar 1) (tC (.int 0))) σ' H' (eWs hd) := fun H' σ' h x' => ed_op (d := .list (W.map eWs)) (e := .int 0) (ed_var h (dp_mono x' _ _ hW)) ed_int (rd_ixL at0)
    have e2 : decide ((hd.length : Int) = 2) = decide (hd.length = 2) := decide_eq_decide.mpr (by omega)
    have r1 := Evl.Ex.refl H1
    refine w_when K (b := !decide (la = [("" : Str)]) || (!decide ((hd.length : Int) = 2) || (!decide (wAt hd 0 = "boat") || decide (lawNum (wAt hd 1) 3 < 1)))) (eb_or (eb_d (EvD.cast (ed_op (d := eWs la) (e := eWs [""]) (ed_op (d := .list (W.map eWs)) (e := .int (-1)) (ed_var rfl hW) (ed_un (g := fun i => .int (-i)) (i := 1) ed_int (fun _ => .int _)) (rd_ixL atL)) (en_lst (ds := [.str ""]) (eds_cons ed_str eds_nil) (show 1 ≤ 100000 by decide)).toD (rd_neD (sh_eWs fun w hw => (laS.2.2 w hw).2) (sh_eWs (by decide +kernel)))) (by rw [eqv_eWs]))) (fun _ => eb_or (eb_d (ed_op (d := .int (hd.length : Nat)) (e := .int 2) (ed_lenW (l0 H1 _ rfl r1)) ed_int rd_neI)) (fun hq => eb_or (eb_d (ed_op (d := .str (wAt hd 0)) (e := .str "boat") (ed_word 0 (l0 H1 _ rfl r1) (by simp at hq; omega)) ed_str rd_neS)) (fun _ => eb_d (ed_op (ed_lnum (ed_word 1 (l0 H1 _ rfl r1) (by simp at hq; omega)) ed_int (wAt_small hdS (by simp at hq; omega)).1) ed_int (rd_I0 fun _ => .bl _)))))) (fun hb H2 x2 => ?_) (fun hb H2 x2 => ?_)
    · refine w_ret1 (K := K) (d := .none) ed_non fun v9 H9 x9 h9 => kq v9 H9 ((x1.trans x2).trans x9) ?_
      rw [due_no1]
      · exact h9
      · rw [lastOk_of hla, hO, rO]
        rw [e2] at hb
        revert hb
        cases decide (la = [("" : Str)]) <;> cases decide (hd.length = 2) <;> cases decide (wAt hd 0 = "boat") <;> cases decide (lawNum (wAt hd 1) 3 < 1) <;> decide
    have okW : ((lastOk W && headOk W) && !decide (roomW W < 1)) = true := by
      rw [lastOk_of hla, hO, rO]
      rw [e2] at hb
      revert hb
      cases decide (la = [("" : Str)]) <;> cases decide (hd.length = 2) <;> cases decide (wAt hd 0 = "boat") <;> cases decide (lawNum (wAt hd 1) 3 < 1) <;> decide
    have hd2 : hd.length = 2 := by
      rw [hO] at okW
      simp only [Bool.and_eq_true, decide_eq_true_eq] at okW
      exact okW.1.2.1
    rw [due_1 okW] at kq
    clear hb
    have hW2 := dp_mono x2 _ _ hW
    have ln : EvD K (tCB (rLenQ K) (tCons (tVar 1) tNil)) [some (.str x), some v1, none, none, none, none, none, none] H2 (.int (W.length : Nat)) := EvD.cast (ed_cb (eds_cons (d := .list (W.map eWs)) (ed_var rfl hW2) eds_nil) cd_lenL) (by rw [List.length_map])
    have slr := en_slL (K := K) (te := tVar 1) (lo := some 1) (hi := some ((W.length : Int) - 1)) (ed_var (σ := [some (.str x), some v1, none, none, none, none, none, none]) (i := 1) rfl hW2) (eo_some (te := tC (.int 1)) ed_int) (eo_some (ed_op (d := .int (W.length : Nat)) (e := .int 1) ln ed_int (rd_I0 (g := fun i j => .int (i - j)) fun _ => .int _)))
    rw [restW_eq _ W2] at slr
    refine w_asgN (K := K) (ds := (restW W).map eWs) slr (fun v2 H3 x3 h3 => ?_)
    have hR := h3.dp
    have x13 := x2.trans x3
    have rl : (restW W).length ≤ 50000 := by
      unfold restW
      rw [List.length_take, List.length_drop]
      omega
    have rS : ∀ ws ∈ restW W, Small 90000 ws := fun ws hw => sm ws (List.mem_of_mem_drop (List.mem_of_mem_take hw))
    have dB : dueBad W = (decide (preN (restW W) < 1) || (decide (preN (restW W) > 6) || ((mapO toldT ((restW W).take (preN (restW W)))).isNone || decide ((restW W).length - preN (restW W) > 30)))) := rfl
    rw [dB] at kq
    generalize restW W = R at hR rl rS kq
    have lR : ∀ H' σ', σ'[2]? = some (some v2) → Ex H3 H' → EvD K (tCB (rLenQ K) (tCons (tVar 2) tNil)) σ' H' (.int (R.length : Nat)) := fun H' σ' h x' => EvD.cast (ed_cb (eds_cons (d := .list (R.map eWs)) (ed_var h (dp_mono x' _ _ hR)) eds_nil) cd_lenL) (by rw [List.length_map])
    refine w_asg (K := K) (d := .int 0) ed_int (fun v4 H4 x4 h4 => ?_)
    cases dp_int.mp h4
    refine (?wh : tSeq (tWhile _ _) _ _ _ _)
    case wh =>
    refine ⟨fun m σ' H' => ∃ k : Nat, m = R.length - k ∧ k ≤ R.length ∧ σ' = [some (.str x), some v1, some v2, some (.int (k : Int)), none, none, none, none] ∧ Ex H3 H' ∧ preN R = k + preN (R.drop k), ⟨_, 0, rfl, Nat.zero_le _, rfl, x4, by rw [List.drop_zero, Nat.zero_add]⟩, ?_⟩
    rintro m σ' H5 ⟨k, rfl, hk, rfl, x5, hp⟩
    have ixR : ∀ ws, R[k]? = some ws → EvD K (tOp (rIxL K) (tVar 2) (tVar 3)) [some (.str x), some v1, some v2, some (.int (k : Int)), none, none, none, none] H5 (eWs ws) := fun ws h => ed_op (d := .list (R.map eWs)) (e := .int (k : Int)) (ed_var rfl (dp_mono x5 _ _ hR)) (ed_var rfl (.int _)) (rd_ixL (atI_nat (by rw [List.getElem?_map, h]; rfl)))
    have e3 : ∀ ws : List Str, decide ((ws.length : Int) = 3) = decide (ws.length = 3) := fun ws => decide_eq_decide.mpr (by omega)
    refine (eb_and (K := K) (b := decide ((k : Int) < (R.length : Int))) (c := atThing R k) (eb_d (ed_op (ed_var rfl (.int _)) (lR H5 _ rfl x5) (rd_I0 fun _ => .bl _))) (fun hq => ?cc) : EvB K _ _ H5 _) H5 (Evl.Ex.refl H5) _ fun H6 x6 => ?_
    case cc =>
      have lt : k < R.length := by have := of_decide_eq_true hq; omega
      have g := List.getElem?_eq_getElem lt
      generalize R[k] = ws at g
      have wsS := rS ws (List.mem_of_getElem? g)
      have eA : atThing R k = (decide ((ws.length : Int) = 3) && decide (wAt ws 0 = "thing")) := by unfold atThing; rw [g, e3]; rfl
      rw [eA]
      exact eb_and (eb_d (ed_op (ed_lenW (ixR ws g)) ed_int rd_eqI)) (fun _ => eb_d (ed_op (d := .str (wAt ws 0)) (e := .str "thing") (ed_word 0 (ixR ws g) wsS.1) ed_str rd_eqS))
    have x36 := x5.trans x6
    have stp := preN_drop R k
    cases hT : (decide ((k : Int) < (R.length : Int)) && atThing R k) with
    | true =>
      refine (?wz : if true = true then _ else _)
      case wz =>
      rw [if_pos rfl]
      obtain ⟨t1, t2⟩ := Bool.and_eq_true_iff.mp hT
      have lt : k < R.length := by have := of_decide_eq_true t1; omega
      rw [if_pos t2] at stp
      refine ⟨fun σ' H' => ∃ m', m' < R.length - k ∧ ∃ k : Nat, m' = R.length - k ∧ k ≤ R.length ∧ σ' = [some (.str x), some v1, some v2, some (.int (k : Int)), none, none, none, none] ∧ Ex H3 H' ∧ preN R = k + preN (R.drop k), fun σ' H' h => h, ?_⟩
      show tAsg _ _ _ _ _
      refine w_asg1 (K := K) (d := .int ((k : Int) + 1)) (ed_op (ed_var rfl (.int _)) ed_int (rd_I0 fun _ => .int _)) (fun v7 H7 x7 h7 => ?_)
      cases dp_int.mp h7
      exact ⟨R.length - (k + 1), by omega, k + 1, rfl, lt, rfl, x36.trans x7, by omega⟩
    | false =>
      refine (?wz : if false = true then _ else _)
      case wz =>
      rw [if_neg Bool.false_ne_true]
      have eK : preN R = k := by
        have : preN (R.drop k) = 0 := by
          rcases Bool.and_eq_false_iff.mp hT with h | h
          · have h := of_decide_eq_false h
            rw [List.drop_of_length_le (by omega)]
            rfl
          · rw [stp, if_neg (by rw [h]; decide)]
        omega
      have pT := preN_take R
      rw [eK] at pT kq
      clear hT stp hp ixR
      have tS : ∀ ws ∈ R.take k, ws.length = 3 ∧ Small 90000 ws := fun ws hw => ⟨of_decide_eq_true (Bool.and_eq_true_iff.mp (pT ws hw)).1, rS ws (List.mem_of_mem_take hw)⟩
      have kE : ∀ (σ' : L2.St) H', σ'[3]? = some (some (.int (k : Int))) → EvD K (tVar 3) σ' H' (.int (k : Int)) := fun σ' H' h => ed_var h (.int _)
      refine w_asgN (K := K) (ds := (R.take k).map fun ws => eO eT (toldT ws)) (en_mapL eWs (xs := R.take k) (fun ws => eO eT (toldT ws)) (fun _ => noL_eO noL_eT _) (EvN.cast (en_slL (ed_var rfl (dp_mono x36 _ _ hR)) eo_none (eo_some (kE _ _ rfl))) (by rw [cutD_to, List.map_take])).toD (by rw [List.length_take]; omega) (fun _ => rfl) (fun i ws y H8 hw x8 hy => ed_call (x := ws) (tS ws (List.mem_of_getElem? hw)) (eds_cons (ed_var rfl hy) eds_nil))) (fun v8 H8 x8 h8 => ?_)
      have hT8 := h8.dp
      have x38 := x36.trans x8
      refine w_when K (b := decide ((k : Int) < 1) || (decide ((k : Int) > 6) || ((mapO toldT (R.take k)).isNone || decide ((R.length : Int) - (k : Int) > 30)))) (eb_or (eb_d (ed_op (kE _ _ rfl) ed_int (rd_I0 fun _ => .bl _))) (fun _ => eb_or (eb_d (ed_op (kE _ _ rfl) ed_int (rd_I0 fun _ => .bl _))) (fun _ => eb_or (eb_d (EvD.cast (ed_op (d := .none) (e := .list ((R.take k).map fun ws => eO eT (toldT ws))) ed_non (ed_var rfl hT8) (rd_inDL sh_none (sh_eOs lay_eT (fun x => Nat.le_trans (dep_eT x) (by decide)) _))) (by rw [anyO eqv_eT_none]))) (fun _ => eb_d (ed_op (ed_op (lR H8 _ rfl x38) (kE _ _ rfl) (rd_I0 (g := fun i j => .int (i - j)) fun _ => .int _)) ed_int (rd_I0 fun _ => .bl _)))))) (fun hb H9 x9 => ?_) (fun hb H9 x9 => ?_)
      · refine w_ret1 (K := K) (d := .none) ed_non fun v9 H10 x10 h10 => kq v9 H10 ((x1.trans x13).trans ((x38.trans x9).trans x10)) ?_
        have z : ((decide (k < 1) || (decide (k > 6) || ((mapO toldT (R.take k)).isNone || decide (R.length - k > 30)))) : Bool) = true := by
          rw [show decide (k < 1) = decide ((k : Int) < 1) from decide_eq_decide.mpr (by omega), show decide (k > 6) = decide ((k : Int) > 6) from decide_eq_decide.mpr (by omega), show decide (R.length - k > 30) = decide ((R.length : Int) - (k : Int) > 30) from decide_eq_decide.mpr (by omega)]
          exact hb
        rw [if_pos z]
        exact h10
      have z : ((decide (k < 1) || (decide (k > 6) || ((mapO toldT (R.take k)).isNone || decide (R.length - k > 30)))) : Bool) = false := by
        rw [show decide (k < 1) = decide ((k : Int) < 1) from decide_eq_decide.mpr (by omega), show decide (k > 6) = decide ((k : Int) > 6) from decide_eq_decide.mpr (by omega), show decide (R.length - k > 30) = decide ((R.length : Int) - (k : Int) > 30) from decide_eq_decide.mpr (by omega)]
        exact hb
      rw [if_neg (by rw [z]; decide)] at kq
      obtain ⟨z1, z⟩ := Bool.or_eq_false_iff.mp z
      obtain ⟨z2, z⟩ := Bool.or_eq_false_iff.mp z
      obtain ⟨z3, z4⟩ := Bool.or_eq_false_iff.mp z
      have k6 : k ≤ 6 := by have := of_decide_eq_false z2; omega
      have l30 : R.length - k ≤ 30 := by have := of_decide_eq_false z4; omega
      obtain ⟨ts, hts⟩ : ∃ ts, mapO toldT (R.take k) = some ts := by
        cases e : mapO toldT (R.take k) with
        | none => rw [e] at z3; cases z3
        | some ts => exact ⟨ts, rfl⟩
      rw [hts] at kq
      rw [allO hts] at hT8
      clear hb z
      have x39 := x38.trans x9
      refine w_asgN (K := K) (ds := []) (en_lst eds_nil (by decide)) (fun v10 H10 x10 h10 => ?_)
      obtain ⟨l, xs, rfl, n0, n1, n2⟩ := h10
      cases n2
      have hR9 := dp_mono x39 _ _ hR
      have sl : EvS0 K (tSl (rSlL K) (tVar 2) (tPart (tVar 3)) tNoPart) [some (.str x), some v1, some v2, some (.int (k : Int)), some v8, some (.ref l), none, none] H10 H9 ((R.drop k).map eWs) := by
        have z := es_slice (K := K) (σ := [some (.str x), some v1, some v2, some (.int (k : Int)), some v8, some (.ref l), none, none]) (i := 2) (lo := some (k : Int)) (hi := none) rfl hR9 x10 (eo_some (kE _ _ rfl)) eo_none
        rw [cutD_from, ← List.map_drop] at z
        exact z
      have dl : (R.drop k).length ≤ 30 := by rw [List.length_drop]; exact l30
      have dS : ∀ ws ∈ R.drop k, Small 90000 ws := fun ws hw => rS ws (List.mem_of_mem_drop hw)
      generalize R.drop k = U at sl dl dS kq
      refine w_for2 (K := K) (l := l) (m := l) sl x10 n0 n0 ⟨_, n1⟩ ⟨_, n1⟩ (fun i σ H' => ∃ a, σ = [some (.str x), some v1, some v2, some (.int (k : Int)), some v8, some (.ref l), a, none] ∧ (U.take i).all isQuar = true ∧ ∃ ys, H' l = some (.lst ys) ∧ DpAll K H' ys ((U.take i).map fun ws => eO eQ (lawToldQ ws (k : Nat)))) (fun H11 x11 => ⟨none, rfl, rfl, [], x11 _ _ n1, .nil⟩) ?_ ?_
      · rintro i d y σ' H11 hd11 x11 hy ⟨a, rfl, hall, ys, hl11, hD11⟩
        obtain ⟨ws, hws, rfl⟩ := get_map hd11
        have wsS := dS ws (List.mem_of_getElem? hws)
        have il := lt_of_get hws
        have hy' : Dp K H11 y (eWs ws) := hy
        have e4 : decide ((ws.length : Int) = 4) = decide (ws.length = 4) := decide_eq_decide.mpr (by omega)
        have tk : (U.take (i + 1)).map (fun ws => eO eQ (lawToldQ ws (k : Nat))) = (U.take i).map (fun ws => eO eQ (lawToldQ ws (k : Nat))) ++ [eO eQ (lawToldQ ws (k : Nat))] := by rw [take_snoc hws, List.map_append]; rfl
        show tSeq _ _ _ _ _
        refine w_when K (b := !isQuar ws) (?tt : EvB K _ _ _ _) (fun hb H12 x12 => ?_) (fun hb H12 x12 => ?_)
        case tt =>
          have eQ : (!isQuar ws) = (!decide ((ws.length : Int) = 4) || !decide (wAt ws 0 = "quarrel")) := by unfold isQuar; rw [e4, Bool.not_and]
          rw [eQ]
          exact eb_or (eb_d (ed_op (ed_lenW (ed_var rfl hy')) ed_int rd_neI)) (fun _ => eb_d (ed_op (d := .str (wAt ws 0)) (e := .str "quarrel") (ed_word 0 (ed_var rfl hy') wsS.1) ed_str rd_neS))
        · refine w_ret1 (K := K) (d := .none) ed_non fun v9 H13 y13 h13 => kq v9 H13 ((x1.trans x13).trans (((x39.trans x11).trans x12).trans y13)) ?_
          have na : U.all isQuar = false := by
            rw [List.all_eq_false]
            exact ⟨ws, List.mem_of_getElem? hws, by rw [Bool.not_eq_true']at hb; rw [hb]; decide⟩
          rw [if_pos na]
          exact h13
        · have hq : isQuar ws = true := by simpa using hb
          have l4 : ws.length = 4 := of_decide_eq_true (Bool.and_eq_true_iff.mp hq).1
          refine w_lay (K := K) (l := l) (H0 := H11) (Pv := fun σ => ∃ a, σ = [some (.str x), some v1, some v2, some (.int (k : Int)), some v8, some (.ref l), a, none]) (d := eO eQ (lawToldQ ws (k : Nat))) rfl (ed_call (x := (ws, k)) ⟨l4, wsS, k6⟩ (eds_cons (ed_var rfl (dp_mono x12 _ _ hy')) (eds_cons (kE _ _ rfl) eds_nil))) (ExB.ex x12) (x12 _ _ hl11) (dpa_mono x12 _ _ hD11) (noLs_map (fun _ => noL_eO noL_eQ _) _) (noL_eO noL_eQ _) (by rw [List.length_map, List.length_take]; omega) tk ⟨_, rfl⟩ (fun σ3 H3 h3 => ?_)
          obtain ⟨⟨a, rfl⟩, eb, hys⟩ := h3
          refine ⟨fun b o b1 b2 h => eb b o b1 h, a, rfl, ?_, hys⟩
          rw [take_snoc hws, List.all_append, hall]
          show (true && (isQuar ws && true)) = true
          rw [hq]
          rfl
      · rintro σ' H11 x11 ⟨a, rfl, hall, ys, hl11, hD11⟩
        rw [List.length_map, List.take_length] at hall hD11
        rw [if_neg (by rw [hall]; decide)] at kq
        have hQ : Dp K H11 (.ref l) (.list (U.map fun ws => eO eQ (lawToldQ ws (k : Nat)))) := dp_lst.mpr ⟨l, ys, rfl, SqL.of hl11, hD11⟩
        refine w_when K (b := (mapO (fun ws => lawToldQ ws (k : Nat)) U).isNone) (eb_d (EvD.cast (ed_op (d := .none) (e := .list (U.map fun ws => eO eQ (lawToldQ ws (k : Nat)))) ed_non (ed_var rfl hQ) (rd_inDL sh_none (sh_eOs lay_eQ (fun x => Nat.le_trans (dep_eQ x) (by decide)) _))) (by rw [anyO eqv_eQ_none]))) (fun hb H12 x12 => ?_) (fun hb H12 x12 => ?_)
        · refine w_ret1 (K := K) (d := .none) ed_non fun v9 H13 y13 h13 => kq v9 H13 ((x1.trans x13).trans (((x39.trans x11).trans x12).trans y13)) ?_
          rw [Option.isNone_iff_eq_none.mp hb]
          exact h13
        · obtain ⟨qs, hqs⟩ : ∃ qs, mapO (fun ws => lawToldQ ws (k : Nat)) U = some qs := by
            cases e : mapO (fun ws => lawToldQ ws (k : Nat)) U with
            | none => rw [e] at hb; cases hb
            | some qs => exact ⟨qs, rfl⟩
          rw [hqs] at kq
          rw [allO hqs] at hQ
          have x912 := x11.trans x12
          have hT12 := dp_mono (x9.trans x912) _ _ hT8
          refine w_ret1 (K := K) (d := .tuple [.list (ts.map eT), .int (roomW W), .list (qs.map eQ)]) (ed_tup (ds := [.list (ts.map eT), .int (roomW W), .list (qs.map eQ)]) (eds_cons (ed_var rfl hT12) (eds_cons (EvD.cast (ed_lnum (ed_word 1 (l0 H12 _ rfl (x13.trans (x39.trans x912))) (by omega)) ed_int (wAt_small hdS (by omega)).1) (by rw [rO])) (eds_cons (ed_var rfl (dp_mono x12 _ _ hQ)) eds_nil))) (show 3 ≤ 100000 by decide)) fun v9 H13 x13' h13 => kq v9 H13 ((x1.trans x13).trans ((x39.trans x912).trans x13')) ?_
          exact h13
end

end Fy

namespace Fy
open PySem PySem.Spec PyProof.Rows L2
/-! ### what isinstance says of the exception that a suite holds; lists put together -/
/-- isinstance(e, c) of the exception that a suite holds -/
def rIsX (K : PySem.W.Frag) (cls : Value) (dd : Option Addr) (a : Addr) : List V → Hp → VK → Prop := fun xs H Q => ∃ D, cls = .ref D ∧ dd = none ∧ ExcC K D ∧ rIsE K D a xs H Q
theorem call_isX {X : Cx} {a : Addr} {cls : Value} {dd : Option Addr} {oe : Obj} {pn : List (Addr × Obj)} (hz : Zc cls dd oe) (hf : ∃ vs, oe.data = .fields vs) : CallR (X.suite a ((a, oe) :: pn)) (.builtin "isinstance") (rIsX X.K cls dd a) := by
  intro pins s σ H xs us Q I r h
  obtain ⟨D, rfl, rfl, C, h⟩ := h
  exact call_isE C hz hf pins s σ H xs us Q I r h
section
variable {K : PySem.W.Frag} {σ : L2.St} {H : Hp} {ta tb tc td : TE} {ds es : List PyData}
theorem rd_inB {b : Bool} {bs : List Bool} : RD K (rIn K true) (.bool b) (.list (bs.map .bool)) (.bool (!bs.contains b)) := fun H x y hx hy Q q => by
  obtain ⟨a, xs, rfl, hs, hd⟩ := dp_lst.mp hy
  rw [dpa_bls.mp hd] at hs
  rw [dp_bl.mp hx]
  have fl : ∀ bs : List Bool, (bs.map V.bl).all flatV = true := fun bs => by induction bs with
    | nil => rfl
    | cons c r ih => rw [List.map_cons, List.all_cons, ih]; rfl
  have iv : ∀ bs : List Bool, inV (.bl b) (bs.map V.bl) = bs.contains b := fun bs => by
    induction bs with
    | nil => rfl
    | cons c r ih =>
      unfold inV at ih ⊢
      rw [List.map_cons, List.any_cons, ih, List.contains_cons]
      cases b <;> cases c <;> rfl
  refine ⟨a, _, rfl, .inl hs, rfl, fl bs, ?_⟩
  rw [if_pos rfl, iv]
  exact q _ H (Evl.Ex.refl H) (.bl _)
theorem en_cat {i : Nat} {v : V} {H0 : Hp} (h1 : σ[i]? = some (some v)) (hv : NewL K H0 v H ds) (h2 : EvN K tb σ H es) (hl : ds.length + es.length ≤ 100000) : EvN K (tOp rCat (tVar i) tb) σ H (ds ++ es) := fun H1 x Q q =>
  ⟨v, h1, h2 H1 x _ fun u H2 x2 hu => by
    obtain ⟨p, xs, rfl, _, p1, p2⟩ := hv
    obtain ⟨r, ys, rfl, r0, r1, r2⟩ := hu
    have e1 := dpa_len p2
    have e2 := dpa_len r2
    refine ⟨p, r, xs, ys, rfl, rfl, x2 _ _ (x _ _ p1), r1, Evl.sz_of (by omega), fun z hz => q _ _ (x2.trans (Evl.Ex.new hz)) ⟨z, _, rfl, Evl.fresh_back x2 hz, upd_same, dpa_app (dpa_mono ((x.trans x2).trans (Evl.Ex.new hz)) _ _ p2) (dpa_mono (Evl.Ex.new hz) _ _ r2)⟩⟩⟩
end
section
variable {K : PySem.W.Frag} {σ : L2.St} {H : Hp} {a D C : Addr} {i : Nat} {b : Bool}
theorem named_one {c : Addr} : ∀ u, RelV (.ref c) u → u = .ref c := fun u r => by cases r; rfl
theorem named_ty {T : String} : ∀ u, RelV (.ty T) u → u = .type T := fun u r => by cases r; rfl
theorem ed_isX (hi : σ[i]? = some (some (.ref a))) (c : ExcC K D) (h : PySem.W.kitOne K (.ref D) (.ref C) = some b) : EvD K (tCB (rIsX K (.ref D) none a) (tCons (tVar i) (tCons (tC (.ref C)) tNil))) σ H (.bool b) := fun H1 x Q q =>
  ⟨_, hi, D, rfl, rfl, c, .ref C, .ref C, b, rfl, named_one, h, q _ H1 (Evl.Ex.refl H1) (.bl b)⟩
theorem ed_isV {T : String} (hi : σ[i]? = some (some (.ref a))) (c : ExcC K D) (h : PySem.W.kitOne K (.ref D) (.type T) = some b) : EvD K (tCB (rIsX K (.ref D) none a) (tCons (tVar i) (tCons (tC (.ty T)) tNil))) σ H (.bool b) := fun H1 x Q q =>
  ⟨_, hi, D, rfl, rfl, c, .ty T, .type T, b, rfl, named_ty, h, q _ H1 (Evl.Ex.refl H1) (.bl b)⟩
end
theorem en_cat2 {K : PySem.W.Frag} {σ : L2.St} {H : Hp} {ta tb : TE} {ds es : List PyData} (h1 : EvN K ta σ H ds) (h2 : EvN K tb σ H es) (hl : ds.length + es.length ≤ 100000) : EvN K (tOp rCat ta tb) σ H (ds ++ es) := fun H1 x Q q =>
  h1 H1 x _ fun v H2 x2 hv => h2 H2 (x.trans x2) _ fun u H3 x3 hu => by
    obtain ⟨p, xs, rfl, p0, p1, p2⟩ := hv
    obtain ⟨r, ys, rfl, r0, r1, r2⟩ := hu
    have e1 := dpa_len p2
    have e2 := dpa_len r2
    exact ⟨p, r, xs, ys, rfl, rfl, x3 _ _ p1, r1, Evl.sz_of (by omega), fun z hz => q _ _ ((x2.trans x3).trans (Evl.Ex.new hz)) ⟨z, _, rfl, Evl.fresh_back (x2.trans x3) hz, upd_same, dpa_app (dpa_mono (x3.trans (Evl.Ex.new hz)) _ _ p2) (dpa_mono (Evl.Ex.new hz) _ _ r2)⟩⟩

end Fy

namespace Fy
open PySem PySem.Spec PyProof.Rows L2
/-! ### what the program tells of a text, walked -/
def dueD : Option Nt → PyData
  | some n => eNt n
  | none => .tuple [.str "refused", .bool true]
def spTold9 (K : PySem.W.Frag) : Sp := fun vs H Q _ => ∃ x : Str, vs = [.str x] ∧ x.length ≤ 50000 ∧ PyData.strOk x = true ∧ RetR (fun v H' => Dp K H' v (dueD (noteOf (linesW x)))) H Q
section
variable {P : Program} {w : World} {K : PySem.W.Frag} {mg : Str → Option Value} {base : Heap}
theorem sc__law_told : FnScope ["text", "found", "night", "e", "flags"] ["text"] (defScope s__law_told) := ⟨rfl, rfl, rfl, by decide +kernel, rfl, by decide +kernel, by decide +kernel⟩
theorem ok__law_told (T : Tx K mg) : Has P w K mg base CX0 5 "_law_told" ["text"] (spTold9 K) := by
  obtain ⟨fd, F⟩ := T.f__law_told
  have G_read := ok_read (P := P) (w := w) (base := base) T
  have N_quarrels := ok_Night_quarrels (P := P) (w := w) (base := base) T
  have N_room := ok_Night_room (P := P) (w := w) (base := base) T
  have N_things := ok_Night_things (P := P) (w := w) (base := base) T
  refine ⟨T.g__law_told, fd, F.ok sc__law_told (fun vs H Q E h => ?_) (fun cdv A outer s H vs Q E hr h => ⟨_, PSs.nox (pss_cons (ps_set (i := 1) sc__law_told.nd rfl (.inl rfl) pe_non)
      (pss_cons (ps_try_as (i := 3) (Wout := fun _ _ _ _ => False) rfl rfl sc__law_told.nd rfl rfl ⟨rfl, by decide, .inl T.g_FerryError⟩ takes0 (fun W pn xe tk hp => (pss_cons (ps_set (i := 2) sc__law_told.nd rfl (.inl rfl) (pe_fx G_read (hr.mono (by decide)) rfl tk (pa_cons (pv 0) pa_nil)))
      (pss_one (ps_set (i := 1) sc__law_told.nd rfl (.inl rfl) (pe_tup (pa_cons (pe_nm0 (C := He.ga K "Night") (pv 2) N_things (hr.mono (by decide)) pass0) (pa_cons (pe_nm0 (C := He.ga K "Night") (pv 2) N_room (hr.mono (by decide)) pass0) (pa_cons (pe_nm0 (C := He.ga K "Night") (pv 2) N_quarrels (hr.mono (by decide)) pass0) pa_nil))))))))
      (fun a oe cls d pn hz hf => (pss_cons (ps_set (i := 4) sc__law_told.nd rfl (.inl rfl) (pe_lst (pa_cons (pe_callB (r := rIsX K cls d a) (call_isX hz hf) (by rfl) T.b_isinstance (by decide +kernel) (pa_cons (pv 3) (pa_cons (pe_glob rfl T.g_NoStanding (v := .ref _) rfl) pa_nil))) (pa_cons (pe_callB (r := rIsX K cls d a) (call_isX hz hf) (by rfl) T.b_isinstance (by decide +kernel) (pa_cons (pv 3) (pa_cons (pe_glob rfl T.g_BadStart (v := .ref _) rfl) pa_nil))) (pa_cons (pe_callB (r := rIsX K cls d a) (call_isX hz hf) (by rfl) T.b_isinstance (by decide +kernel) (pa_cons (pv 3) (pa_cons (pe_glob rfl T.g_BadThing (v := .ref _) rfl) pa_nil))) (pa_cons (pe_callB (r := rIsX K cls d a) (call_isX hz hf) (by rfl) T.b_isinstance (by decide +kernel) (pa_cons (pv 3) (pa_cons (pe_glob rfl T.g_BadRoom (v := .ref _) rfl) pa_nil))) pa_nil))))))
      (pss_cons (ps_set (i := 4) sc__law_told.nd rfl (.inl rfl) (pe_op op_cat (pv 4) (pe_lst (pa_cons (pe_callB (r := rIsX K cls d a) (call_isX hz hf) (by rfl) T.b_isinstance (by decide +kernel) (pa_cons (pv 3) (pa_cons (pe_glob rfl T.g_BadQuarrel (v := .ref _) rfl) pa_nil))) (pa_cons (pe_callB (r := rIsX K cls d a) (call_isX hz hf) (by rfl) T.b_isinstance (by decide +kernel) (pa_cons (pv 3) (pa_cons (pe_glob rfl T.g_NoCrew (v := .ref _) rfl) pa_nil))) pa_nil)))))
      (pss_one (ps_set (i := 1) sc__law_told.nd rfl (.inl rfl) (pe_tup (pa_cons pe_str (pa_cons (pe_and (pe_callB (r := rIsX K cls d a) (call_isX hz hf) (by rfl) T.b_isinstance (by decide +kernel) (pa_cons (pv 3) (pa_cons (pe_glob rfl T.g_BadNote (v := .ref _) rfl) pa_nil))) (pe_and (pe_callB (r := rIsX K cls d a) (call_isX hz hf) (by rfl) T.b_isinstance (by decide +kernel) (pa_cons (pv 3) (pa_cons (pe_bltn (v := .ty "ValueError") (by rfl) T.b_ValueError (by decide +kernel) rfl) pa_nil))) (pe_one (pe_cmpR (r := rIn K true) op_notIn_seq pe_bl (pv 4) (by rfl))))) pa_nil)))))))))
      (pss_one (ps_ret (pv 1))))), ?_⟩), F.bindsN fun _ _ _ _ _ _ us hl => match us, hl with | [_], _ => rfl, F.kp⟩
  · obtain ⟨x, rfl, _⟩ := h
    rfl
  · obtain ⟨x, rfl, hl, hok, k⟩ := h
    refine' w_asg (K := K) (d := .none) ed_non (fun v1 H1 x1 h1 => ?_)
    cases dp_non.mp h1
    refine ⟨_, rfl, x, rfl, hl, hok, fun n hn v2 H2 x2 h2 => ?_, fun hn H2 x2 => ?_⟩
    · have N := h2.na
      dsimp only [gName]
      show tAsg _ _ _ _ _
      refine w_asg1 (K := K) (d := .tuple [.list (n.things.map eT), .int n.room, .list (n.quarrels.map eQ)]) (ed_tup (ds := [.list (n.things.map eT), .int n.room, .list (n.quarrels.map eQ)]) (eds_cons (en_things rfl N).toD (eds_cons (ed_room rfl N) (eds_cons (en_quarrels rfl N).toD eds_nil))) (show 3 ≤ 100000 by decide)) (fun v3 H3 x3 h3 => ?_)
      exact ⟨_, rfl, k v3 H3 ((x1.trans x2).trans x3) (by rw [hn]; exact h3)⟩
    · refine ⟨true, T.exm "BadNote" (by decide +kernel) "FerryError" (by decide +kernel), fun _ a ha => ?_, nofun⟩
      show tSeq _ _ _ _ _
      have ec := T.exc "BadNote" (by decide +kernel)
      have x02 := x1.trans x2
      refine' w_asgN (K := K) (ds := [false, false, false, false].map .bool) (en_lst (eds_cons (ed_isX rfl ec (T.kit "BadNote" (by decide +kernel) "NoStanding" (by decide +kernel))) (eds_cons (ed_isX rfl ec (T.kit "BadNote" (by decide +kernel) "BadStart" (by decide +kernel)))
        (eds_cons (ed_isX rfl ec (T.kit "BadNote" (by decide +kernel) "BadThing" (by decide +kernel))) (eds_cons (ed_isX rfl ec (T.kit "BadNote" (by decide +kernel) "BadRoom" (by decide +kernel))) eds_nil)))) (by decide)) (fun v3 H3 x3 h3 => ?_)
      refine' w_asgN (K := K) (ds := [false, false, false, false, false, false].map .bool) (en_cat (es := [false, false].map .bool) rfl h3 (en_lst (eds_cons (ed_isX rfl ec (T.kit "BadNote" (by decide +kernel) "BadQuarrel" (by decide +kernel))) (eds_cons (ed_isX rfl ec (T.kit "BadNote" (by decide +kernel) "NoCrew" (by decide +kernel))) eds_nil)) (by decide)) (by decide)) (fun v4 H4 x4 h4 => ?_)
      have tv : EvD K (tAndV (tCB (rIsX K (.ref (He.ga K "BadNote")) none a) (tCons (tVar 3) (tCons (tC (.ref (He.ga K "BadNote"))) tNil))) (tAndV (tCB (rIsX K (.ref (He.ga K "BadNote")) none a) (tCons (tVar 3) (tCons (tC (.ty "ValueError")) tNil))) (tOp (rIn K true) (tC (.bl true)) (tVar 4)))) [some (.str x), some .non, none, some (.ref a), some v4] H4 (.bool true) :=
        EvD.cast (ed_andV (ed_isX rfl ec (T.kit "BadNote" (by decide +kernel) "BadNote" (by decide +kernel))) (fun _ => ed_andV (ed_isV rfl ec (T.kitV "BadNote" (by decide +kernel))) (fun _ => ed_op (d := .bool true) (e := .list ([false, false, false, false, false, false].map .bool)) ed_bl (ed_var rfl h4.dp) rd_inB))) (congrArg PyData.bool (by decide +kernel))
      refine' w_asg1 (K := K) (d := .tuple [.str "refused", .bool true]) (ed_tup (ds := [.str "refused", .bool true]) (eds_cons ed_str (eds_cons tv eds_nil)) (show 2 ≤ 100000 by decide)) (fun v6 H6 x6 h6 => ?_)
      exact ⟨_, rfl, k v6 H6 (((x02.trans x3).trans x4).trans x6) (by rw [hn]; exact h6)⟩
end

end Fy

namespace Fy
open PySem PySem.Spec PyProof.Rows L2
/-! ### texts spoiled, odd texts: some text of bounded length -/
abbrev rRepS : R2 := fun x y H Q => ∃ a k, x = .str a ∧ y = .int k ∧ 2 ≤ k ∧ k ≤ 1000 ∧ 1 ≤ a.length ∧ a.length ≤ 1000 ∧ Q (.str ⟨(List.replicate k.toNat a.cps).foldl (· ++ ·) #[]⟩) H
def repS (a : Str) (k : Nat) : Str := ⟨(List.replicate k a.cps).foldl (· ++ ·) #[]⟩
theorem foldl_app : ∀ (L : List (Array Nat)) (acc : Array Nat), (L.foldl (· ++ ·) acc).toList = acc.toList ++ (L.map (·.toList)).flatten
  | [], acc => by simp
  | a :: r, acc => by rw [List.foldl_cons, foldl_app r, Array.toList_append, List.map_cons, List.flatten_cons, List.append_assoc]
theorem sg_rep (a : Str) (k : Nat) : sg (repS a k) = (List.replicate k (sg a)).flatten := by
  unfold repS sg
  rw [foldl_app]
  simp
theorem rep_len (a : Str) (k : Nat) : (repS a k).length = k * a.length := by
  rw [← sg_len, sg_rep, ← sg_len]
  simp
theorem op_repS {X : Cx} : OpR X (binaryOp .Mult) rRepS := by
  intro pins s σ H x y v u Q I rx ry h
  obtain ⟨a, k, rfl, rfl, h1, h2, h3, h4, q⟩ := h
  obtain ⟨t, rfl⟩ := rx
  obtain ⟨t', rfl⟩ := ry
  have ll : a.length * k.toNat ≤ 1000000 := by
    have := Nat.mul_le_mul h4 (show k.toNat ≤ 1000 by omega)
    omega
  have nl : ¬ k < 1 := by omega
  have z : (k == 1 || a.length == 0) = false := by
    rw [Bool.or_eq_false_iff]
    exact ⟨by rw [beq_eq_false_iff_ne]; omega, by rw [beq_eq_false_iff_ne]; omega⟩
  refine PySem.P.mul_str (by rw [decide_eq_false (show ¬ k < -(2 ^ 63) by omega), decide_eq_false (show ¬ k ≥ 2 ^ 63 by omega)]; rfl) (fun _ _ => ?_) (fun _ _ => ?_) ?_
  · have d : (9223372036854775 : Int) ≤ (2 ^ 63 - 1) / k := by
      refine Int.le_ediv_of_mul_le (by omega) ?_
      have : 9223372036854775 * k ≤ 9223372036854775 * 1000 := Int.mul_le_mul_of_nonneg_left (by omega) (by decide)
      omega
    omega
  · unfold Builtin.Str.tooLong
    first
      | exact decide_eq_false (by have : (1000000 : Nat) ≤ sizeLine := by decide
                                  omega)
      | (rw [decide_eq_false]; have : (1000000 : Nat) ≤ sizeLine := by decide; omega)
  · rw [if_neg nl, if_neg (by rw [z]; decide)]
    refine ⟨?_, .str _, H, I.tok _, ⟨_, rfl⟩, q⟩
    have e := rep_len a k.toNat
    unfold repS at e
    have : (1000000 : Nat) ≤ sizeLine := by decide
    rw [e, Nat.mul_comm]
    omega
theorem rd_repS {K : PySem.W.Frag} {a : Str} {k : Nat} (h : (2 ≤ k ∧ k ≤ 1000) ∧ 1 ≤ a.length ∧ a.length ≤ 1000) : RD K rRepS (.str a) (.int (k : Int)) (.str (repS a k)) := fun H u v hu hv Q q =>
  ⟨a, k, dp_str.mp hu, dp_int.mp hv, by omega, by omega, h.2.1, h.2.2, q _ H (Evl.Ex.refl H) (.str _)⟩
/-! plain -/
def tot (ls : List Str) : Nat := (ls.map fun l => l.length + 1).sum
theorem tot_cons (a : Str) (r : List Str) : tot (a :: r) = (a.length + 1) + tot r := by unfold tot; rw [List.map_cons, List.sum_cons]
theorem tot_app : ∀ a b : List Str, tot (a ++ b) = tot a + tot b
  | [], b => by show tot b = 0 + tot b; omega
  | x :: a, b => by rw [List.cons_append, tot_cons, tot_cons, tot_app a b]; omega
theorem tot_split (l : List Str) (k : Nat) : tot (l.take k) + tot (l.drop k) = tot l := by rw [← tot_app, List.take_append_drop]
theorem tot_eq (l : List Str) : tot l = (l.map (·.length)).sum + l.length := by
  induction l with
  | nil => rfl
  | cons a r ih => rw [tot_cons, ih, List.map_cons, List.sum_cons, List.length_cons]; omega
theorem joinL_len : ∀ ps : List (List Nat), (TL.joinL [10] ps).length ≤ (ps.map fun p => p.length + 1).sum
  | [] => Nat.zero_le _
  | [a] => by show a.length ≤ (a.length + 1) + 0; omega
  | a :: b :: r => by
    have := joinL_len (b :: r)
    show (a ++ ([10] ++ TL.joinL [10] (b :: r))).length ≤ (a.length + 1) + ((b :: r).map fun p => p.length + 1).sum
    rw [List.length_append, List.length_append, List.length_singleton]
    omega
theorem join_len (ls : List Str) : (Txt.join "\n" ls).length ≤ tot ls := by
  have := joinL_len (ls.map sg)
  rw [← sg_len, sg_join, sg_nl]
  unfold tot
  rw [List.map_map] at this
  have e : ((fun p : List Nat => p.length + 1) ∘ sg) = fun l : Str => l.length + 1 := funext fun l => by show (sg l).length + 1 = _; rw [sg_len]
  rw [e] at this
  exact this
theorem join_low {ls : List Str} (h : ∀ l ∈ ls, lowS l) : lowS (Txt.join "\n" ls) := fun c hc => by
  rw [sg_join, sg_nl] at hc
  rcases joinL_mem _ _ _ hc with h1 | ⟨p, hp, h1⟩
  · rw [List.mem_singleton.mp h1]; decide
  · obtain ⟨l, hl, rfl⟩ := List.mem_map.mp hp
    exact h l hl c h1
theorem spl_tot : ∀ (l acc : List Nat), ((TL.spl [10] 0 acc l).map fun p => p.length + 1).sum = acc.length + l.length + 1
  | [], acc => by rw [TL.spl_nil]; show (acc.length + 1) + 0 = _; simp
  | c :: r, acc => by
    cases h : TL.pre [10] (c :: r) with
    | true =>
      rw [TL.spl_hit h]
      have := spl_tot r []
      rw [List.map_cons, List.sum_cons]
      show (acc.length + 1) + ((TL.spl [10] 0 [] r).map fun p => p.length + 1).sum = _
      rw [this, List.length_cons]
      simp only [List.length_nil]
      omega
    | false =>
      rw [TL.spl_miss h, spl_tot r (acc ++ [c]), List.length_append, List.length_cons]
      simp only [List.length_cons, List.length_nil]
      omega
theorem split_tot (x : Str) : tot (Txt.split x "\n") = x.length + 1 := by
  have := spl_tot (sg x) []
  rw [← split_nl, List.map_map] at this
  have e : ((fun p : List Nat => p.length + 1) ∘ sg) = fun l : Str => l.length + 1 := funext fun l => by show (sg l).length + 1 = _; rw [sg_len]
  rw [e, sg_len] at this
  unfold tot
  rw [this]
  simp
/-- lines: plain letters, bounded -/
structure Lns (N : Nat) (ls : List Str) : Prop where
  t : tot ls ≤ N
  l : ∀ x ∈ ls, lowS x
theorem Lns.len {N : Nat} {ls : List Str} (h : Lns N ls) : ls.length ≤ N := by have := tot_eq ls; have := h.t; omega
def signsS : Str := "0123456789 -as+_BR\n"
theorem signs_ok : signsS.length = 19 ∧ (sg signsS).all (fun c => decide (c < 128)) = true := by decide +kernel
def oddA : List Str := ["", "\n", "boat 2\n", "boat 0\nthing 1 rows\n", "boat 4\nthing 1 rows\n", "boat 2\nthing 0 rows\n"]
def oddB : List Str := ["boat 2\nthing 1000000001 rows\n", "boat 02\nthing 1 rows\n", "boat 2\nthing 1 row\n"]
def oddC : List Str := ["boat 2\nthing 1 rows", "boat 2 \nthing 1 rows\n", "boat 2\nthing 1 rows\n\n"]
def oddD : List Str := ["boat 1_0\nthing 1 rows\n"]
def twoS : Str := "boat 2\nthing 1 rows\nthing 2 sits\n"
def oddE : List Str := [twoS ++ repS "quarrel 0 1 -\n" 30, twoS ++ repS "quarrel 0 1 -\n" 31]
def oddF : List Str := ["boat 2\n" ++ repS "thing 1 rows\n" 7, "Boat 2\nthing 1 rows\n", "boat 2\nthing 1 Rows\n"]
def oddL : List Str := ((((oddA ++ oddB) ++ oddC) ++ oddD) ++ oddE) ++ oddF
theorem odd_len : oddL.length = 18 := rfl
theorem odd_ok : oddL.all (fun y => decide (y.length ≤ 5000) && (sg y).all fun c => decide (c < 128)) = true := by decide +kernel
def spSpoil (K : PySem.W.Frag) : Sp := fun vs H Q _ => ∃ (x : Str) (way cell other : Int), vs = [.str x, .int way, .int cell, .int other] ∧ x.length ≤ 6000 ∧ lowS x ∧ ∀ y, y.length ≤ 50000 → lowS y → ∀ H', Ex H H' → Q (.str y) H'
def spOdd (K : PySem.W.Frag) : Sp := fun vs H Q _ => ∃ cell : Int, vs = [.int cell] ∧ ∀ y, y.length ≤ 50000 → lowS y → ∀ H', Ex H H' → Q (.str y) H'
/-! ### by data -/
structure EvLo (K : PySem.W.Frag) (te : TE) (σ : L2.St) (H : Hp) (x : Str) (N : Nat) : Prop where
  d : EvD K te σ H (.str x)
  l : x.length ≤ N
  o : lowS x
section
variable {K : PySem.W.Frag} {σ : L2.St} {H : Hp} {ta tb te : TE} {x y : Str} {a b : Nat} {to th : TO} {lo hi : Option Int}
theorem lo_add (h : EvLo K ta σ H x a) (k : EvLo K tb σ H y b) (z : a + b ≤ 100000) : EvLo K (tOp rAddS ta tb) σ H (x ++ y) (a + b) :=
  ⟨ed_op h.d k.d (rd_addS (by have := h.l; have := k.l; omega)), by have := h.l; have := k.l; rw [len_app]; omega, low_app h.o k.o⟩
theorem lo_var {i : Nat} (h : σ[i]? = some (some (.str x))) (k : x.length ≤ a) (o : lowS x) : EvLo K (tVar i) σ H x a := ⟨ed_var h (.str _), k, o⟩
theorem cutS_low (o : lowS x) : lowS (cutS x lo hi) := fun c hc => o c (by
  have e : sg (cutS x lo hi) = (x.cps.toList.drop (HT.sIx x.length 0 lo)).take (HT.sIx x.length x.length hi - HT.sIx x.length 0 lo) := rfl
  rw [e] at hc
  exact List.mem_of_mem_drop (List.mem_of_mem_take hc))
theorem lo_sl {i : Nat} (h : σ[i]? = some (some (.str x))) (k : x.length ≤ a) (o : lowS x) (z : a ≤ 100000) (h1 : EvO K to σ H lo) (h2 : EvO K th σ H hi) : EvLo K (tSl rSlS (tVar i) to th) σ H (cutS x lo hi) a :=
  ⟨fun H1 x1 Q q => ⟨_, h, h1 H1 x1 _ fun H2 x2 => h2 H2 (x1.trans x2) _ fun H3 x3 => ⟨x, rfl, sz5 (by omega), q _ H3 (x2.trans x3) (.str _)⟩⟩, Nat.le_trans (cutS_length x lo hi) k, cutS_low o⟩
end
theorem w_appL9 {K : PySem.W.Frag} {σ : L2.St} {H H0 : Hp} {te : TE} {D : Ends} {tz : TS} {d : PyData} {v : V} {i : Nat} {acc : List PyData} (hi : σ[i]? = some (some v)) (hv : NewL K H0 v H acc) (x0 : Ex H0 H) (he : EvD K te σ H d) (ha : noLs acc = true) (hn : noL d = true) (hl : acc.length < 100000)
    (k : ∀ H2, Ex H0 H2 → NewL K H0 v H2 (acc ++ [d]) → tz D σ H2) : tSeq (tDrop (tBM K "list" rAppend (tVar i) (tCons te tNil))) tz D σ H := by
  obtain ⟨l, ys, rfl, l0, hx, hd⟩ := hv
  refine ⟨_, hi, .inl ⟨rfl, _, SqL.of hx⟩, he H (Evl.Ex.refl H) _ fun v H1 x hv => ⟨l, ys, v, rfl, rfl, x _ _ hx, Evl.sz_lt (by rw [dpa_len hd]; exact hl), ?_⟩⟩
  have u : Up H1 (upd H1 l (.lst (ys ++ [v]))) := Up.lst (x _ _ hx)
  exact k _ ((x0.trans x).mut l0) ⟨l, ys ++ [v], rfl, l0, upd_same, dpa_snoc (dpa_up u _ _ ha (dpa_mono x _ _ hd)) (dp_up u _ _ hn hv)⟩
section
variable {P : Program} {w : World} {K : PySem.W.Frag} {mg : Str → Option Value} {base : Heap}
theorem sc__law_odd : FnScope ["cell", "some", "two"] ["cell"] (defScope s__law_odd) := ⟨rfl, rfl, rfl, by decide +kernel, rfl, by decide +kernel, by decide +kernel⟩
theorem ok__law_odd (T : Tx K mg) : Has P w K mg base CX0 1 "_law_odd" ["cell"] (spOdd K) := by
  obtain ⟨fd, F⟩ := T.f__law_odd
  refine ⟨T.g__law_odd, fd, F.ok sc__law_odd (fun vs H Q E h => ?_) (fun cdv A outer s H vs Q E hr h => ⟨_, PSs.nox (pss_cons (ps_set (i := 1) sc__law_odd.nd rfl (.inl rfl) (pe_lst (pa_cons pe_str (pa_cons pe_str (pa_cons pe_str (pa_cons pe_str (pa_cons pe_str (pa_cons pe_str pa_nil))))))))
      (pss_cons (ps_set (i := 1) sc__law_odd.nd rfl (.inl rfl) (pe_op op_cat (pv 1) (pe_lst (pa_cons pe_str (pa_cons pe_str (pa_cons pe_str pa_nil))))))
      (pss_cons (ps_set (i := 1) sc__law_odd.nd rfl (.inl rfl) (pe_op op_cat (pv 1) (pe_lst (pa_cons pe_str (pa_cons pe_str (pa_cons pe_str pa_nil))))))
      (pss_cons (ps_expr (pe_bm PySem.F.plainAttrs_list PySem.F.slot_list_append PySem.F.type_list_append mt_append (pv 1) (pa_cons pe_str pa_nil)))
      (pss_cons (ps_set (i := 2) sc__law_odd.nd rfl (.inl rfl) pe_str)
      (pss_cons (ps_set (i := 1) sc__law_odd.nd rfl (.inl rfl) (pe_op op_cat (pv 1) (pe_lst (pa_cons (pe_op (r := rAddS) op_add_str (pv 2) (pe_op (r := rRepS) op_repS pe_str pe_int)) (pa_cons (pe_op (r := rAddS) op_add_str (pv 2) (pe_op (r := rRepS) op_repS pe_str pe_int)) pa_nil)))))
      (pss_cons (ps_set (i := 1) sc__law_odd.nd rfl (.inl rfl) (pe_op op_cat (pv 1) (pe_lst (pa_cons (pe_op (r := rAddS) op_add_str pe_str (pe_op (r := rRepS) op_repS pe_str pe_int)) (pa_cons pe_str (pa_cons pe_str pa_nil))))))
      (pss_one (ps_ret (pe_ix (r := rIxL K) ix_list (pv 1) (pe_op op_mod (pv 0) pe_int) (fun _ _ => rfl))))))))))), ?_⟩), F.bindsN fun _ _ _ _ _ _ us hl => match us, hl with | [_], _ => rfl, F.kp⟩
  · obtain ⟨c, rfl, _⟩ := h
    rfl
  · obtain ⟨c, rfl, k⟩ := h
    have r0 := Evl.Ex.refl H
    refine w_asgN (K := K) (ds := oddA.map PyData.str) (en_lst (eds_cons ed_str (eds_cons ed_str (eds_cons ed_str (eds_cons ed_str (eds_cons ed_str (eds_cons ed_str eds_nil)))))) (show 6 ≤ 100000 by decide)) (fun v1 H1 x1 h1 => ?_)
    refine w_asgN (K := K) (ds := oddA.map PyData.str ++ oddB.map PyData.str) (en_cat rfl h1 (en_lst (eds_cons ed_str (eds_cons ed_str (eds_cons ed_str eds_nil))) (show 3 ≤ 100000 by decide)) (show 9 ≤ 100000 by decide)) (fun v2 H2 x2 h2 => ?_)
    refine w_asgN (K := K) (ds := (oddA.map PyData.str ++ oddB.map PyData.str) ++ oddC.map PyData.str) (en_cat rfl h2 (en_lst (eds_cons ed_str (eds_cons ed_str (eds_cons ed_str eds_nil))) (show 3 ≤ 100000 by decide)) (show 12 ≤ 100000 by decide)) (fun v3 H3 x3 h3 => ?_)
    refine w_appL9 (K := K) (H0 := H2) (d := .str "boat 1_0\nthing 1 rows\n") rfl h3 x3 ed_str rfl rfl (show 12 < 100000 by decide) (fun H4 x4 h4 => ?_)
    refine w_asg (K := K) (d := .str twoS) ed_str (fun v5 H5 x5 h5 => ?_)
    cases dp_str.mp h5
    have h45 := h4.mono x5
    have rq : ∀ (k : Nat) (σ' : L2.St) H', (2 ≤ k ∧ k ≤ 100) → σ'[2]? = some (some (.str twoS)) → EvD K (tOp rAddS (tVar 2) (tOp rRepS (tC (.str "quarrel 0 1 -\n")) (tC (.int (k : Int))))) σ' H' (.str (twoS ++ repS "quarrel 0 1 -\n" k)) := fun k σ' H' hk hs => by
      have ql : ("quarrel 0 1 -\n" : Str).length = 14 := by decide +kernel
      have tl : twoS.length ≤ 100 := by decide +kernel
      refine ed_op (ed_var hs (.str _)) (ed_op ed_str ed_int (rd_repS ⟨by omega, by omega, by omega⟩)) (rd_addS ?_)
      rw [rep_len, ql]
      omega
    refine w_asgN (K := K) (ds := (((oddA.map PyData.str ++ oddB.map PyData.str) ++ oddC.map PyData.str) ++ [PyData.str "boat 1_0\nthing 1 rows\n"]) ++ oddE.map PyData.str) (en_cat rfl h45 (en_lst (ds := oddE.map PyData.str) (eds_cons (rq 30 _ _ (by decide) rfl) (eds_cons (rq 31 _ _ (by decide) rfl) eds_nil)) (show 2 ≤ 100000 by decide)) (show 15 ≤ 100000 by decide)) (fun v6 H6 x6 h6 => ?_)
    have rt : EvD K (tOp rAddS (tC (.str "boat 2\n")) (tOp rRepS (tC (.str "thing 1 rows\n")) (tC (.int 7)))) [some (.int c), some v6, some (.str twoS)] H6 (.str ("boat 2\n" ++ repS "thing 1 rows\n" 7)) := by
      have ql : ("thing 1 rows\n" : Str).length = 13 := by decide +kernel
      have tl : ("boat 2\n" : Str).length ≤ 100 := by decide +kernel
      refine ed_op ed_str (ed_op ed_str ed_int (rd_repS (k := 7) ⟨by decide, by omega, by omega⟩)) (rd_addS ?_)
      rw [rep_len, ql]
      omega
    refine w_asgN (K := K) (ds := ((((oddA.map PyData.str ++ oddB.map PyData.str) ++ oddC.map PyData.str) ++ [PyData.str "boat 1_0\nthing 1 rows\n"]) ++ oddE.map PyData.str) ++ oddF.map PyData.str) (en_cat rfl h6 (en_lst (ds := oddF.map PyData.str) (eds_cons rt (eds_cons ed_str (eds_cons ed_str eds_nil))) (show 3 ≤ 100000 by decide)) (show 18 ≤ 100000 by decide)) (fun v7 H7 x7 h7 => ?_)
    have hd7 : Dp K H7 v7 (.list (oddL.map PyData.str)) := h7.dp
    have i1 := Int.emod_nonneg c (show (18 : Int) ≠ 0 by decide)
    have i2 := Int.emod_lt_of_pos c (show (0 : Int) < 18 by decide)
    have lt : (c % 18).toNat < oddL.length := by rw [odd_len]; omega
    have g : oddL[(c % 18).toNat]? = some oddL[(c % 18).toNat] := List.getElem?_eq_getElem lt
    have hm := List.getElem_mem lt
    generalize oddL[(c % 18).toNat] = y at g hm
    have ok := List.all_eq_true.mp odd_ok y hm
    rw [Bool.and_eq_true] at ok
    have ai : atI (oddL.map PyData.str) (c % 18) = some (.str y) := by
      rw [show c % 18 = (((c % 18).toNat : Nat) : Int) by omega]
      exact atI_nat (by rw [List.getElem?_map, g]; rfl)
    refine w_ret1 (K := K) (d := .str y) (ed_op (d := .list (oddL.map PyData.str)) (e := .int (c % 18)) (ed_var rfl hd7) (ed_op (ed_var rfl (.int _)) ed_int (rd_I (show (0 : Int) < 18 by decide) fun _ => .int _)) (rd_ixL ai)) fun v9 H9 x9 h9 => ?_
    cases dp_str.mp h9
    exact k y (Nat.le_trans (of_decide_eq_true ok.1) (by decide)) (low_lit y ok.2) H9 (((x1.trans x2).trans (x4.trans x5)).trans ((x6.trans x7).trans x9))
end

end Fy

namespace Fy
open PySem PySem.Spec PyProof.Rows L2
/-! ### _law_spoiled, walked -/
theorem mid1 (ls : List Str) (k : Nat) : tot ((ls.drop k).take 1) + tot (ls.drop (k + 1)) = tot (ls.drop k) := by
  have := tot_split (ls.drop k) 1
  rw [List.drop_drop] at this
  exact this
section
variable {P : Program} {w : World} {K : PySem.W.Frag} {mg : Str → Option Value} {base : Heap}
theorem sc__law_spoiled : FnScope ["text", "way", "cell", "other", "signs", "sign", "at", "lines", "spot", "ahead"] ["text", "way", "cell", "other"] (defScope s__law_spoiled) := ⟨rfl, rfl, rfl, by decide +kernel, rfl, by decide +kernel, by decide +kernel⟩
theorem ok__law_spoiled (T : Tx K mg) : Has P w K mg base CX0 1 "_law_spoiled" ["text", "way", "cell", "other"] (spSpoil K) := by
  obtain ⟨fd, F⟩ := T.f__law_spoiled
  refine ⟨T.g__law_spoiled, fd, F.ok sc__law_spoiled (fun vs H Q E h => ?_) (fun cdv A outer s H vs Q E hr h => ⟨_, PSs.nox (pss_cons (ps_set (i := 4) sc__law_spoiled.nd rfl (.inl rfl) pe_str)
      (pss_cons (ps_set (i := 5) sc__law_spoiled.nd rfl (.inl rfl) (pe_ix (r := rIxS) ix_str (pv 4) (pe_op op_mod (pv 3) pe_int) (fun _ _ => rfl)))
      (pss_cons (ps_set (i := 6) sc__law_spoiled.nd rfl (.inl rfl) (pe_op op_mod (pv 2) (pe_op op_add (pe_callB (r := rLenS) call_len_str (by rfl) T.b_len (by decide +kernel) (pa_cons (pv 0) pa_nil)) pe_int)))
      (pss_cons (ps_set (i := 7) sc__law_spoiled.nd rfl (.inl rfl) (pe_split (pv 0) pe_str))
      (pss_cons (ps_set (i := 8) sc__law_spoiled.nd rfl (.inl rfl) (pe_op op_mod (pv 2) (pe_callB (r := rLenQ K) call_len_seq (by rfl) T.b_len (by decide +kernel) (pa_cons (pv 7) pa_nil))))
      (pss_cons (ps_if (pt_cmpR op_eq (pv 1) pe_int (nomark _)) (pss_one (ps_ret (pe_op (r := rAddS) op_add_str (pe_op (r := rAddS) op_add_str (pe_slice (r := rSlS) sl_str (pv 0) po_none (po_some (pv 6))) (pv 5)) (pe_slice (r := rSlS) sl_str (pv 0) (po_some (pv 6)) po_none)))) pss_nil)
      (pss_cons (ps_if (pt_cmpR op_eq (pv 1) pe_int (nomark _)) (pss_one (ps_ret (pe_op (r := rAddS) op_add_str (pe_op (r := rAddS) op_add_str (pe_slice (r := rSlS) sl_str (pv 0) po_none (po_some (pv 6))) (pv 5)) (pe_slice (r := rSlS) sl_str (pv 0) (po_some (pe_op op_add (pv 6) pe_int)) po_none)))) pss_nil)
      (pss_cons (ps_if (pt_cmpR op_eq (pv 1) pe_int (nomark _)) (pss_one (ps_ret (pe_op (r := rAddS) op_add_str (pe_slice (r := rSlS) sl_str (pv 0) po_none (po_some (pv 6))) (pe_slice (r := rSlS) sl_str (pv 0) (po_some (pe_op op_add (pv 6) pe_int)) po_none)))) pss_nil)
      (pss_cons (ps_if (pt_cmpR op_eq (pv 1) pe_int (nomark _)) (pss_one (ps_set (i := 7) sc__law_spoiled.nd rfl (.inl rfl) (pe_op op_cat (pe_slice (r := rSlL K) sl_list (pv 7) po_none (po_some (pv 8))) (pe_slice (r := rSlL K) sl_list (pv 7) (po_some (pe_op op_add (pv 8) pe_int)) po_none)))) pss_nil)
      (pss_cons (ps_if (pt_cmpR op_eq (pv 1) pe_int (nomark _)) (pss_one (ps_set (i := 7) sc__law_spoiled.nd rfl (.inl rfl) (pe_op op_cat (pe_op op_cat (pe_slice (r := rSlL K) sl_list (pv 7) po_none (po_some (pv 8))) (pe_lst (pa_cons (pe_ix (r := rIxL K) ix_list (pv 7) (pv 8) (fun _ _ => rfl)) pa_nil))) (pe_slice (r := rSlL K) sl_list (pv 7) (po_some (pv 8)) po_none)))) pss_nil)
      (pss_cons (ps_if (pt_cmpR op_eq (pv 1) pe_int (nomark _)) (pss_cons (ps_set (i := 9) sc__law_spoiled.nd rfl (.inl rfl) (pe_op op_cat (pe_slice (r := rSlL K) sl_list (pv 7) po_none (po_some (pv 8))) (pe_slice (r := rSlL K) sl_list (pv 7) (po_some (pe_op op_add (pv 8) pe_int)) (po_some (pe_op op_add (pv 8) pe_int)))))
      (pss_one (ps_set (i := 7) sc__law_spoiled.nd rfl (.inl rfl) (pe_op op_cat (pe_op op_cat (pv 9) (pe_slice (r := rSlL K) sl_list (pv 7) (po_some (pv 8)) (po_some (pe_op op_add (pv 8) pe_int)))) (pe_slice (r := rSlL K) sl_list (pv 7) (po_some (pe_op op_add (pv 8) pe_int)) po_none))))) pss_nil)
      (pss_one (ps_ret (pe_join pe_str (pv 7))))))))))))))), ?_⟩), F.bindsN fun _ _ _ _ _ _ us hl => match us, hl with | [_, _, _, _], _ => rfl, F.kp⟩
  · obtain ⟨x, a, b, c, rfl, _⟩ := h
    rfl
  · obtain ⟨x, way, cell, other, rfl, hl, hlow, k⟩ := h
    obtain ⟨sg1, sg2⟩ := signs_ok
    have lowG := low_lit signsS sg2
    refine w_asg (K := K) (d := .str signsS) ed_str (fun v1 H1 x1 h1 => ?_)
    cases dp_str.mp h1
    have i1 := Int.emod_nonneg other (show (19 : Int) ≠ 0 by decide)
    have i2 := Int.emod_lt_of_pos other (show (0 : Int) < 19 by decide)
    have sl19 : (sg signsS).length = 19 := by rw [sg_len, sg1]
    have lt : (other % 19).toNat < (sg signsS).length := by omega
    have g : (sg signsS)[(other % 19).toNat]? = some (sg signsS)[(other % 19).toNat] := List.getElem?_eq_getElem lt
    have cl := lowG _ (List.getElem_mem lt)
    generalize (sg signsS)[(other % 19).toNat] = ch at g cl
    have ai : atI (sg signsS) (other % 19) = some ch := by
      rw [show other % 19 = (((other % 19).toNat : Nat) : Int) by omega]
      exact atI_nat g
    have chl : (⟨#[ch]⟩ : Str).length ≤ 1 := Nat.le_refl 1
    have chw : lowS ⟨#[ch]⟩ := fun d hd => by
      have : d ∈ [ch] := hd
      rw [List.mem_singleton.mp this]
      exact cl
    refine w_asg (K := K) (d := .str ⟨#[ch]⟩) (ed_op (d := .str signsS) (e := .int (other % 19)) (ed_var rfl (.str _)) (ed_op (ed_var rfl (.int _)) ed_int (rd_I (show (0 : Int) < 19 by decide) fun _ => .int _)) (rd_ixS (by rw [sg1]; decide) ai)) (fun v2 H2 x2 h2 => ?_)
    cases dp_str.mp h2
    refine w_asg (K := K) (d := .int (cell % ((x.length : Int) + 1))) (ed_op (d := .int cell) (e := .int ((x.length : Int) + 1)) (ed_var rfl (.int _)) (ed_op (d := .int (x.length : Nat)) (e := .int 1) (ed_cb (eds_cons (ed_var rfl (.str _)) eds_nil) (cd_lenS (by omega))) ed_int (rd_I0 fun _ => .int _)) (rd_I (show (0 : Int) < (x.length : Int) + 1 by omega) fun _ => .int _)) (fun v3 H3 x3 h3 => ?_)
    cases dp_int.mp h3
    generalize cell % ((x.length : Int) + 1) = p
    refine w_asgN (K := K) (ds := (Txt.split x "\n").map .str) (en_split (ed_var rfl (.str _)) ed_str (by decide +kernel) (by omega)) (fun v4 H4 x4 h4 => ?_)
    have hd4 := h4.dp
    obtain ⟨s1, s2, s3⟩ := split_nl_len x
    have L0 : Lns 6001 (Txt.split x "\n") := ⟨by rw [split_tot]; omega, fun y hy c hc => hlow c ((s3 y hy).2 c hc)⟩
    generalize Txt.split x "\n" = ls at hd4 L0 s2
    have lnE : EvD K (tCB (rLenQ K) (tCons (tVar 7) tNil)) [some (.str x), some (.int way), some (.int cell), some (.int other), some (.str signsS), some (.str ⟨#[ch]⟩), some (.int p), some v4, none, none] H4 (.int (ls.length : Nat)) := EvD.cast (ed_cb (eds_cons (d := .list (ls.map .str)) (ed_var rfl hd4) eds_nil) cd_lenL) (by rw [List.length_map])
    refine w_asg (K := K) (d := .int (cell % (ls.length : Int))) (ed_op (d := .int cell) (e := .int (ls.length : Int)) (ed_var rfl (.int _)) lnE (rd_I (show (0 : Int) < (ls.length : Int) by omega) fun _ => .int _)) (fun v5 H5 x5 h5 => ?_)
    cases dp_int.mp h5
    have j1 := Int.emod_nonneg cell (show (ls.length : Int) ≠ 0 by omega)
    have j2 := Int.emod_lt_of_pos cell (show (0 : Int) < (ls.length : Int) by omega)
    obtain ⟨q, hq, hql⟩ : ∃ q : Nat, cell % (ls.length : Int) = (q : Int) ∧ q < ls.length := ⟨(cell % (ls.length : Int)).toNat, by omega, by omega⟩
    rw [hq]
    clear hq j1 j2
    have hd5 := dp_mono x5 _ _ hd4
    have x05 : Ex H H5 := ((x1.trans x2).trans x3).trans (x4.trans x5)
    show tSeq _ _ _ ([some (.str x), some (.int way), some (.int cell), some (.int other), some (.str signsS), some (.str ⟨#[ch]⟩), some (.int p), some v4, some (.int (q : Int)), none] : L2.St) H5
    generalize hσ : ([some (.str x), some (.int way), some (.int cell), some (.int other), some (.str signsS), some (.str ⟨#[ch]⟩), some (.int p), some v4, some (.int (q : Int)), none] : L2.St) = σ0
    have e0 : σ0[0]? = some (some (.str x)) := by rw [← hσ]; rfl
    have e1 : σ0[1]? = some (some (.int way)) := by rw [← hσ]; rfl
    have e5 : σ0[5]? = some (some (.str ⟨#[ch]⟩)) := by rw [← hσ]; rfl
    have e6 : σ0[6]? = some (some (.int p)) := by rw [← hσ]; rfl
    have wE : ∀ (i : Int) H', EvB K (tTest (tOp rEq (tVar 1) (tC (.int i)))) σ0 H' (decide (way = i)) := fun i H' => eb_d (ed_op (ed_var e1 (.int _)) ed_int rd_eqI)
    have pE : ∀ H', EvD K (tVar 6) σ0 H' (.int p) := fun H' => ed_var e6 (.int _)
    have pE1 : ∀ H', EvD K (tOp (rI0 fun i j => .int (i + j)) (tVar 6) (tC (.int 1))) σ0 H' (.int (p + 1)) := fun H' => ed_op (pE H') ed_int (rd_I0 (g := fun i j => .int (i + j)) fun _ => .int _)
    have ret : ∀ {te : TE} {y : Str} {N : Nat} {H' : Hp} {D : Ends}, EvLo K te σ0 H' y N → N ≤ 50000 → Ex H5 H' → (∀ v H2, D.rt v H2 = Q v H2) → tRet te D σ0 H' := fun {te y N H' D} h1 h2 h3 h4 => w_ret1 (K := K) h1.d fun v9 H9 x9 h9 => by
      cases dp_str.mp h9
      rw [h4]
      exact k y (Nat.le_trans h1.l h2) h1.o H9 ((x05.trans h3).trans x9)
    have s0 : ∀ H', EvLo K (tSl rSlS (tVar 0) tNoPart (tPart (tVar 6))) σ0 H' (cutS x none (some p)) 6000 := fun H' => lo_sl e0 hl hlow (by decide) eo_none (eo_some (pE H'))
    have s00 : ∀ H', EvLo K (tSl rSlS (tVar 0) (tPart (tVar 6)) tNoPart) σ0 H' (cutS x (some p) none) 6000 := fun H' => lo_sl e0 hl hlow (by decide) (eo_some (pE H')) eo_none
    have s11 : ∀ H', EvLo K (tSl rSlS (tVar 0) (tPart (tOp (rI0 fun i j => .int (i + j)) (tVar 6) (tC (.int 1)))) tNoPart) σ0 H' (cutS x (some (p + 1)) none) 6000 := fun H' => lo_sl e0 hl hlow (by decide) (eo_some (pE1 H')) eo_none
    have sc : ∀ H', EvLo K (tVar 5) σ0 H' ⟨#[ch]⟩ 1 := fun H' => lo_var e5 chl chw
    refine w_when K (wE 1 H5) (fun hb H6 x6 => ?_) (fun hb H6 x6 => ?_)
    · exact ret (lo_add (lo_add (s0 H6) (sc H6) (by decide)) (s00 H6) (by decide)) (by decide) x6 (fun _ _ => rfl)
    refine w_when K (wE 2 H6) (fun hb2 H7 x7 => ?_) (fun hb2 H7 x7 => ?_)
    · exact ret (lo_add (lo_add (s0 H7) (sc H7) (by decide)) (s11 H7) (by decide)) (by decide) (x6.trans x7) (fun _ _ => rfl)
    refine w_when K (wE 3 H7) (fun hb3 H8 x8 => ?_) (fun hb3 H8 x8 => ?_)
    · exact ret (lo_add (s0 H8) (s11 H8) (by decide)) (by decide) ((x6.trans x7).trans x8) (fun _ _ => rfl)
    have x58 := (x6.trans x7).trans x8
    subst hσ
    clear ret s0 s00 s11 sc pE pE1 wE e0 e1 e5 e6
    have hd8 := dp_mono x58 _ _ hd5
    have x08 := x05.trans x58
    clear x58 x05 hd4 hd5 lnE h4 x1 x2 x3 x4 x5 x6 x7 x8 hb hb2 hb3
    have part : ∀ (σ' : L2.St) (H' : Hp) (u : V) (M : List Str) {to th : TO} {lo hi : Option Int} (es : List Str), σ'[7]? = some (some u) → Dp K H' u (.list (M.map .str)) → EvO K to σ' H' lo → EvO K th σ' H' hi → cutD (M.map .str) lo hi = es.map .str → EvN K (tSl (rSlL K) (tVar 7) to th) σ' H' (es.map .str) := fun σ' H' u M to th lo hi es h1 h2 h3 h4 h5 => EvN.cast (en_slL (ed_var h1 h2) h3 h4) h5
    have spE : ∀ (σ' : L2.St) H', σ'[8]? = some (some (.int (q : Int))) → EvD K (tVar 8) σ' H' (.int (q : Int)) := fun σ' H' h => ed_var h (.int _)
    have spJ : ∀ (σ' : L2.St) H' (j : Nat), σ'[8]? = some (some (.int (q : Int))) → EvD K (tOp (rI0 fun i j => .int (i + j)) (tVar 8) (tC (.int (j : Int)))) σ' H' (.int ((q + j : Nat) : Int)) := fun σ' H' j h => EvD.cast (ed_op (spE σ' H' h) ed_int (rd_I0 (g := fun i j => .int (i + j)) fun _ => .int _)) (by rw [Int.natCast_add])
    refine w_join (fun σ' H' => ∃ u M, σ' = [some (.str x), some (.int way), some (.int cell), some (.int other), some (.str signsS), some (.str ⟨#[ch]⟩), some (.int p), some u, some (.int (q : Int)), none] ∧ Ex H H' ∧ Dp K H' u (.list (M.map .str)) ∧ Lns 6001 M ∧ (way = 5 → q < M.length)) ?go (fun go => ?main)
    case main =>
      refine w_when K (b := decide (way = 4)) (eb_d (ed_op (ed_var rfl (.int _)) ed_int rd_eqI)) (fun hb H9 x9 => ?_) (fun hb H9 x9 => ?_)
      · have h9 := dp_mono x9 _ _ hd8
        have w4 : way = 4 := of_decide_eq_true hb
        refine w_asgN (K := K) (ds := (ls.take q ++ ls.drop (q + 1)).map .str) (EvN.cast (en_cat2 (part _ _ v4 ls (ls.take q) rfl h9 eo_none (eo_some (spE _ _ rfl)) (by rw [cutD_to, List.map_take])) (part _ _ v4 ls (ls.drop (q + 1)) rfl h9 (eo_some (spJ _ _ 1 rfl)) eo_none (by rw [cutD_from, List.map_drop])) (by have := L0.len; rw [List.length_map, List.length_map, List.length_take, List.length_drop]; omega)) (by rw [List.map_append])) (fun v10 H10 x10 h10 => ?_)
        refine go _ _ ⟨v10, _, rfl, (x08.trans x9).trans x10, h10.dp, ⟨?_, fun y hy => ?_⟩, fun c => by omega⟩
        · have a1 := tot_split ls q
          have a2 := mid1 ls q
          have a3 := L0.t
          rw [tot_app]
          omega
        · rcases List.mem_append.mp hy with hy | hy
          · exact L0.l y (List.mem_of_mem_take hy)
          · exact L0.l y (List.mem_of_mem_drop hy)
      · exact go _ _ ⟨v4, ls, rfl, x08.trans x9, dp_mono x9 _ _ hd8, L0, fun _ => hql⟩
    case go =>
    rintro σ' H9 ⟨u, M, rfl, x09, hu, L1, hqM⟩
    clear hd8 L0 hql s1 s2 s3
    refine w_join (fun σ' H' => ∃ u M, σ' = [some (.str x), some (.int way), some (.int cell), some (.int other), some (.str signsS), some (.str ⟨#[ch]⟩), some (.int p), some u, some (.int (q : Int)), none] ∧ Ex H H' ∧ Dp K H' u (.list (M.map .str)) ∧ Lns 12002 M) ?go (fun go => ?main)
    case main =>
      refine w_when K (b := decide (way = 5)) (eb_d (ed_op (ed_var rfl (.int _)) ed_int rd_eqI)) (fun hb H10 x10 => ?_) (fun hb H10 x10 => ?_)
      · have h9 := dp_mono x10 _ _ hu
        have lt := hqM (of_decide_eq_true hb)
        have gy : M[q]? = some M[q] := List.getElem?_eq_getElem lt
        have my := List.getElem_mem lt
        have dc := List.drop_eq_getElem_cons lt
        generalize M[q] = y at gy my dc
        refine w_asgN (K := K) (ds := ((M.take q ++ [y]) ++ M.drop q).map .str) (EvN.cast (en_cat2 (en_cat2 (part _ _ u M (M.take q) rfl h9 eo_none (eo_some (spE _ _ rfl)) (by rw [cutD_to, List.map_take])) (en_lst (ds := [.str y]) (eds_cons (ed_op (d := .list (M.map .str)) (e := .int (q : Int)) (ed_var rfl h9) (spE _ _ rfl) (rd_ixL (atI_nat (by rw [List.getElem?_map, gy]; rfl)))) eds_nil) (show 1 ≤ 100000 by decide)) (by have := L1.len; rw [List.length_map, List.length_take, List.length_singleton]; omega)) (part _ _ u M (M.drop q) rfl h9 (eo_some (spE _ _ rfl)) eo_none (by rw [cutD_from, List.map_drop])) (by have := L1.len; rw [List.length_append, List.length_map, List.length_map, List.length_take, List.length_drop, List.length_singleton]; omega)) (by rw [List.map_append, List.map_append]; rfl)) (fun v10 H11 x11 h11 => ?_)
        refine go _ _ ⟨v10, _, rfl, (x09.trans x10).trans x11, h11.dp, ⟨?_, fun z hz => ?_⟩⟩
        · have a1 := tot_split M q
          have a2 : tot (M.drop q) = (y.length + 1) + tot (M.drop (q + 1)) := by rw [dc, tot_cons]
          have a3 := L1.t
          have a4 : tot [y] = y.length + 1 := by rw [tot_cons]; rfl
          rw [tot_app, tot_app, a4]
          omega
        · rcases List.mem_append.mp hz with hz | hz
          · rcases List.mem_append.mp hz with hz | hz
            · exact L1.l z (List.mem_of_mem_take hz)
            · rw [List.mem_singleton.mp hz]; exact L1.l y my
          · exact L1.l z (List.mem_of_mem_drop hz)
      · exact go _ _ ⟨u, M, rfl, x09.trans x10, dp_mono x10 _ _ hu, ⟨by have := L1.t; omega, L1.l⟩⟩
    case go =>
    rintro σ' H10 ⟨u2, M2, rfl, x010, hu2, L2⟩
    clear hu L1 hqM
    refine w_join (fun σ' H' => ∃ u M z, σ' = [some (.str x), some (.int way), some (.int cell), some (.int other), some (.str signsS), some (.str ⟨#[ch]⟩), some (.int p), some u, some (.int (q : Int)), z] ∧ Ex H H' ∧ Dp K H' u (.list (M.map .str)) ∧ Lns 12002 M) ?go (fun go => ?main)
    case main =>
      refine w_when K (b := decide (way = 6)) (eb_d (ed_op (ed_var rfl (.int _)) ed_int rd_eqI)) (fun hb H11 x11 => ?_) (fun hb H11 x11 => ?_)
      · have h9 := dp_mono x11 _ _ hu2
        have ml := L2.len
        show tSeq _ _ _ _ _
        refine w_asgN (K := K) (ds := (M2.take q ++ (M2.drop (q + 1)).take 1).map .str) (EvN.cast (en_cat2 (part _ _ u2 M2 (M2.take q) rfl h9 eo_none (eo_some (spE _ _ rfl)) (by rw [cutD_to, List.map_take])) (part _ _ u2 M2 ((M2.drop (q + 1)).take 1) rfl h9 (eo_some (spJ _ _ 1 rfl)) (eo_some (spJ _ _ 2 rfl)) (by rw [cutD_mid, show q + 2 - (q + 1) = 1 by omega, List.map_take, List.map_drop])) (by rw [List.length_map, List.length_map, List.length_take, List.length_take, List.length_drop]; omega)) (by rw [List.map_append])) (fun v12 H12 x12 h12 => ?_)
        have h10 := dp_mono x12 _ _ h9
        show tAsg _ _ _ _ _
        have fin : EvN K (tOp rCat (tOp rCat (tVar 9) (tSl (rSlL K) (tVar 7) (tPart (tVar 8)) (tPart (tOp (rI0 fun i j => .int (i + j)) (tVar 8) (tC (.int 1)))))) (tSl (rSlL K) (tVar 7) (tPart (tOp (rI0 fun i j => .int (i + j)) (tVar 8) (tC (.int 2)))) tNoPart)) [some (.str x), some (.int way), some (.int cell), some (.int other), some (.str signsS), some (.str ⟨#[ch]⟩), some (.int p), some u2, some (.int (q : Int)), some v12] H12 (((M2.take q ++ (M2.drop (q + 1)).take 1) ++ (M2.drop q).take 1 ++ M2.drop (q + 2)).map .str) :=
          EvN.cast (en_cat2 (en_cat (i := 9) rfl h12 (part _ _ u2 M2 ((M2.drop q).take 1) rfl h10 (eo_some (spE _ _ rfl)) (eo_some (spJ _ _ 1 rfl)) (by rw [cutD_mid, show q + 1 - q = 1 by omega, List.map_take, List.map_drop])) (by rw [List.length_map, List.length_map, List.length_append, List.length_take, List.length_take, List.length_take, List.length_drop, List.length_drop]; omega)) (part _ _ u2 M2 (M2.drop (q + 2)) rfl h10 (eo_some (spJ _ _ 2 rfl)) eo_none (by rw [cutD_from, List.map_drop])) (by rw [List.length_append, List.length_map, List.length_map, List.length_map, List.length_append, List.length_take, List.length_take, List.length_take, List.length_drop, List.length_drop, List.length_drop]; omega)) (by simp only [List.map_append])
        refine fin H12 (Evl.Ex.refl H12) _ fun v13 H13 x13 h13 => ?_
        refine go _ _ ⟨v13, _, some v12, rfl, ((x010.trans x11).trans x12).trans x13, h13.dp, ⟨?_, fun z hz => ?_⟩⟩
        · have a1 := tot_split M2 q
          have a2 := mid1 M2 q
          have a3 := mid1 M2 (q + 1)
          rw [show q + 1 + 1 = q + 2 from rfl] at a3
          have a4 := L2.t
          rw [tot_app, tot_app, tot_app]
          omega
        · rcases List.mem_append.mp hz with hz | hz
          · rcases List.mem_append.mp hz with hz | hz
            · rcases List.mem_append.mp hz with hz | hz
              · exact L2.l z (List.mem_of_mem_take hz)
              · exact L2.l z (List.mem_of_mem_drop (List.mem_of_mem_take hz))
            · exact L2.l z (List.mem_of_mem_drop (List.mem_of_mem_take hz))
          · exact L2.l z (List.mem_of_mem_drop hz)
      · exact go _ _ ⟨u2, M2, none, rfl, x010.trans x11, dp_mono x11 _ _ hu2, L2⟩
    case go =>
    rintro σ' H11 ⟨u3, M3, z, rfl, x011, hu3, L3⟩
    have nl1 : ("\n" : Str).length = 1 := by decide +kernel
    refine w_ret1 (K := K) (d := .str (Txt.join "\n" M3)) (ed_join (ys := M3) ed_str (ed_var rfl hu3) (by have := tot_eq M3; have := L3.t; rw [nl1]; omega)) fun v9 H12 x12 h12 => ?_
    cases dp_str.mp h12
    exact k _ (by have := join_len M3; have := L3.t; omega) (join_low L3.l) H12 (x011.trans x12)
end

end Fy

namespace Fy
open PySem PySem.Spec PyProof.Rows L2
end Fy
local macro_rules | `(tactic| walk_at "na") => `(tactic| first | assumption | (refine Fy.NightAt.mono ?_ (by assumption); walk_at "ex"))
local macro_rules | `(tactic| walk_at "ed") => `(tactic| ((with_reducible refine' Fy.i_Things ?hh); (case hh => exact Fy.EvN.toD (Fy.en_things rfl (by walk_at "na")))))
local macro_rules | `(tactic| walk_at "ed") => `(tactic| ((with_reducible refine' Fy.i_Quarrels ?hh); (case hh => exact Fy.EvN.toD (Fy.en_quarrels rfl (by walk_at "na")))))
local macro_rules | `(tactic| walk_at "ed") => `(tactic| ((with_reducible refine' Fy.i_Room ?hh); (case hh => exact Fy.ed_room rfl (by walk_at "na"))))
local macro_rules | `(tactic| walk_at "ed") => `(tactic| ((with_reducible refine' Fy.i_Begins ?hh); (case hh => exact Fy.ed_begins rfl (by walk_at "na") (by walk_at "side"))))
local macro_rules | `(tactic| walk_at "ed") => `(tactic| ((with_reducible refine' Fy.i_Ends ?hh); (case hh => exact Fy.ed_ends rfl (by walk_at "na"))))
local macro_rules | `(tactic| walk_at "ed") => `(tactic| ((with_reducible refine' Fy.i_Peace ?hh); (case hh => exact Fy.ed_npeace rfl (by walk_at "na") (by walk_at "ed"))))
local macro_rules | `(tactic| walk_at "ed") => `(tactic| ((with_reducible refine' Fy.i_Over ?hh); (case hh => exact Fy.ed_nover rfl (by walk_at "na") (by walk_at "side") (by walk_at "ed"))))
local macro_rules | `(tactic| walk_at "ed") => `(tactic| ((with_reducible refine' Fy.i_TupRg ?hh); (case hh => exact Fy.ed_tupRg (by walk_at "ed") (by walk_at "side"))))


namespace Fy
open PySem PySem.Spec PyProof.Rows L2
/-! ### texts read: the law -/
def spLaw (K : PySem.W.Frag) : Sp := fun vs H Q _ => ∃ (a : Addr) (ns : List Int), vs = [.ref a] ∧ SqL K H a (ns.map V.int) ∧ ns.length ≤ 63 ∧ ∀ H', Q (.bl true) H'
theorem joinL_nil : ∀ ls : List (List Nat), TL.joinL [] ls = ls.flatMap id
  | [] => rfl
  | [a] => by show a = _; simp
  | a :: b :: r => by
    show a ++ ([] ++ TL.joinL [] (b :: r)) = _
    rw [joinL_nil (b :: r), List.flatMap_cons (x := a), List.nil_append]
    rfl
theorem join_lines (ls : List Str) : Txt.join "" (ls.map fun l => l ++ "\n") = txt ls := sg_inj (by
  rw [sg_join, sg_empty, joinL_nil, sg_txt, List.map_map]
  induction ls with
  | nil => rfl
  | cons a r ih =>
    rw [List.map_cons, List.flatMap_cons, List.map_cons, List.flatMap_cons, ih]
    show sg (a ++ "\n") ++ _ = _
    rw [sg_app, sg_nl])
theorem sumL_le {N : Nat} : ∀ {ls : List Str}, (∀ l ∈ ls, l.length ≤ N) → (ls.map (·.length)).sum ≤ N * ls.length
  | [], _ => Nat.le_refl _
  | l :: r, h => by
    have a := sumL_le (ls := r) fun z hz => h z (List.mem_cons_of_mem _ hz)
    have b := h l List.mem_cons_self
    rw [List.map_cons, List.sum_cons, List.length_cons, Nat.mul_succ]
    omega
theorem text_low {n : Nt} (ok : n.ok = true) : lowS (textOf n) := by
  rw [txt_text]
  exact low_txt (low_lines (noteOk_of ok))
theorem sh_due (o : Option Nt) : SeqAt.shaped (dueD o) = true := by
  cases o with
  | none => decide +kernel
  | some n =>
    refine sh_of ?_ ?_
    · simp [dueD, eNt, PyData.canLay0, PyData.canLayAll0, lays_map lay_eT, lays_map lay_eQ]
    · have a := deps_map (f := eT) (n := 1) dep_eT n.things
      have b := deps_map (f := eQ) (n := 1) dep_eQ n.quarrels
      simp only [dueD, eNt, PyData.depth, PyData.depthAll]
      omega
theorem eqv_due (o : Option Nt) : PyData.eqv (dueD o) (dueD o) = true := by
  cases o with
  | none => decide +kernel
  | some n =>
    have a := eqv_lst eqv_eT n.things n.things
    have b := eqv_lst eqv_eQ n.quarrels n.quarrels
    rw [decide_eq_true rfl] at a b
    simp only [dueD, eNt, PyData.eqv, PyData.eqvAll] at a b ⊢
    rw [a, b]
    simp
section
variable {K : PySem.W.Frag} {σ : L2.St} {H : Hp} {D : Ends} {tz : TS} {i j : Nat} {n : Nt} {v : V} {tr : TA} {te : TE} {x : Str}
theorem en_lines (hi : σ[i]? = some (some v)) (hv : Dp K H v (eNt n)) (ok : n.ok = true) : EvN K (tCall (spLines K) [] E0 (tCons (tVar i) tNil)) σ H ((noteL n).map .str) := fun H1 x Q q =>
  ⟨v, hi, v, n, rfl, dp_mono x _ _ hv, ok, fun u H2 x2 h => q u H2 x2 h⟩
theorem w_asgSpoil {way c o : Int} (h : EvDs K tr σ H [.str x, .int way, .int c, .int o]) (hl : x.length ≤ 6000) (hw : lowS x) (k : ∀ y H1, Ex H H1 → y.length ≤ 50000 → lowS y → tz D (σ.set i (some (.str y))) H1) : tSeq (tAsg (tCall (spSpoil K) [] E0 tr) (gName i)) tz D σ H :=
  h H (Evl.Ex.refl H) _ fun vs H2 x2 hvs => by
    cases hvs with
    | cons a1 b1 => cases b1 with
      | cons a2 b2 => cases b2 with
        | cons a3 b3 => cases b3 with
          | cons a4 b4 =>
            cases b4
            cases dp_str.mp a1
            cases dp_int.mp a2
            cases dp_int.mp a3
            cases dp_int.mp a4
            exact ⟨x, way, c, o, rfl, hl, hw, fun y h1 h2 H3 x3 => k y H3 (x2.trans x3) h1 h2⟩
theorem w_asgOdd {c : Int} (h : EvDs K tr σ H [.int c]) (k : ∀ y H1, Ex H H1 → y.length ≤ 50000 → lowS y → D.nx (σ.set i (some (.str y))) H1) : tAsg (tCall (spOdd K) [] E0 tr) (gName i) D σ H :=
  h H (Evl.Ex.refl H) _ fun vs H2 x2 hvs => by
    obtain ⟨v, rfl, a1⟩ := dpa1 hvs
    cases dp_int.mp a1
    exact ⟨c, rfl, fun y h1 h2 H3 x3 => k y H3 (x2.trans x3) h1 h2⟩
theorem ed_due (hi : σ[i]? = some (some (.str x))) (hl : x.length ≤ 50000) (ok : PyData.strOk x = true) : EvD K (tCall (spLDue K) [] E0 (tCons (tVar i) tNil)) σ H (eO eNt (noteOf (linesW x))) := fun H1 x1 Q q =>
  ⟨_, hi, x, rfl, hl, ok, fun u H2 x2 h => q u H2 x2 (by rw [← due_eq]; exact h)⟩
theorem ed_told9 (hi : σ[i]? = some (some (.str x))) (hl : x.length ≤ 50000) (ok : PyData.strOk x = true) : EvD K (tCall (spTold9 K) [] E0 (tCons (tVar i) tNil)) σ H (dueD (noteOf (linesW x))) := fun H1 x1 Q q =>
  ⟨_, hi, x, rfl, hl, ok, fun u H2 x2 h => q u H2 x2 h⟩
theorem ed_isNone {o : Option Nt} (h : EvD K te σ H (eO eNt o)) : EvD K (tOp (fun x y H Q => y = .non ∧ Q (.bl (decide (x = .non))) H) te (tC .non)) σ H (.bool o.isNone) := fun H1 e Q q => h H1 e _ fun v H2 x2 h2 => by
  refine ⟨rfl, ?_⟩
  have z : decide (v = V.non) = o.isNone := by
    cases o with
    | none => rw [dp_non.mp h2]; rfl
    | some n =>
      obtain ⟨a, xs, rfl, _, _⟩ := dp_tup.mp (show Dp K H2 v (.tuple [.list (n.things.map eT), .int n.room, .list (n.quarrels.map eQ)]) from h2)
      rfl
  rw [z]
  exact q _ H2 x2 (.bl _)
end
section
variable {P : Program} {w : World} {K : PySem.W.Frag} {mg : Str → Option Value} {base : Heap}
theorem sc_law : FnScope ["script", "night", "text", "way", "due", "line"] ["script"] (defScope s_law) := ⟨rfl, rfl, rfl, by decide +kernel, rfl, by decide +kernel, by decide +kernel⟩
theorem ok_law {f : Addr} {fd : FuncData} (T : Tx K mg) (F : FunD K "law" "law" (defArgs s_law) (defBody s_law) (defScope s_law) [] [] f fd) : FnOk P w K mg base CX0 7 f fd ["script"] (spLaw K) := by
  have G__law_told := ok__law_told (P := P) (w := w) (base := base) T
  have G__law_due := ok__law_due (P := P) (w := w) (base := base) T
  have G__law_cell_at := ok__law_cell_at (P := P) (w := w) (base := base) T
  have G__law_odd := ok__law_odd (P := P) (w := w) (base := base) T
  have G__law_spoiled := ok__law_spoiled (P := P) (w := w) (base := base) T
  have G__law_lines := ok__law_lines (P := P) (w := w) (base := base) T
  have G__law_night := ok__law_night (P := P) (w := w) (base := base) T
  refine F.ok sc_law (fun vs H Q E h => ?_) (fun cdv A outer s H vs Q E hr h => ⟨_, PSs.nox (pss_cons (ps_set (i := 1) sc_law.nd rfl (.inl rfl) (pe_f G__law_night (hr.mono (by decide)) rfl (pa_cons (pv 0) (pa_cons pe_int pa_nil))))
      (pss_cons (ps_set (i := 2) sc_law.nd rfl (.inl rfl) (pe_join pe_str (pe_lc (own := [("line", 5)]) (g := gName 5) (by rfl) sc_law.nd (pi_list (pe_f G__law_lines (hr.mono (by decide)) rfl (pa_cons (pv 1) pa_nil))) (blkOk_by (N := ["script", "night", "text", "way", "due", "line"]) (sc := defScope s_law) (by decide +kernel)) (fun _ _ _ _ _ => pg_name (i := 5) sc_law.nd rfl (.inl rfl)) (fun _ _ _ _ _ => pts_nil) (fun _ _ _ _ _ => (pe_op (r := rAddS) op_add_str (pv 5) pe_str)))))
      (pss_cons (ps_set (i := 3) sc_law.nd rfl (.inl rfl) (pe_op op_mod (pe_f G__law_cell_at (hr.mono (by decide)) rfl (pa_cons (pv 0) (pa_cons pe_int pa_nil))) pe_int))
      (pss_cons (ps_set (i := 2) sc_law.nd rfl (.inl rfl) (pe_f G__law_spoiled (hr.mono (by decide)) rfl (pa_cons (pv 2) (pa_cons (pv 3) (pa_cons (pe_f G__law_cell_at (hr.mono (by decide)) rfl (pa_cons (pv 0) (pa_cons pe_int pa_nil))) (pa_cons (pe_f G__law_cell_at (hr.mono (by decide)) rfl (pa_cons (pv 0) (pa_cons pe_int pa_nil))) pa_nil))))))
      (pss_cons (ps_if (pt_cmpR op_eq (pe_op op_mod (pe_op op_fdiv (pe_f G__law_cell_at (hr.mono (by decide)) rfl (pa_cons (pv 0) (pa_cons pe_int pa_nil))) pe_int) pe_int) pe_int (nomark _)) (pss_one (ps_set (i := 2) sc_law.nd rfl (.inl rfl) (pe_f G__law_odd (hr.mono (by decide)) rfl (pa_cons (pe_f G__law_cell_at (hr.mono (by decide)) rfl (pa_cons (pv 0) (pa_cons pe_int pa_nil))) pa_nil)))) pss_nil)
      (pss_cons (ps_set (i := 4) sc_law.nd rfl (.inl rfl) (pe_f G__law_due (hr.mono (by decide)) rfl (pa_cons (pv 2) pa_nil)))
      (pss_cons (ps_if (pt_cmpR op_isN (pv 4) pe_non (nomark _)) (pss_one (ps_set (i := 4) sc_law.nd rfl (.inl rfl) (pe_tup (pa_cons pe_str (pa_cons pe_bl pa_nil))))) pss_nil)
      (pss_one (ps_ret (pe_and (pe_cmpR (r := rEqD K) (op_eqD hr.units) (pe_f G__law_told (hr.mono (by decide)) rfl (pa_cons (pv 2) pa_nil)) (pv 4) (nomark _)) (pe_one (pe_cmpR (r := rEqD K) (op_eqD hr.units) (pe_f G__law_told (hr.mono (by decide)) rfl (pa_cons (pv 2) pa_nil)) (pv 4) (nomark _))))))))))))), ?_⟩)
  · obtain ⟨a, ns, rfl, _⟩ := h
    rfl
  · obtain ⟨a, ns, rfl, hS, hl, q⟩ := h
    have hv : Dp K H (.ref a) (eScript ns) := dp_lst.mpr ⟨a, _, rfl, hS, dpa_ints.mpr rfl⟩
    have cE : ∀ (σ' : L2.St) H' (k : Nat), σ'[0]? = some (some (.ref a)) → Ex H H' → EvD K (tCall (spCell K) [] E0 (tCons (tVar 0) (tCons (tC (.int (k : Int))) tNil))) σ' H' (.int (cell ns k)) := fun σ' H' k h x => ed_cell (ed_var h (dp_mono x _ _ hv)) ed_int ⟨by omega, hl⟩
    refine' w_asgNt (K := K) ns 5 ⟨by decide, by decide, hl⟩ ?t (fun v1 H1 x1 N1 => ?_)
    case t => walk_at "eds"
    have ok0 : (lawNight ns 5).ok = true := lawNight_ok ns 5 (by decide) (by decide)
    generalize lawNight ns 5 = n at N1 ok0
    have no := noteOk_of ok0
    have oc := ok_counts ok0
    have lns := lines_90 no
    have nl := noteL_len n
    have l1 : ("\n" : Str).length = 1 := by decide +kernel
    have l0 : ("" : Str).length = 0 := by decide +kernel
    refine w_asg (K := K) (d := .str (textOf n)) (EvD.cast (ed_join (x := "") (ys := (noteL n).map fun l => l ++ "\n") ed_str (EvN.cast (en_mapL .str (xs := noteL n) (fun l => .str (l ++ "\n")) (fun _ => rfl) (en_lines rfl N1.dp ok0).toD (by omega) (fun _ => rfl) (fun i b v H3 hb x3 hv => ed_op (ed_var rfl hv) ed_str (rd_addS (by have := lns b (List.mem_of_getElem? hb); omega)))) (by rw [List.map_map]; rfl)).toD ?lim) (by rw [join_lines, txt_text])) (fun v2 H2 x2 h2 => ?_)
    case lim =>
      have := sumL_le (N := 91) (ls := (noteL n).map fun l => l ++ "\n") (fun l hl => by
        obtain ⟨z, hz, rfl⟩ := List.mem_map.mp hl
        have := lns z hz
        rw [len_app]
        omega)
      rw [l0, List.length_map] at *
      omega
    cases dp_str.mp h2
    refine w_asg (K := K) (d := .int (cell ns 16 % 9)) (ed_op (cE _ _ 16 rfl (x1.trans x2)) ed_int (rd_I (show (0 : Int) < 9 by decide) fun _ => .int _)) (fun v3 H3 x3 h3 => ?_)
    cases dp_int.mp h3
    have x03 := (x1.trans x2).trans x3
    refine w_asgSpoil (K := K) (eds_cons (ed_var rfl (.str _)) (eds_cons (ed_var rfl (.int _)) (eds_cons (cE _ _ 17 rfl x03) (eds_cons (cE _ _ 18 rfl x03) eds_nil)))) (Nat.le_trans (text_len ok0) (by decide)) (text_low ok0) (fun y H4 x4 yl yw => ?_)
    have x04 := x03.trans x4
    refine w_join (fun σ' H' => ∃ y : Str, σ' = [some (.ref a), some v1, some (.str y), some (.int (cell ns 16 % 9)), none, none] ∧ y.length ≤ 50000 ∧ lowS y) ?go (fun go => ?main)
    case main =>
      refine w_when K (b := decide (cell ns 16 / 9 % 8 = 1)) (eb_d (ed_op (d := .int (cell ns 16 / 9 % 8)) (e := .int 1) (ed_op (ed_op (cE _ _ 16 rfl x04) ed_int (rd_I (show CDiv (cell ns 16) 9 from ⟨by decide, by decide⟩) fun _ => .int _)) ed_int (rd_I (show (0 : Int) < 8 by decide) fun _ => .int _)) ed_int rd_eqI)) (fun hb H5 x5 => ?_) (fun hb H5 x5 => ?_)
      · show tAsg _ _ _ _ _
        exact w_asgOdd (K := K) (eds_cons (cE _ _ 19 rfl (x04.trans x5)) eds_nil) (fun y2 H6 x6 y2l y2w => go _ _ ⟨y2, rfl, y2l, y2w⟩)
      · exact go _ _ ⟨y, rfl, yl, yw⟩
    case go =>
    rintro σ' H5 ⟨z, rfl, zl, zw⟩
    have zo := low_ok zw
    refine w_asg (K := K) (d := eO eNt (noteOf (linesW z))) (ed_due rfl zl zo) (fun v6 H6 x6 h6 => ?_)
    refine w_join (fun σ' H' => ∃ u, σ' = [some (.ref a), some v1, some (.str z), some (.int (cell ns 16 % 9)), some u, none] ∧ Dp K H' u (dueD (noteOf (linesW z)))) ?go2 (fun go => ?main2)
    case main2 =>
      refine w_when K (b := (noteOf (linesW z)).isNone) (eb_d (ed_isNone (ed_var rfl h6))) (fun hb H7 x7 => ?_) (fun hb H7 x7 => ?_)
      · show tAsg _ _ _ _ _
        refine w_asg1 (K := K) (d := .tuple [.str "refused", .bool true]) (ed_tup (ds := [.str "refused", .bool true]) (eds_cons ed_str (eds_cons ed_bl eds_nil)) (show 2 ≤ 100000 by decide)) (fun v8 H8 x8 h8 => go _ _ ⟨v8, rfl, ?_⟩)
        rw [Option.isNone_iff_eq_none.mp hb]
        exact h8
      · refine go _ _ ⟨v6, rfl, ?_⟩
        have h7 := dp_mono x7 _ _ h6
        cases e : noteOf (linesW z) with
        | none => rw [e] at hb; cases hb
        | some m => rw [e] at h7; exact h7
    case go2 =>
    rintro σ' H7 ⟨u, rfl, hu⟩
    have eq1 : ∀ H', Ex H7 H' → EvD K (tOp (rEqD K) (tCall (spTold9 K) [] E0 (tCons (tVar 2) tNil)) (tVar 4)) [some (.ref a), some v1, some (.str z), some (.int (cell ns 16 % 9)), some u, none] H' (.bool true) := fun H' x => EvD.cast (ed_op (ed_told9 rfl zl zo) (ed_var rfl (dp_mono x _ _ hu)) (rd_eqD (sh_due _) (sh_due _))) (by rw [eqv_due])
    refine w_ret1 (K := K) (d := .bool (true && true)) (ed_andV (eq1 H7 (Evl.Ex.refl H7)) (fun _ => eq1 H7 (Evl.Ex.refl H7))) fun v9 H9 x9 h9 => ?_
    have zz : v9 = .bl true := dp_bl.mp h9
    rw [zz]
    exact q H9
end

end Fy

namespace Fy
open PySem PySem.Spec PyProof.Rows L2
theorem run (w : World) : HandSHeadRun.RunEq R qv hk ob 4000 nms w := by
  intro os
  kernel_rfl
end Fy

open PySem PySem.W PySem.Calls PyProof.Rows
set_option maxRecDepth 100000 in
set_option maxHeartbeats 0 in
theorem PySem.Challenge.cw_ferrynight_k09_texts_read_holds : PySem.Challenge.rw_ferrynight_k09_texts_read.Holds := by
  w_on; o_law
  refine HandSHeadRun.head_any (r := OpenLaw.row PySem.Challenge.rw_ferrynight_k09_texts_read) (q := view (OpenLaw.row PySem.Challenge.rw_ferrynight_k09_texts_read).prog [38]) (H := Fy.hk) (ob := Fy.ob) (M := 4000) (loose := Fy.nms) (d := HandSHeadRun.topDef (OpenLaw.row PySem.Challenge.rw_ferrynight_k09_texts_read).prog 38) (kwd := []) Fy.ob_eq
    (by kernel_rfl) (fun s => by kernel_rfl) Fy.run (by kernel_rfl) (by kernel_rfl) (by kernel_rfl) (by rfl) (by first | assumption | decide +kernel) (by decide +kernel) ⟨rfl, rfl, rfl, rfl, rfl, by decide +kernel⟩ ?hw ?hc
  case hw => w_witness2
  case hc =>
    refine L2.walk_ofE (l := PySem.Challenge.rw_ferrynight_k09_texts_read) (n := 63) (k := 7) (x := "script") (CX := L2.CX0) rfl (by decide) (by kernel_rfl) ⟨rfl, by decide, by decide⟩ ?F (fun _ _ _ _ z => z)
    intro w mg fa h Y G hmg0
    obtain ⟨K, KX, c⟩ := Y
    have hmg : mg ("law" : PySem.Str) = some (.ref fa) := by
      have e : (HandSHeadRun.topDef (OpenLaw.row PySem.Challenge.rw_ferrynight_k09_texts_read).prog 38).name = ("law" : PySem.Str) := by kernel_rfl
      rw [← e]
      exact hmg0
    have T := Fy.tx_of KX G c
    have e := hmg.symm.trans T.g_law
    cases e
    obtain ⟨fd, F⟩ := T.f_law
    have b := L2.FunD.bindsA (ps := ["script"]) F fun _ _ _ _ _ _ us hl => match us, hl with | [_], _ => rfl
    exact ⟨K, fd, Fy.spLaw K, KX, fun s v => b s [v] rfl, fun H a ns hl hO hS => ⟨a, ns, rfl, hS, hl, fun _ => rfl⟩, fun base _ _ => Fy.ok_law T F⟩
#print axioms PySem.Challenge.cw_ferrynight_k09_texts_read_holds

