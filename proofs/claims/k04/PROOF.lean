import PyProof.Rows.All
import Wide.All
import OpenK.AllK
import Wide.FinOn
import PyProof.EqAt
import PyProof.EqKinds
import PyProof.TupleCall
import KE.KStateDown
import Lean
import HandS.Base
import HandS.Call
import HandS.List
import HandS.Comp
import HandS.Ends
import HandS.Dict
import HandS.Iter
import HandS.Text
import HandS.More
import HandS.Exc
import HandS.TryOnly
import HandS.TryMany
import HandS.ExcOwn
import HandS.ExcIs
import HandS.IsInst
import HandS.Conv
import HandS.Words
import HandS.WordsList
import HandS.WordsExc
import HandS.Evl
import HandS.Steps
import HandS.Defaults
import HandS.CallSlots
import HandS.Codes
import HandS.Deep
import HandS.DeepEq
import HandS.Flow
import HandS.Head0
import HandS.Head1
import HandS.Head2
import HandS.HeadEnd
import HandS.HeadHook1
import HandS.HeadHook2
import HandS.Hot
import HandS.HotCalls
import HandS.NoneIn
import HandS.RevTup
import HandS.Rev
import HandS.Sort
import HandS.SortInts
import HandS.SortKw
import HandS.SuiteRaise
import HandS.TupAny
import HandS.TupLe
import HandS.TupMul
import HandS.Wide
import HandS.Zip
import HandS.Style
import HandS.TupSets
import HandS.StrMore
import HandS.StrSplit
import HandS.Small
import HandS.RaiseMore
import KE.SortData
import KE.SortKeyHeap
import KE.KDictKeyed
import KE.KDictLaw
import KE.KDictWalk
import KE.KDictDisplayH
import KE.GoesDict
import PySem.Challenge.RW_ferrynight_k04_how_long_a_plan_takes
set_option Elab.async false
set_option linter.all false
set_option maxRecDepth 100000
set_option maxHeartbeats 4000000

namespace Fy
open PySem PySem.Spec PyProof.Rows L2
/-! ### the head: facts by names, a Bool of one's own beside them -/
section HeadX
open PySem PySem.Spec PyProof.Rows L2
/-- what isinstance asks of an exception's class -/
def exB (K : PySem.W.Frag) (x : Str) : Bool := He.eqO (PySem.W.findIn K (.ref (He.ga K x)) "__getattribute__") (some (some (.builtin "BaseException.__getattribute__"))) && (He.eqO (PySem.W.findIn K (.ref (He.ga K x)) "__getattr__") (some none) && (decide (PySem.W.subIn K (.ref (He.ga K x)) (.type "BaseException") = some true) &&
  (PySem.W.hasDictIn K (He.ga K x) && (He.eqO (PySem.W.findIn K (.ref (He.ga K x)) "__class__") (some (some (.builtin "object.__class__"))) && (He.eqO (PySem.W.specialIn K (.builtin "object.__class__") "__get__") (some (some (.builtin "getset_descriptor.__get__"))) &&
  (decide (PySem.W.takesIn K (.builtin "object.__class__") = some true) && decide (PySem.W.mroIn K (He.ga K x) (.type "object") = some true)))))))
theorem exC_of {K : PySem.W.Frag} {x : Str} (h : exB K x = true) : ExcC K (He.ga K x) := by
  obtain ⟨h1, h⟩ := He.ba h
  obtain ⟨h2, h⟩ := He.ba h
  obtain ⟨h3, h⟩ := He.ba h
  obtain ⟨h4, h⟩ := He.ba h
  obtain ⟨h5, h⟩ := He.ba h
  obtain ⟨h6, h⟩ := He.ba h
  obtain ⟨h7, h8⟩ := He.ba h
  exact ⟨He.eqO_ok h1, He.eqO_ok h2, of_decide_eq_true h3, h4, He.eqO_ok h5, He.eqO_ok h6, of_decide_eq_true h7, of_decide_eq_true h8⟩
/-- an own exception's class, for raise -/
structure ExOk (K : PySem.W.Frag) (C : Addr) : Prop where
  ex : PySem.W.excIn K C He.veBase "ValueError.__new__" = true
  kp : PySem.W.keepIn K (.ref C) = true
  sub : PySem.W.subIn K (.ref C) (.type "BaseException") = some true
  ty : PySem.W.typeIn K (.ref C) = some (.type "type")
theorem exOk_of {K : PySem.W.Frag} {x : Str} (h : (He.Fa.exc x).ok K = true) : ExOk K (He.ga K x) := by
  obtain ⟨a, b, c, d⟩ := He.exc_ok h
  exact ⟨a, b, c, d⟩
abbrev AlX : Type := He.AlD × Bool
def obsX (fa : List He.Fa) (fn : List He.DefD) (xb : PySem.W.Frag → Bool) (K : PySem.W.Frag) : AlX := (He.obsD fa fn K, xb K)
def valX (fn : List He.DefD) : AlX := (He.valD fn, true)
def SaysX (fa : List He.Fa) (fn : List He.DefD) (xb : PySem.W.Frag → Bool) (K : PySem.W.Frag) : Prop := obsX fa fn xb K = valX fn
theorem SaysX.d {fa : List He.Fa} {fn : List He.DefD} {xb : PySem.W.Frag → Bool} {K : PySem.W.Frag} (c : SaysX fa fn xb K) : He.SaysD fa fn K := congrArg (fun z : AlX => z.1) c
theorem SaysX.x {fa : List He.Fa} {fn : List He.DefD} {xb : PySem.W.Frag → Bool} {K : PySem.W.Frag} (c : SaysX fa fn xb K) : xb K = true := congrArg (fun z : AlX => z.2) c
def obsXG (n : Nat) (fa : List He.Fa) (fn : List He.DefD) (xb : PySem.W.Frag → Bool) (g : Addr → Option Obj) : AlX := obsX fa fn xb (He.frG g (He.asD g n))
def hookX (n : Nat) (fa : List He.Fa) (fn : List He.DefD) (xb : PySem.W.Frag → Bool) : PySem.W.Hook where
  α := AlX
  obs := fun s => obsXG n fa fn xb s.heap.get?
  val := fun _ => valX fn
  says := fun _ h => ∃ K : PySem.W.Frag, K.In h ∧ SaysX fa fn xb K
  of := fun _ _ e => ⟨_, He.frG_in, e⟩
  keeps := fun _ _ _ ⟨K, hK, c⟩ k => ⟨K, PySem.W.Frag.In.keeps hK k, c⟩
theorem obsXG_eq {n : Nat} {fa : List He.Fa} {fn : List He.DefD} {xb : PySem.W.Frag → Bool} {g : Addr → Option Obj} {s : Shared} (h : ∀ a, g a = s.heap.get? a) : obsXG n fa fn xb g = (hookX n fa fn xb).obs s := by
  have e : g = s.heap.get? := funext h
  rw [e] <;> rfl
/-- which classes stand under which -/
def isx (x y : Str) : Bool := decide (x = y) || decide (y = ("FerryError" : Str))
end HeadX

end Fy

namespace Fy
open PySem PySem.Spec PyProof.Rows L2
abbrev R : PySem.W.OpenRow := PySem.W.OpenLaw.row PySem.Challenge.rw_ferrynight_k04_how_long_a_plan_takes
def top (i : Nat) : Stmt := PySem.Challenge.pw_ferrynight_k04_how_long_a_plan_takes.main.body.getD i (.Pass ⟨0, 0, 0, 0⟩)
abbrev s__wall : Stmt := top 0
abbrev s_look_at : Stmt := top 9
abbrev s_peaceful : Stmt := top 10
abbrev s_good : Stmt := top 11
abbrev s_look_at_start : Stmt := top 12
abbrev s_beside_boat : Stmt := top 13
abbrev s_led_over : Stmt := top 14
abbrev s_groups_of : Stmt := top 15
abbrev s_can_row : Stmt := top 16
abbrev s_crews : Stmt := top 17
abbrev s_minutes : Stmt := top 18
abbrev s_takes : Stmt := top 20
abbrev s_look_at_things : Stmt := top 26
abbrev s_look_at_quarrel : Stmt := top 27
abbrev s__law_cell_at : Stmt := top 30
abbrev s__law_whole : Stmt := top 31
abbrev s__law_quarrel : Stmt := top 32
abbrev s__law_quarrels : Stmt := top 33
abbrev s__law_things : Stmt := top 34
abbrev s__law_night : Stmt := top 35
abbrev s__law_peace : Stmt := top 36
abbrev s__law_bits : Stmt := top 37
abbrev s__law_groups : Stmt := top 38
abbrev s__law_rest : Stmt := top 39
abbrev s__law_good : Stmt := top 40
abbrev s__law_behind : Stmt := top 41
abbrev s__law_crews : Stmt := top 42
abbrev s__law_minutes : Stmt := top 43
abbrev s__law_row : Stmt := top 44
abbrev s__law_spoiled : Stmt := top 45
abbrev s__law_takes : Stmt := top 46
abbrev s__law_alike : Stmt := top 47
abbrev s_law : Stmt := top 48
abbrev s_Night___init__ : Stmt := inClass (top 28) 0
abbrev s_Night_things : Stmt := inClass (top 28) 1
abbrev s_Night_room : Stmt := inClass (top 28) 2
abbrev s_Night_quarrels : Stmt := inClass (top 28) 3
abbrev s_Night_begins : Stmt := inClass (top 28) 4
abbrev s_Night_ends : Stmt := inClass (top 28) 5
abbrev s_Night_peace : Stmt := inClass (top 28) 6
abbrev s_Night_over_there : Stmt := inClass (top 28) 7
def fa : List He.Fa := [
  .glo "_wall",
  .glo "look_at",
  .glo "peaceful",
  .glo "good",
  .glo "look_at_start",
  .glo "beside_boat",
  .glo "led_over",
  .glo "groups_of",
  .glo "can_row",
  .glo "crews",
  .glo "minutes",
  .glo "takes",
  .glo "look_at_things",
  .glo "look_at_quarrel",
  .glo "_law_cell_at",
  .glo "_law_whole",
  .glo "_law_quarrel",
  .glo "_law_quarrels",
  .glo "_law_things",
  .glo "_law_night",
  .glo "_law_peace",
  .glo "_law_bits",
  .glo "_law_groups",
  .glo "_law_rest",
  .glo "_law_good",
  .glo "_law_behind",
  .glo "_law_crews",
  .glo "_law_minutes",
  .glo "_law_row",
  .glo "_law_spoiled",
  .glo "_law_takes",
  .glo "_law_alike",
  .glo "law",
  .glo "Night",
  .cls "Night",
  .mkr "Night",
  .noat "Night" "all_things",
  .noat "Night" "places",
  .noat "Night" "all_quarrels",
  .meth "Night" "things",
  .meth "Night" "room",
  .meth "Night" "quarrels",
  .meth "Night" "begins",
  .meth "Night" "ends",
  .meth "Night" "peace",
  .meth "Night" "over_there",
  .glo "FerryError",
  .exc "FerryError",
  .glo "BadThing",
  .exc "BadThing",
  .glo "BadRoom",
  .exc "BadRoom",
  .glo "BadQuarrel",
  .exc "BadQuarrel",
  .glo "NoStanding",
  .exc "NoStanding",
  .glo "BadStart",
  .exc "BadStart",
  .free "len",
  .free "range",
  .free "list",
  .free "tuple",
  .free "sorted",
  .free "max",
  .free "isinstance",
  .free "ValueError",
  .free "int",
  .free "bool",
  .free "reversed",
  .int "MOST_THINGS" 6,
  .int "MOST_ROOM" 3,
  .int "MOST_QUARRELS" 30,
  .int "SLOWEST" 1000000000
]
def fn : List He.DefD := [
  ⟨("look_at", none), "look_at", "look_at", defArgs s_look_at, defBody s_look_at, defScope s_look_at, [], []⟩,
  ⟨("peaceful", none), "peaceful", "peaceful", defArgs s_peaceful, defBody s_peaceful, defScope s_peaceful, [], []⟩,
  ⟨("good", none), "good", "good", defArgs s_good, defBody s_good, defScope s_good, [], []⟩,
  ⟨("look_at_start", none), "look_at_start", "look_at_start", defArgs s_look_at_start, defBody s_look_at_start, defScope s_look_at_start, [], []⟩,
  ⟨("beside_boat", none), "beside_boat", "beside_boat", defArgs s_beside_boat, defBody s_beside_boat, defScope s_beside_boat, [], []⟩,
  ⟨("led_over", none), "led_over", "led_over", defArgs s_led_over, defBody s_led_over, defScope s_led_over, [], []⟩,
  ⟨("groups_of", none), "groups_of", "groups_of", defArgs s_groups_of, defBody s_groups_of, defScope s_groups_of, [], []⟩,
  ⟨("can_row", none), "can_row", "can_row", defArgs s_can_row, defBody s_can_row, defScope s_can_row, [], []⟩,
  ⟨("crews", none), "crews", "crews", defArgs s_crews, defBody s_crews, defScope s_crews, [], []⟩,
  ⟨("minutes", none), "minutes", "minutes", defArgs s_minutes, defBody s_minutes, defScope s_minutes, [], []⟩,
  ⟨("takes", none), "takes", "takes", defArgs s_takes, defBody s_takes, defScope s_takes, [], []⟩,
  ⟨("look_at_things", none), "look_at_things", "look_at_things", defArgs s_look_at_things, defBody s_look_at_things, defScope s_look_at_things, [], []⟩,
  ⟨("look_at_quarrel", none), "look_at_quarrel", "look_at_quarrel", defArgs s_look_at_quarrel, defBody s_look_at_quarrel, defScope s_look_at_quarrel, [], []⟩,
  ⟨("_law_cell_at", none), "_law_cell_at", "_law_cell_at", defArgs s__law_cell_at, defBody s__law_cell_at, defScope s__law_cell_at, [], []⟩,
  ⟨("_law_whole", none), "_law_whole", "_law_whole", defArgs s__law_whole, defBody s__law_whole, defScope s__law_whole, [], []⟩,
  ⟨("_law_quarrel", none), "_law_quarrel", "_law_quarrel", defArgs s__law_quarrel, defBody s__law_quarrel, defScope s__law_quarrel, [], []⟩,
  ⟨("_law_quarrels", none), "_law_quarrels", "_law_quarrels", defArgs s__law_quarrels, defBody s__law_quarrels, defScope s__law_quarrels, [], []⟩,
  ⟨("_law_things", none), "_law_things", "_law_things", defArgs s__law_things, defBody s__law_things, defScope s__law_things, [], []⟩,
  ⟨("_law_night", none), "_law_night", "_law_night", defArgs s__law_night, defBody s__law_night, defScope s__law_night, [], []⟩,
  ⟨("_law_peace", none), "_law_peace", "_law_peace", defArgs s__law_peace, defBody s__law_peace, defScope s__law_peace, [], []⟩,
  ⟨("_law_bits", none), "_law_bits", "_law_bits", defArgs s__law_bits, defBody s__law_bits, defScope s__law_bits, [], []⟩,
  ⟨("_law_groups", none), "_law_groups", "_law_groups", defArgs s__law_groups, defBody s__law_groups, defScope s__law_groups, [], []⟩,
  ⟨("_law_rest", none), "_law_rest", "_law_rest", defArgs s__law_rest, defBody s__law_rest, defScope s__law_rest, [], []⟩,
  ⟨("_law_good", none), "_law_good", "_law_good", defArgs s__law_good, defBody s__law_good, defScope s__law_good, [], []⟩,
  ⟨("_law_behind", none), "_law_behind", "_law_behind", defArgs s__law_behind, defBody s__law_behind, defScope s__law_behind, [], []⟩,
  ⟨("_law_crews", none), "_law_crews", "_law_crews", defArgs s__law_crews, defBody s__law_crews, defScope s__law_crews, [], []⟩,
  ⟨("_law_minutes", none), "_law_minutes", "_law_minutes", defArgs s__law_minutes, defBody s__law_minutes, defScope s__law_minutes, [], []⟩,
  ⟨("_law_row", none), "_law_row", "_law_row", defArgs s__law_row, defBody s__law_row, defScope s__law_row, [], []⟩,
  ⟨("_law_spoiled", none), "_law_spoiled", "_law_spoiled", defArgs s__law_spoiled, defBody s__law_spoiled, defScope s__law_spoiled, [], []⟩,
  ⟨("_law_takes", none), "_law_takes", "_law_takes", defArgs s__law_takes, defBody s__law_takes, defScope s__law_takes, [], []⟩,
  ⟨("_law_alike", none), "_law_alike", "_law_alike", defArgs s__law_alike, defBody s__law_alike, defScope s__law_alike, [], []⟩,
  ⟨("law", none), "law", "law", defArgs s_law, defBody s_law, defScope s_law, [], []⟩,
  ⟨("Night", some "__init__"), "__init__", "Night.__init__", defArgs s_Night___init__, defBody s_Night___init__, defScope s_Night___init__, [], []⟩,
  ⟨("Night", some "things"), "things", "Night.things", defArgs s_Night_things, defBody s_Night_things, defScope s_Night_things, [], []⟩,
  ⟨("Night", some "room"), "room", "Night.room", defArgs s_Night_room, defBody s_Night_room, defScope s_Night_room, [], []⟩,
  ⟨("Night", some "quarrels"), "quarrels", "Night.quarrels", defArgs s_Night_quarrels, defBody s_Night_quarrels, defScope s_Night_quarrels, [], []⟩,
  ⟨("Night", some "begins"), "begins", "Night.begins", defArgs s_Night_begins, defBody s_Night_begins, defScope s_Night_begins, [], []⟩,
  ⟨("Night", some "ends"), "ends", "Night.ends", defArgs s_Night_ends, defBody s_Night_ends, defScope s_Night_ends, [], []⟩,
  ⟨("Night", some "peace"), "peace", "Night.peace", defArgs s_Night_peace, defBody s_Night_peace, defScope s_Night_peace, [], []⟩,
  ⟨("Night", some "over_there"), "over_there", "Night.over_there", defArgs s_Night_over_there, defBody s_Night_over_there, defScope s_Night_over_there, [], []⟩
]
def exs : List Str := ["FerryError", "BadThing", "BadRoom", "BadQuarrel", "NoStanding", "BadStart"]
def xb (K : PySem.W.Frag) : Bool := exs.all (fun x => exB K x) && (exs.all (fun x => exs.all fun y => decide (PySem.W.kitOne K (.ref (He.ga K x)) (.ref (He.ga K y)) = some (isx x y))) && (exs.all (fun x => decide (PySem.W.kitOne K (.ref (He.ga K x)) (.type "ValueError") = some true)) && exs.all (fun x => exs.all fun y => decide (PySem.W.exmOne K (.ref (He.ga K x)) (.ref (He.ga K y)) = some (isx x y)))))
abbrev hk : PySem.W.Hook := hookX 5 fa fn xb
def ob (s : PySem.W.SharedT) : hk.α := obsXG 5 fa fn xb (HandSHeadRun.getT s)
theorem ob_eq (s : PySem.W.SharedT) : ob s = hk.obs s.abs := obsXG_eq (HandSHeadRun.getT_eq s)
def nms0 : List PySem.Str := ["_wall", "FerryError", "BadThing", "BadRoom", "BadQuarrel", "NoStanding", "BadStart", "look_at", "peaceful", "good", "look_at_start", "beside_boat", "led_over", "groups_of", "can_row", "crews", "minutes", "takes", "MOST_THINGS", "MOST_ROOM", "MOST_QUARRELS", "SLOWEST", "look_at_things", "look_at_quarrel", "Night", "_law_cell_at", "_law_whole", "_law_quarrel", "_law_quarrels", "_law_things"]
def nms1 : List PySem.Str := ["_law_night", "_law_peace", "_law_bits", "_law_groups", "_law_rest", "_law_good", "_law_behind", "_law_crews", "_law_minutes", "_law_row", "_law_spoiled", "_law_takes", "_law_alike"]
def nms : List PySem.Str := nms0 ++ nms1
abbrev qv : Program := PySem.W.view R.prog [48]
structure Tx (K : PySem.W.Frag) (mg : Str → Option Value) : Prop where
  g__wall : mg "_wall" = some (.ref (He.ga K "_wall"))
  g_look_at : mg "look_at" = some (.ref (He.ga K "look_at"))
  g_peaceful : mg "peaceful" = some (.ref (He.ga K "peaceful"))
  g_good : mg "good" = some (.ref (He.ga K "good"))
  g_look_at_start : mg "look_at_start" = some (.ref (He.ga K "look_at_start"))
  g_beside_boat : mg "beside_boat" = some (.ref (He.ga K "beside_boat"))
  g_led_over : mg "led_over" = some (.ref (He.ga K "led_over"))
  g_groups_of : mg "groups_of" = some (.ref (He.ga K "groups_of"))
  g_can_row : mg "can_row" = some (.ref (He.ga K "can_row"))
  g_crews : mg "crews" = some (.ref (He.ga K "crews"))
  g_minutes : mg "minutes" = some (.ref (He.ga K "minutes"))
  g_takes : mg "takes" = some (.ref (He.ga K "takes"))
  g_look_at_things : mg "look_at_things" = some (.ref (He.ga K "look_at_things"))
  g_look_at_quarrel : mg "look_at_quarrel" = some (.ref (He.ga K "look_at_quarrel"))
  g__law_cell_at : mg "_law_cell_at" = some (.ref (He.ga K "_law_cell_at"))
  g__law_whole : mg "_law_whole" = some (.ref (He.ga K "_law_whole"))
  g__law_quarrel : mg "_law_quarrel" = some (.ref (He.ga K "_law_quarrel"))
  g__law_quarrels : mg "_law_quarrels" = some (.ref (He.ga K "_law_quarrels"))
  g__law_things : mg "_law_things" = some (.ref (He.ga K "_law_things"))
  g__law_night : mg "_law_night" = some (.ref (He.ga K "_law_night"))
  g__law_peace : mg "_law_peace" = some (.ref (He.ga K "_law_peace"))
  g__law_bits : mg "_law_bits" = some (.ref (He.ga K "_law_bits"))
  g__law_groups : mg "_law_groups" = some (.ref (He.ga K "_law_groups"))
  g__law_rest : mg "_law_rest" = some (.ref (He.ga K "_law_rest"))
  g__law_good : mg "_law_good" = some (.ref (He.ga K "_law_good"))
  g__law_behind : mg "_law_behind" = some (.ref (He.ga K "_law_behind"))
  g__law_crews : mg "_law_crews" = some (.ref (He.ga K "_law_crews"))
  g__law_minutes : mg "_law_minutes" = some (.ref (He.ga K "_law_minutes"))
  g__law_row : mg "_law_row" = some (.ref (He.ga K "_law_row"))
  g__law_spoiled : mg "_law_spoiled" = some (.ref (He.ga K "_law_spoiled"))
  g__law_takes : mg "_law_takes" = some (.ref (He.ga K "_law_takes"))
  g__law_alike : mg "_law_alike" = some (.ref (He.ga K "_law_alike"))
  g_law : mg "law" = some (.ref (He.ga K "law"))
  g_Night : mg "Night" = some (.ref (He.ga K "Night"))
  cl : Cls K (He.ga K "Night")
  mkr : Mk K (He.ga K "Night") (He.ma K (He.ga K "Night") "__init__")
  na_all_things : NoAttr K (He.ga K "Night") "all_things"
  na_places : NoAttr K (He.ga K "Night") "places"
  na_all_quarrels : NoAttr K (He.ga K "Night") "all_quarrels"
  m_things : Meth K (He.ga K "Night") "things" (He.ma K (He.ga K "Night") "things")
  m_room : Meth K (He.ga K "Night") "room" (He.ma K (He.ga K "Night") "room")
  m_quarrels : Meth K (He.ga K "Night") "quarrels" (He.ma K (He.ga K "Night") "quarrels")
  m_begins : Meth K (He.ga K "Night") "begins" (He.ma K (He.ga K "Night") "begins")
  m_ends : Meth K (He.ga K "Night") "ends" (He.ma K (He.ga K "Night") "ends")
  m_peace : Meth K (He.ga K "Night") "peace" (He.ma K (He.ga K "Night") "peace")
  m_over_there : Meth K (He.ga K "Night") "over_there" (He.ma K (He.ga K "Night") "over_there")
  g_FerryError : mg "FerryError" = some (.ref (He.ga K "FerryError"))
  x_FerryError : ExOk K (He.ga K "FerryError")
  g_BadThing : mg "BadThing" = some (.ref (He.ga K "BadThing"))
  x_BadThing : ExOk K (He.ga K "BadThing")
  g_BadRoom : mg "BadRoom" = some (.ref (He.ga K "BadRoom"))
  x_BadRoom : ExOk K (He.ga K "BadRoom")
  g_BadQuarrel : mg "BadQuarrel" = some (.ref (He.ga K "BadQuarrel"))
  x_BadQuarrel : ExOk K (He.ga K "BadQuarrel")
  g_NoStanding : mg "NoStanding" = some (.ref (He.ga K "NoStanding"))
  x_NoStanding : ExOk K (He.ga K "NoStanding")
  g_BadStart : mg "BadStart" = some (.ref (He.ga K "BadStart"))
  x_BadStart : ExOk K (He.ga K "BadStart")
  exm : ∀ x ∈ exs, ∀ y ∈ exs, PySem.W.exmOne K (.ref (He.ga K x)) (.ref (He.ga K y)) = some (isx x y)
  kit : ∀ x ∈ exs, ∀ y ∈ exs, PySem.W.kitOne K (.ref (He.ga K x)) (.ref (He.ga K y)) = some (isx x y)
  kitV : ∀ x ∈ exs, PySem.W.kitOne K (.ref (He.ga K x)) (.type "ValueError") = some true
  exc : ∀ x ∈ exs, ExcC K (He.ga K x)
  b_len : mg "len" = none
  b_range : mg "range" = none
  b_list : mg "list" = none
  b_tuple : mg "tuple" = none
  b_sorted : mg "sorted" = none
  b_max : mg "max" = none
  b_isinstance : mg "isinstance" = none
  b_ValueError : mg "ValueError" = none
  b_int : mg "int" = none
  b_bool : mg "bool" = none
  b_reversed : mg "reversed" = none
  i_MOST_THINGS : ∃ t, mg "MOST_THINGS" = some (.int 6 t)
  i_MOST_ROOM : ∃ t, mg "MOST_ROOM" = some (.int 3 t)
  i_MOST_QUARRELS : ∃ t, mg "MOST_QUARRELS" = some (.int 30 t)
  i_SLOWEST : ∃ t, mg "SLOWEST" = some (.int 1000000000 t)
  f_look_at : ∃ fd, FunD K "look_at" "look_at" (defArgs s_look_at) (defBody s_look_at) (defScope s_look_at) [] [] (He.ga K "look_at") fd
  f_peaceful : ∃ fd, FunD K "peaceful" "peaceful" (defArgs s_peaceful) (defBody s_peaceful) (defScope s_peaceful) [] [] (He.ga K "peaceful") fd
  f_good : ∃ fd, FunD K "good" "good" (defArgs s_good) (defBody s_good) (defScope s_good) [] [] (He.ga K "good") fd
  f_look_at_start : ∃ fd, FunD K "look_at_start" "look_at_start" (defArgs s_look_at_start) (defBody s_look_at_start) (defScope s_look_at_start) [] [] (He.ga K "look_at_start") fd
  f_beside_boat : ∃ fd, FunD K "beside_boat" "beside_boat" (defArgs s_beside_boat) (defBody s_beside_boat) (defScope s_beside_boat) [] [] (He.ga K "beside_boat") fd
  f_led_over : ∃ fd, FunD K "led_over" "led_over" (defArgs s_led_over) (defBody s_led_over) (defScope s_led_over) [] [] (He.ga K "led_over") fd
  f_groups_of : ∃ fd, FunD K "groups_of" "groups_of" (defArgs s_groups_of) (defBody s_groups_of) (defScope s_groups_of) [] [] (He.ga K "groups_of") fd
  f_can_row : ∃ fd, FunD K "can_row" "can_row" (defArgs s_can_row) (defBody s_can_row) (defScope s_can_row) [] [] (He.ga K "can_row") fd
  f_crews : ∃ fd, FunD K "crews" "crews" (defArgs s_crews) (defBody s_crews) (defScope s_crews) [] [] (He.ga K "crews") fd
  f_minutes : ∃ fd, FunD K "minutes" "minutes" (defArgs s_minutes) (defBody s_minutes) (defScope s_minutes) [] [] (He.ga K "minutes") fd
  f_takes : ∃ fd, FunD K "takes" "takes" (defArgs s_takes) (defBody s_takes) (defScope s_takes) [] [] (He.ga K "takes") fd
  f_look_at_things : ∃ fd, FunD K "look_at_things" "look_at_things" (defArgs s_look_at_things) (defBody s_look_at_things) (defScope s_look_at_things) [] [] (He.ga K "look_at_things") fd
  f_look_at_quarrel : ∃ fd, FunD K "look_at_quarrel" "look_at_quarrel" (defArgs s_look_at_quarrel) (defBody s_look_at_quarrel) (defScope s_look_at_quarrel) [] [] (He.ga K "look_at_quarrel") fd
  f__law_cell_at : ∃ fd, FunD K "_law_cell_at" "_law_cell_at" (defArgs s__law_cell_at) (defBody s__law_cell_at) (defScope s__law_cell_at) [] [] (He.ga K "_law_cell_at") fd
  f__law_whole : ∃ fd, FunD K "_law_whole" "_law_whole" (defArgs s__law_whole) (defBody s__law_whole) (defScope s__law_whole) [] [] (He.ga K "_law_whole") fd
  f__law_quarrel : ∃ fd, FunD K "_law_quarrel" "_law_quarrel" (defArgs s__law_quarrel) (defBody s__law_quarrel) (defScope s__law_quarrel) [] [] (He.ga K "_law_quarrel") fd
  f__law_quarrels : ∃ fd, FunD K "_law_quarrels" "_law_quarrels" (defArgs s__law_quarrels) (defBody s__law_quarrels) (defScope s__law_quarrels) [] [] (He.ga K "_law_quarrels") fd
  f__law_things : ∃ fd, FunD K "_law_things" "_law_things" (defArgs s__law_things) (defBody s__law_things) (defScope s__law_things) [] [] (He.ga K "_law_things") fd
  f__law_night : ∃ fd, FunD K "_law_night" "_law_night" (defArgs s__law_night) (defBody s__law_night) (defScope s__law_night) [] [] (He.ga K "_law_night") fd
  f__law_peace : ∃ fd, FunD K "_law_peace" "_law_peace" (defArgs s__law_peace) (defBody s__law_peace) (defScope s__law_peace) [] [] (He.ga K "_law_peace") fd
  f__law_bits : ∃ fd, FunD K "_law_bits" "_law_bits" (defArgs s__law_bits) (defBody s__law_bits) (defScope s__law_bits) [] [] (He.ga K "_law_bits") fd
  f__law_groups : ∃ fd, FunD K "_law_groups" "_law_groups" (defArgs s__law_groups) (defBody s__law_groups) (defScope s__law_groups) [] [] (He.ga K "_law_groups") fd
  f__law_rest : ∃ fd, FunD K "_law_rest" "_law_rest" (defArgs s__law_rest) (defBody s__law_rest) (defScope s__law_rest) [] [] (He.ga K "_law_rest") fd
  f__law_good : ∃ fd, FunD K "_law_good" "_law_good" (defArgs s__law_good) (defBody s__law_good) (defScope s__law_good) [] [] (He.ga K "_law_good") fd
  f__law_behind : ∃ fd, FunD K "_law_behind" "_law_behind" (defArgs s__law_behind) (defBody s__law_behind) (defScope s__law_behind) [] [] (He.ga K "_law_behind") fd
  f__law_crews : ∃ fd, FunD K "_law_crews" "_law_crews" (defArgs s__law_crews) (defBody s__law_crews) (defScope s__law_crews) [] [] (He.ga K "_law_crews") fd
  f__law_minutes : ∃ fd, FunD K "_law_minutes" "_law_minutes" (defArgs s__law_minutes) (defBody s__law_minutes) (defScope s__law_minutes) [] [] (He.ga K "_law_minutes") fd
  f__law_row : ∃ fd, FunD K "_law_row" "_law_row" (defArgs s__law_row) (defBody s__law_row) (defScope s__law_row) [] [] (He.ga K "_law_row") fd
  f__law_spoiled : ∃ fd, FunD K "_law_spoiled" "_law_spoiled" (defArgs s__law_spoiled) (defBody s__law_spoiled) (defScope s__law_spoiled) [] [] (He.ga K "_law_spoiled") fd
  f__law_takes : ∃ fd, FunD K "_law_takes" "_law_takes" (defArgs s__law_takes) (defBody s__law_takes) (defScope s__law_takes) [] [] (He.ga K "_law_takes") fd
  f__law_alike : ∃ fd, FunD K "_law_alike" "_law_alike" (defArgs s__law_alike) (defBody s__law_alike) (defScope s__law_alike) [] [] (He.ga K "_law_alike") fd
  f_law : ∃ fd, FunD K "law" "law" (defArgs s_law) (defBody s_law) (defScope s_law) [] [] (He.ga K "law") fd
  f_Night___init__ : ∃ fd, FunD K "__init__" "Night.__init__" (defArgs s_Night___init__) (defBody s_Night___init__) (defScope s_Night___init__) [] [] (He.ma K (He.ga K "Night") "__init__") fd
  f_Night_things : ∃ fd, FunD K "things" "Night.things" (defArgs s_Night_things) (defBody s_Night_things) (defScope s_Night_things) [] [] (He.ma K (He.ga K "Night") "things") fd
  f_Night_room : ∃ fd, FunD K "room" "Night.room" (defArgs s_Night_room) (defBody s_Night_room) (defScope s_Night_room) [] [] (He.ma K (He.ga K "Night") "room") fd
  f_Night_quarrels : ∃ fd, FunD K "quarrels" "Night.quarrels" (defArgs s_Night_quarrels) (defBody s_Night_quarrels) (defScope s_Night_quarrels) [] [] (He.ma K (He.ga K "Night") "quarrels") fd
  f_Night_begins : ∃ fd, FunD K "begins" "Night.begins" (defArgs s_Night_begins) (defBody s_Night_begins) (defScope s_Night_begins) [] [] (He.ma K (He.ga K "Night") "begins") fd
  f_Night_ends : ∃ fd, FunD K "ends" "Night.ends" (defArgs s_Night_ends) (defBody s_Night_ends) (defScope s_Night_ends) [] [] (He.ma K (He.ga K "Night") "ends") fd
  f_Night_peace : ∃ fd, FunD K "peace" "Night.peace" (defArgs s_Night_peace) (defBody s_Night_peace) (defScope s_Night_peace) [] [] (He.ma K (He.ga K "Night") "peace") fd
  f_Night_over_there : ∃ fd, FunD K "over_there" "Night.over_there" (defArgs s_Night_over_there) (defBody s_Night_over_there) (defScope s_Night_over_there) [] [] (He.ma K (He.ga K "Night") "over_there") fd
theorem tx_of {K : PySem.W.Frag} {h : Heap} {mg : Str → Option Value} (X : K.In h) (G : h.Ns mainGlobals mg) (c0 : SaysX fa fn xb K) : Tx K mg := by
  have c := c0.d
  have cx := c0.x
  obtain ⟨cx1, cx2⟩ := He.ba cx
  obtain ⟨cx2, cx3⟩ := He.ba cx2
  obtain ⟨cx3, cx4⟩ := He.ba cx3
  exact {
    g__wall := He.glo_ok X G (c.fact 0),
    g_look_at := He.glo_ok X G (c.fact 1),
    g_peaceful := He.glo_ok X G (c.fact 2),
    g_good := He.glo_ok X G (c.fact 3),
    g_look_at_start := He.glo_ok X G (c.fact 4),
    g_beside_boat := He.glo_ok X G (c.fact 5),
    g_led_over := He.glo_ok X G (c.fact 6),
    g_groups_of := He.glo_ok X G (c.fact 7),
    g_can_row := He.glo_ok X G (c.fact 8),
    g_crews := He.glo_ok X G (c.fact 9),
    g_minutes := He.glo_ok X G (c.fact 10),
    g_takes := He.glo_ok X G (c.fact 11),
    g_look_at_things := He.glo_ok X G (c.fact 12),
    g_look_at_quarrel := He.glo_ok X G (c.fact 13),
    g__law_cell_at := He.glo_ok X G (c.fact 14),
    g__law_whole := He.glo_ok X G (c.fact 15),
    g__law_quarrel := He.glo_ok X G (c.fact 16),
    g__law_quarrels := He.glo_ok X G (c.fact 17),
    g__law_things := He.glo_ok X G (c.fact 18),
    g__law_night := He.glo_ok X G (c.fact 19),
    g__law_peace := He.glo_ok X G (c.fact 20),
    g__law_bits := He.glo_ok X G (c.fact 21),
    g__law_groups := He.glo_ok X G (c.fact 22),
    g__law_rest := He.glo_ok X G (c.fact 23),
    g__law_good := He.glo_ok X G (c.fact 24),
    g__law_behind := He.glo_ok X G (c.fact 25),
    g__law_crews := He.glo_ok X G (c.fact 26),
    g__law_minutes := He.glo_ok X G (c.fact 27),
    g__law_row := He.glo_ok X G (c.fact 28),
    g__law_spoiled := He.glo_ok X G (c.fact 29),
    g__law_takes := He.glo_ok X G (c.fact 30),
    g__law_alike := He.glo_ok X G (c.fact 31),
    g_law := He.glo_ok X G (c.fact 32),
    g_Night := He.glo_ok X G (c.fact 33),
    cl := He.cls_ok (c.fact 34),
    mkr := He.mkr_ok (c.fact 35),
    na_all_things := He.noat_ok (c.fact 36),
    na_places := He.noat_ok (c.fact 37),
    na_all_quarrels := He.noat_ok (c.fact 38),
    m_things := He.meth_ok (c.fact 39),
    m_room := He.meth_ok (c.fact 40),
    m_quarrels := He.meth_ok (c.fact 41),
    m_begins := He.meth_ok (c.fact 42),
    m_ends := He.meth_ok (c.fact 43),
    m_peace := He.meth_ok (c.fact 44),
    m_over_there := He.meth_ok (c.fact 45),
    g_FerryError := He.glo_ok X G (c.fact 46),
    x_FerryError := exOk_of (c.fact 47),
    g_BadThing := He.glo_ok X G (c.fact 48),
    x_BadThing := exOk_of (c.fact 49),
    g_BadRoom := He.glo_ok X G (c.fact 50),
    x_BadRoom := exOk_of (c.fact 51),
    g_BadQuarrel := He.glo_ok X G (c.fact 52),
    x_BadQuarrel := exOk_of (c.fact 53),
    g_NoStanding := He.glo_ok X G (c.fact 54),
    x_NoStanding := exOk_of (c.fact 55),
    g_BadStart := He.glo_ok X G (c.fact 56),
    x_BadStart := exOk_of (c.fact 57),
    exm := fun x hx y hy => of_decide_eq_true (List.all_eq_true.mp (List.all_eq_true.mp cx4 x hx) y hy),
    kit := fun x hx y hy => of_decide_eq_true (List.all_eq_true.mp (List.all_eq_true.mp cx2 x hx) y hy),
    kitV := fun x hx => of_decide_eq_true (List.all_eq_true.mp cx3 x hx),
    exc := fun x hx => exC_of (List.all_eq_true.mp cx1 x hx),
    b_len := He.free_ok X G (c.fact 58),
    b_range := He.free_ok X G (c.fact 59),
    b_list := He.free_ok X G (c.fact 60),
    b_tuple := He.free_ok X G (c.fact 61),
    b_sorted := He.free_ok X G (c.fact 62),
    b_max := He.free_ok X G (c.fact 63),
    b_isinstance := He.free_ok X G (c.fact 64),
    b_ValueError := He.free_ok X G (c.fact 65),
    b_int := He.free_ok X G (c.fact 66),
    b_bool := He.free_ok X G (c.fact 67),
    b_reversed := He.free_ok X G (c.fact 68),
    i_MOST_THINGS := He.int_ok X G (c.fact 69),
    i_MOST_ROOM := He.int_ok X G (c.fact 70),
    i_MOST_QUARRELS := He.int_ok X G (c.fact 71),
    i_SLOWEST := He.int_ok X G (c.fact 72),
    f_look_at := c.def_ 0 (d := ⟨("look_at", none), "look_at", "look_at", defArgs s_look_at, defBody s_look_at, defScope s_look_at, [], []⟩) rfl,
    f_peaceful := c.def_ 1 (d := ⟨("peaceful", none), "peaceful", "peaceful", defArgs s_peaceful, defBody s_peaceful, defScope s_peaceful, [], []⟩) rfl,
    f_good := c.def_ 2 (d := ⟨("good", none), "good", "good", defArgs s_good, defBody s_good, defScope s_good, [], []⟩) rfl,
    f_look_at_start := c.def_ 3 (d := ⟨("look_at_start", none), "look_at_start", "look_at_start", defArgs s_look_at_start, defBody s_look_at_start, defScope s_look_at_start, [], []⟩) rfl,
    f_beside_boat := c.def_ 4 (d := ⟨("beside_boat", none), "beside_boat", "beside_boat", defArgs s_beside_boat, defBody s_beside_boat, defScope s_beside_boat, [], []⟩) rfl,
    f_led_over := c.def_ 5 (d := ⟨("led_over", none), "led_over", "led_over", defArgs s_led_over, defBody s_led_over, defScope s_led_over, [], []⟩) rfl,
    f_groups_of := c.def_ 6 (d := ⟨("groups_of", none), "groups_of", "groups_of", defArgs s_groups_of, defBody s_groups_of, defScope s_groups_of, [], []⟩) rfl,
    f_can_row := c.def_ 7 (d := ⟨("can_row", none), "can_row", "can_row", defArgs s_can_row, defBody s_can_row, defScope s_can_row, [], []⟩) rfl,
    f_crews := c.def_ 8 (d := ⟨("crews", none), "crews", "crews", defArgs s_crews, defBody s_crews, defScope s_crews, [], []⟩) rfl,
    f_minutes := c.def_ 9 (d := ⟨("minutes", none), "minutes", "minutes", defArgs s_minutes, defBody s_minutes, defScope s_minutes, [], []⟩) rfl,
    f_takes := c.def_ 10 (d := ⟨("takes", none), "takes", "takes", defArgs s_takes, defBody s_takes, defScope s_takes, [], []⟩) rfl,
    f_look_at_things := c.def_ 11 (d := ⟨("look_at_things", none), "look_at_things", "look_at_things", defArgs s_look_at_things, defBody s_look_at_things, defScope s_look_at_things, [], []⟩) rfl,
    f_look_at_quarrel := c.def_ 12 (d := ⟨("look_at_quarrel", none), "look_at_quarrel", "look_at_quarrel", defArgs s_look_at_quarrel, defBody s_look_at_quarrel, defScope s_look_at_quarrel, [], []⟩) rfl,
    f__law_cell_at := c.def_ 13 (d := ⟨("_law_cell_at", none), "_law_cell_at", "_law_cell_at", defArgs s__law_cell_at, defBody s__law_cell_at, defScope s__law_cell_at, [], []⟩) rfl,
    f__law_whole := c.def_ 14 (d := ⟨("_law_whole", none), "_law_whole", "_law_whole", defArgs s__law_whole, defBody s__law_whole, defScope s__law_whole, [], []⟩) rfl,
    f__law_quarrel := c.def_ 15 (d := ⟨("_law_quarrel", none), "_law_quarrel", "_law_quarrel", defArgs s__law_quarrel, defBody s__law_quarrel, defScope s__law_quarrel, [], []⟩) rfl,
    f__law_quarrels := c.def_ 16 (d := ⟨("_law_quarrels", none), "_law_quarrels", "_law_quarrels", defArgs s__law_quarrels, defBody s__law_quarrels, defScope s__law_quarrels, [], []⟩) rfl,
    f__law_things := c.def_ 17 (d := ⟨("_law_things", none), "_law_things", "_law_things", defArgs s__law_things, defBody s__law_things, defScope s__law_things, [], []⟩) rfl,
    f__law_night := c.def_ 18 (d := ⟨("_law_night", none), "_law_night", "_law_night", defArgs s__law_night, defBody s__law_night, defScope s__law_night, [], []⟩) rfl,
    f__law_peace := c.def_ 19 (d := ⟨("_law_peace", none), "_law_peace", "_law_peace", defArgs s__law_peace, defBody s__law_peace, defScope s__law_peace, [], []⟩) rfl,
    f__law_bits := c.def_ 20 (d := ⟨("_law_bits", none), "_law_bits", "_law_bits", defArgs s__law_bits, defBody s__law_bits, defScope s__law_bits, [], []⟩) rfl,
    f__law_groups := c.def_ 21 (d := ⟨("_law_groups", none), "_law_groups", "_law_groups", defArgs s__law_groups, defBody s__law_groups, defScope s__law_groups, [], []⟩) rfl,
    f__law_rest := c.def_ 22 (d := ⟨("_law_rest", none), "_law_rest", "_law_rest", defArgs s__law_rest, defBody s__law_rest, defScope s__law_rest, [], []⟩) rfl,
    f__law_good := c.def_ 23 (d := ⟨("_law_good", none), "_law_good", "_law_good", defArgs s__law_good, defBody s__law_good, defScope s__law_good, [], []⟩) rfl,
    f__law_behind := c.def_ 24 (d := ⟨("_law_behind", none), "_law_behind", "_law_behind", defArgs s__law_behind, defBody s__law_behind, defScope s__law_behind, [], []⟩) rfl,
    f__law_crews := c.def_ 25 (d := ⟨("_law_crews", none), "_law_crews", "_law_crews", defArgs s__law_crews, defBody s__law_crews, defScope s__law_crews, [], []⟩) rfl,
    f__law_minutes := c.def_ 26 (d := ⟨("_law_minutes", none), "_law_minutes", "_law_minutes", defArgs s__law_minutes, defBody s__law_minutes, defScope s__law_minutes, [], []⟩) rfl,
    f__law_row := c.def_ 27 (d := ⟨("_law_row", none), "_law_row", "_law_row", defArgs s__law_row, defBody s__law_row, defScope s__law_row, [], []⟩) rfl,
    f__law_spoiled := c.def_ 28 (d := ⟨("_law_spoiled", none), "_law_spoiled", "_law_spoiled", defArgs s__law_spoiled, defBody s__law_spoiled, defScope s__law_spoiled, [], []⟩) rfl,
    f__law_takes := c.def_ 29 (d := ⟨("_law_takes", none), "_law_takes", "_law_takes", defArgs s__law_takes, defBody s__law_takes, defScope s__law_takes, [], []⟩) rfl,
    f__law_alike := c.def_ 30 (d := ⟨("_law_alike", none), "_law_alike", "_law_alike", defArgs s__law_alike, defBody s__law_alike, defScope s__law_alike, [], []⟩) rfl,
    f_law := c.def_ 31 (d := ⟨("law", none), "law", "law", defArgs s_law, defBody s_law, defScope s_law, [], []⟩) rfl,
    f_Night___init__ := c.def_ 32 (d := ⟨("Night", some "__init__"), "__init__", "Night.__init__", defArgs s_Night___init__, defBody s_Night___init__, defScope s_Night___init__, [], []⟩) rfl,
    f_Night_things := c.def_ 33 (d := ⟨("Night", some "things"), "things", "Night.things", defArgs s_Night_things, defBody s_Night_things, defScope s_Night_things, [], []⟩) rfl,
    f_Night_room := c.def_ 34 (d := ⟨("Night", some "room"), "room", "Night.room", defArgs s_Night_room, defBody s_Night_room, defScope s_Night_room, [], []⟩) rfl,
    f_Night_quarrels := c.def_ 35 (d := ⟨("Night", some "quarrels"), "quarrels", "Night.quarrels", defArgs s_Night_quarrels, defBody s_Night_quarrels, defScope s_Night_quarrels, [], []⟩) rfl,
    f_Night_begins := c.def_ 36 (d := ⟨("Night", some "begins"), "begins", "Night.begins", defArgs s_Night_begins, defBody s_Night_begins, defScope s_Night_begins, [], []⟩) rfl,
    f_Night_ends := c.def_ 37 (d := ⟨("Night", some "ends"), "ends", "Night.ends", defArgs s_Night_ends, defBody s_Night_ends, defScope s_Night_ends, [], []⟩) rfl,
    f_Night_peace := c.def_ 38 (d := ⟨("Night", some "peace"), "peace", "Night.peace", defArgs s_Night_peace, defBody s_Night_peace, defScope s_Night_peace, [], []⟩) rfl,
    f_Night_over_there := c.def_ 39 (d := ⟨("Night", some "over_there"), "over_there", "Night.over_there", defArgs s_Night_over_there, defBody s_Night_over_there, defScope s_Night_over_there, [], []⟩) rfl }
end Fy

namespace Fy
open PySem PySem.Spec PyProof.Rows L2
/-! ### heaps: what stays -/
abbrev Ex := Evl.Ex
/-- tuples (and what is known) stay: true of every step of a program -/
def Up (H H' : Hp) : Prop := (∀ a xs, H a = some (.tup xs) → H' a = some (.tup xs)) ∧ ∀ a o u, H a = some (.frz o u) → H' a = some (.frz o u)
theorem Up.refl (H : Hp) : Up H H := ⟨fun _ _ h => h, fun _ _ _ h => h⟩
theorem Up.trans {H H1 H2 : Hp} (a : Up H H1) (b : Up H1 H2) : Up H H2 := ⟨fun x xs h => b.1 x xs (a.1 x xs h), fun x o u h => b.2 x o u (a.2 x o u h)⟩
theorem Ex.up {H H' : Hp} (e : Ex H H') : Up H H' := ⟨fun a xs h => e a _ h, fun a o u h => e a _ h⟩
/-- a list is changed -/
theorem Up.lst {H : Hp} {l : Addr} {xs : List V} {o : HO} (h : H l = some (.lst xs)) : Up H (upd H l o) :=
  ⟨fun a ys e => by rw [upd_ne (fun q => by rw [q, h] at e; cases e)]; exact e, fun a ob u e => by rw [upd_ne (fun q => by rw [q, h] at e; cases e)]; exact e⟩
theorem Up.new {H : Hp} {l : Addr} {o : HO} (h : H l = none) : Up H (upd H l o) := Ex.up (Evl.Ex.new h)
theorem Up.sqT {K : PySem.W.Frag} {H H' : Hp} {a : Addr} {xs : List V} (e : Up H H') (h : SqT K H a xs) : SqT K H' a xs := by
  rcases h with (h | ⟨o, h⟩) | h
  · exact .inl (.inl (e.1 _ _ h))
  · exact .inl (.inr ⟨o, e.2 _ _ _ h⟩)
  · exact .inr h
theorem ex_same {H H' : Hp} (e : Ex H H') : Same H H' := e
/-! ### data -/
mutual
theorem dp_mono {K : PySem.W.Frag} {H H' : Hp} (e : Ex H H') : ∀ (d : PyData) (v : V), Dp K H v d → Dp K H' v d
  | .none, _, h => by cases h; exact .non
  | .bool b, _, h => by cases h; exact .bl b
  | .int i, _, h => by cases h; exact .int i
  | .str x, _, h => by cases h; exact .str x
  | .list ds, _, h => by
    cases h with
    | lst hs ha => exact .lst (Evl.ex_l e hs) (dpa_mono e ds _ ha)
  | .tuple ds, _, h => by
    cases h with
    | tup hs ha => exact .tup (Evl.ex_t e hs) (dpa_mono e ds _ ha)
  | .dict _, _, h => by cases h
theorem dpa_mono {K : PySem.W.Frag} {H H' : Hp} (e : Ex H H') : ∀ (ds : List PyData) (vs : List V), DpAll K H vs ds → DpAll K H' vs ds
  | [], _, h => by cases h; exact .nil
  | d :: ds, _, h => by
    cases h with
    | cons h1 h2 => exact .cons (dp_mono e d _ h1) (dpa_mono e ds _ h2)
end
mutual
/-- no list within -/
def noL : PyData → Bool
  | .list _ => false
  | .dict _ => false
  | .tuple ds => noLs ds
  | _ => true
def noLs : List PyData → Bool
  | [] => true
  | d :: ds => noL d && noLs ds
end
mutual
theorem dp_up {K : PySem.W.Frag} {H H' : Hp} (e : Up H H') : ∀ (d : PyData) (v : V), noL d = true → Dp K H v d → Dp K H' v d
  | .none, _, _, h => by cases h; exact .non
  | .bool b, _, _, h => by cases h; exact .bl b
  | .int i, _, _, h => by cases h; exact .int i
  | .str x, _, _, h => by cases h; exact .str x
  | .list ds, _, n, h => by simp [noL] at n
  | .tuple ds, _, n, h => by
    cases h with
    | tup hs ha => exact .tup (e.sqT hs) (dpa_up e ds _ (by simpa [noL] using n) ha)
  | .dict _, _, _, h => by cases h
theorem dpa_up {K : PySem.W.Frag} {H H' : Hp} (e : Up H H') : ∀ (ds : List PyData) (vs : List V), noLs ds = true → DpAll K H vs ds → DpAll K H' vs ds
  | [], _, _, h => by cases h; exact .nil
  | d :: ds, _, n, h => by
    have n' : noL d = true ∧ noLs ds = true := by simpa [noLs] using n
    cases h with
    | cons h1 h2 => exact .cons (dp_up e d _ n'.1 h1) (dpa_up e ds _ n'.2 h2)
end
theorem noLs_map {α : Type} {f : α → PyData} (h : ∀ x, noL (f x) = true) : ∀ xs : List α, noLs (xs.map f) = true
  | [] => rfl
  | x :: xs => by simp [noLs, h x, noLs_map h xs]
section
variable {K : PySem.W.Frag} {H H' : Hp}
theorem dpa_len : ∀ {vs : List V} {ds : List PyData}, DpAll K H vs ds → vs.length = ds.length
  | _, _, .nil => rfl
  | _, _, .cons _ t => by simp [dpa_len t]
theorem dpa_get : ∀ {vs : List V} {ds : List PyData} {i : Nat} {v : V}, DpAll K H vs ds → vs[i]? = some v → ∃ d, ds[i]? = some d ∧ Dp K H v d
  | _, _, _, _, .nil, e => by simp at e
  | _, _, 0, _, .cons h _, e => by simp at e; subst e; exact ⟨_, rfl, h⟩
  | _, _, i + 1, _, .cons _ t, e => by simpa using dpa_get (i := i) t (by simpa using e)
theorem dpa_get' : ∀ {vs : List V} {ds : List PyData} {i : Nat} {d : PyData}, DpAll K H vs ds → ds[i]? = some d → ∃ v, vs[i]? = some v ∧ Dp K H v d
  | _, _, _, _, .nil, e => by simp at e
  | _, _, 0, _, .cons h _, e => by simp at e; subst e; exact ⟨_, rfl, h⟩
  | _, _, i + 1, _, .cons _ t, e => by simpa using dpa_get' (i := i) t (by simpa using e)
theorem dpa_snoc : ∀ {vs : List V} {ds : List PyData} {v : V} {d : PyData}, DpAll K H vs ds → Dp K H v d → DpAll K H (vs ++ [v]) (ds ++ [d])
  | _, _, _, _, .nil, h => .cons h .nil
  | _, _, _, _, .cons h1 t, h => .cons h1 (dpa_snoc t h)
theorem dpa_app : ∀ {vs ws : List V} {ds es : List PyData}, DpAll K H vs ds → DpAll K H ws es → DpAll K H (vs ++ ws) (ds ++ es)
  | _, _, _, _, .nil, h => h
  | _, _, _, _, .cons h1 t, h => .cons h1 (dpa_app t h)
theorem dpa_drop : ∀ {vs : List V} {ds : List PyData} (n : Nat), DpAll K H vs ds → DpAll K H (vs.drop n) (ds.drop n)
  | _, _, 0, h => h
  | _, _, _ + 1, .nil => .nil
  | _, _, n + 1, .cons _ t => dpa_drop n t
theorem dpa_take : ∀ {vs : List V} {ds : List PyData} (n : Nat), DpAll K H vs ds → DpAll K H (vs.take n) (ds.take n)
  | _, _, 0, h => .nil
  | _, _, _ + 1, .nil => .nil
  | _, _, n + 1, .cons h t => .cons h (dpa_take n t)
theorem dp_int {v : V} {i : Int} : Dp K H v (.int i) ↔ v = .int i := ⟨fun h => by cases h; rfl, fun h => by subst h; exact .int i⟩
theorem dp_bl {v : V} {b : Bool} : Dp K H v (.bool b) ↔ v = .bl b := ⟨fun h => by cases h; rfl, fun h => by subst h; exact .bl b⟩
theorem dp_str {v : V} {x : Str} : Dp K H v (.str x) ↔ v = .str x := ⟨fun h => by cases h; rfl, fun h => by subst h; exact .str x⟩
theorem dp_non {v : V} : Dp K H v .none ↔ v = .non := ⟨fun h => by cases h; rfl, fun h => by subst h; exact .non⟩
theorem dp_tup {v : V} {ds : List PyData} : Dp K H v (.tuple ds) ↔ ∃ a xs, v = .ref a ∧ SqT K H a xs ∧ DpAll K H xs ds :=
  ⟨fun h => by cases h with | tup a b => exact ⟨_, _, rfl, a, b⟩, fun ⟨a, xs, e, h1, h2⟩ => by subst e; exact .tup h1 h2⟩
theorem dp_lst {v : V} {ds : List PyData} : Dp K H v (.list ds) ↔ ∃ a xs, v = .ref a ∧ SqL K H a xs ∧ DpAll K H xs ds :=
  ⟨fun h => by cases h with | lst a b => exact ⟨_, _, rfl, a, b⟩, fun ⟨a, xs, e, h1, h2⟩ => by subst e; exact .lst h1 h2⟩
theorem dpa_ints : ∀ {g : List Int} {vs : List V}, DpAll K H vs (g.map .int) ↔ vs = g.map V.int
  | [], vs => ⟨fun h => by cases h; rfl, fun h => by subst h; exact .nil⟩
  | i :: g, vs => ⟨fun h => by
      cases h with
      | cons h1 h2 => rw [dp_int.mp h1, dpa_ints.mp h2]; rfl, fun h => by subst h; exact .cons (.int i) (dpa_ints.mpr rfl)⟩
theorem dpa_bls : ∀ {g : List Bool} {vs : List V}, DpAll K H vs (g.map .bool) ↔ vs = g.map V.bl
  | [], vs => ⟨fun h => by cases h; rfl, fun h => by subst h; exact .nil⟩
  | i :: g, vs => ⟨fun h => by
      cases h with
      | cons h1 h2 => rw [dp_bl.mp h1, dpa_bls.mp h2]; rfl, fun h => by subst h; exact .cons (.bl i) (dpa_bls.mpr rfl)⟩
theorem dpa_strs : ∀ {g : List Str} {vs : List V}, DpAll K H vs (g.map .str) ↔ vs = g.map V.str
  | [], vs => ⟨fun h => by cases h; rfl, fun h => by subst h; exact .nil⟩
  | i :: g, vs => ⟨fun h => by
      cases h with
      | cons h1 h2 => rw [dp_str.mp h1, dpa_strs.mp h2]; rfl, fun h => by subst h; exact .cons (.str i) (dpa_strs.mpr rfl)⟩
end
/-! ### the program's data -/
def eI (g : List Int) : PyData := .tuple (g.map .int)
def eT (t : Int × Bool) : PyData := .tuple [.int t.1, .bool t.2]
def eQ (q : Int × Int × Int) : PyData := .tuple [.int q.1, .int q.2.1, .int q.2.2]
def eS (s : List Int × Int) : PyData := .tuple [eI s.1, .int s.2]
section
variable {K : PySem.W.Frag} {H H' : Hp} {v : V}
theorem dp_eI {g : List Int} : Dp K H v (eI g) ↔ ∃ a, v = .ref a ∧ SqT K H a (g.map V.int) :=
  ⟨fun h => by obtain ⟨a, xs, e, h1, h2⟩ := dp_tup.mp h; rw [dpa_ints.mp h2] at h1; exact ⟨a, e, h1⟩, fun ⟨a, e, h1⟩ => dp_tup.mpr ⟨a, _, e, h1, dpa_ints.mpr rfl⟩⟩
theorem dp_eT {t : Int × Bool} : Dp K H v (eT t) ↔ ∃ a, v = .ref a ∧ SqT K H a [.int t.1, .bl t.2] :=
  ⟨fun h => by
    obtain ⟨a, xs, e, h1, h2⟩ := dp_tup.mp h
    cases h2 with
    | cons a1 h2 => cases h2 with
      | cons a2 h2 => cases h2; rw [dp_int.mp a1, dp_bl.mp a2] at h1; exact ⟨a, e, h1⟩, fun ⟨a, e, h1⟩ => dp_tup.mpr ⟨a, _, e, h1, .cons (.int _) (.cons (.bl _) .nil)⟩⟩
theorem dp_eQ {t : Int × Int × Int} : Dp K H v (eQ t) ↔ ∃ a, v = .ref a ∧ SqT K H a [.int t.1, .int t.2.1, .int t.2.2] :=
  ⟨fun h => by
    obtain ⟨a, xs, e, h1, h2⟩ := dp_tup.mp h
    rw [dpa_ints (g := [t.1, t.2.1, t.2.2]) |>.mp h2] at h1
    exact ⟨a, e, h1⟩, fun ⟨a, e, h1⟩ => dp_tup.mpr ⟨a, _, e, h1, dpa_ints (g := [t.1, t.2.1, t.2.2]) |>.mpr rfl⟩⟩
theorem dp_eS {s : List Int × Int} : Dp K H v (eS s) ↔ ∃ a g, v = .ref a ∧ SqT K H a [g, .int s.2] ∧ Dp K H g (eI s.1) :=
  ⟨fun h => by
    obtain ⟨a, xs, e, h1, h2⟩ := dp_tup.mp h
    cases h2 with
    | cons a1 h2 => cases h2 with
      | cons a2 h2 => cases h2; rw [dp_int.mp a2] at h1; exact ⟨a, _, e, h1, a1⟩, fun ⟨a, g, e, h1, h2⟩ => dp_tup.mpr ⟨a, _, e, h1, .cons h2 (.cons (.int _) .nil)⟩⟩
end
theorem noL_int : ∀ g : List Int, noLs (g.map .int) = true := fun g => noLs_map (fun _ => rfl) g
theorem noL_eI (g : List Int) : noL (eI g) = true := by show noLs _ = true; exact noL_int g
theorem noL_eT (t : Int × Bool) : noL (eT t) = true := rfl
theorem noL_eQ (t : Int × Int × Int) : noL (eQ t) = true := rfl
theorem noL_eS (s : List Int × Int) : noL (eS s) = true := by show (noL (eI s.1) && _) = true; rw [noL_eI]; rfl
/-! shapes -/
theorem lays_map {α : Type} {f : α → PyData} (h : ∀ x, (f x).canLay0 = true) : ∀ xs : List α, PyData.canLayAll0 (xs.map f) = true
  | [] => by simp [PyData.canLayAll0]
  | x :: xs => by simp [PyData.canLayAll0, h x, lays_map h xs]
theorem deps_map {α : Type} {f : α → PyData} {n : Nat} (h : ∀ x, (f x).depth ≤ n) : ∀ xs : List α, PyData.depthAll (xs.map f) ≤ n
  | [] => by simp [PyData.depthAll]
  | x :: xs => by
    have h1 := deps_map h xs
    have h2 := h x
    simp only [List.map_cons, PyData.depthAll]
    omega
theorem sh_of {d : PyData} (h : d.canLay0 = true) (h2 : d.depth ≤ 64) : SeqAt.shaped d = true := by
  show (d.canLay0 && decide (d.depth ≤ 64)) = true
  rw [Bool.and_eq_true]
  exact ⟨h, decide_eq_true h2⟩
theorem sh_lst {α : Type} {f : α → PyData} (h : ∀ x, (f x).canLay0 = true) (h2 : ∀ x, (f x).depth ≤ 60) (xs : List α) : SeqAt.shaped (.list (xs.map f)) = true :=
  sh_of (by simp only [PyData.canLay0]; exact lays_map h xs) (by simp only [PyData.depth]; have := deps_map h2 xs; omega)
theorem lay_eI (g : List Int) : (eI g).canLay0 = true := by simp only [eI, PyData.canLay0]; exact lays_map (fun _ => by simp [PyData.canLay0]) g
theorem dep_eI (g : List Int) : (eI g).depth ≤ 1 := by simp only [eI, PyData.depth]; have := deps_map (f := PyData.int) (n := 0) (fun _ => by simp [PyData.depth]) g; omega
theorem lay_eT (t : Int × Bool) : (eT t).canLay0 = true := by simp [eT, PyData.canLay0, PyData.canLayAll0]
theorem dep_eT (t : Int × Bool) : (eT t).depth ≤ 1 := by simp [eT, PyData.depth, PyData.depthAll]
theorem lay_eQ (t : Int × Int × Int) : (eQ t).canLay0 = true := by simp [eQ, PyData.canLay0, PyData.canLayAll0]
theorem dep_eQ (t : Int × Int × Int) : (eQ t).depth ≤ 1 := by simp [eQ, PyData.depth, PyData.depthAll]
theorem lay_eS (s : List Int × Int) : (eS s).canLay0 = true := by simp [eS, PyData.canLay0, PyData.canLayAll0, lay_eI]
theorem dep_eS (s : List Int × Int) : (eS s).depth ≤ 2 := by simp only [eS, PyData.depth, PyData.depthAll]; have := dep_eI s.1; omega
theorem sh_eI (g : List Int) : SeqAt.shaped (eI g) = true := sh_of (lay_eI g) (Nat.le_trans (dep_eI g) (by decide))
theorem sh_eS (s : List Int × Int) : SeqAt.shaped (eS s) = true := sh_of (lay_eS s) (Nat.le_trans (dep_eS s) (by decide))
/-! == -/
theorem eqvs_map {α : Type} {f : α → PyData} [DecidableEq α] (h : ∀ x y, PyData.eqv (f x) (f y) = decide (x = y)) : ∀ xs ys : List α, PyData.eqvAll (xs.map f) (ys.map f) = decide (xs = ys)
  | [], [] => by simp [PyData.eqvAll]
  | [], _ :: _ => by simp [PyData.eqvAll]
  | _ :: _, [] => by simp [PyData.eqvAll]
  | x :: xs, y :: ys => by
    simp only [List.map_cons, PyData.eqvAll, h x y, eqvs_map h xs ys]
    by_cases e : x = y <;> by_cases e2 : xs = ys <;> simp [e, e2]
theorem eqv_int (i j : Int) : PyData.eqv (.int i) (.int j) = decide (i = j) := by simp [PyData.eqv, Bool.beq_eq_decide_eq]
theorem eqv_eI (g k : List Int) : PyData.eqv (eI g) (eI k) = decide (g = k) := by
  simp only [eI, PyData.eqv]
  exact eqvs_map eqv_int g k
theorem eqv_eT (s t : Int × Bool) : PyData.eqv (eT s) (eT t) = decide (s = t) := by
  obtain ⟨a, b⟩ := s
  obtain ⟨c, d⟩ := t
  simp only [eT, PyData.eqv, PyData.eqvAll]
  by_cases e : a = c <;> by_cases e2 : b = d <;> simp [e, e2]
theorem eqv_eQ (s t : Int × Int × Int) : PyData.eqv (eQ s) (eQ t) = decide (s = t) := by
  obtain ⟨a, b, x⟩ := s
  obtain ⟨c, d, y⟩ := t
  simp only [eQ, PyData.eqv, PyData.eqvAll]
  by_cases e : a = c <;> by_cases e2 : b = d <;> by_cases e3 : x = y <;> simp [e, e2, e3]
theorem eqv_eS (s t : List Int × Int) : PyData.eqv (eS s) (eS t) = decide (s = t) := by
  obtain ⟨a, b⟩ := s
  obtain ⟨c, d⟩ := t
  simp only [eS, PyData.eqv, PyData.eqvAll, eqv_eI]
  by_cases e : a = c <;> by_cases e2 : b = d <;> simp [e, e2]
theorem eqv_lst {α : Type} {f : α → PyData} [DecidableEq α] (h : ∀ x y, PyData.eqv (f x) (f y) = decide (x = y)) (xs ys : List α) : PyData.eqv (.list (xs.map f)) (.list (ys.map f)) = decide (xs = ys) := by
  simp only [PyData.eqv]
  exact eqvs_map h xs ys
/-- in among ints -/
theorem inV_ints (i : Int) : ∀ g : List Int, inV (.int i) (g.map V.int) = g.contains i
  | [] => rfl
  | j :: g => by
    have h := inV_ints i g
    unfold inV at h ⊢
    rw [List.map_cons, List.any_cons, h, List.contains_cons]
    show ((j == i) || _) = _
    rw [show (j == i) = (i == j) from by rw [Bool.beq_eq_decide_eq, Bool.beq_eq_decide_eq]; exact decide_eq_decide.mpr eq_comm]
theorem flat_ints : ∀ g : List Int, (g.map V.int).all flatV = true
  | [] => rfl
  | j :: g => by rw [List.map_cons, List.all_cons, flat_ints g]; rfl
/-! ### what a def promises: an answer in a heap that keeps all -/
abbrev RetV := @Evl.RetV
def RetR (R : V → Hp → Prop) (H : Hp) (Q : VK) : Prop := ∀ v H', Ex H H' → R v H' → Q v H'
theorem RetR.go {R : V → Hp → Prop} {H H' : Hp} {Q : VK} (k : RetR R H Q) (e : Ex H H') {v : V} {H2 : Hp} (e2 : Ex H' H2) (h : R v H2) : Q v H2 := k v H2 (e.trans e2) h
theorem ne_l {H H0 : Hp} {a l : Addr} {o : HO} (h : H0 a = some o) (n : H0 l = none) : a ≠ l := ne_of_none h n
/-- an object that stood apart from l -/
theorem ex_mut {H H' : Hp} {p : Addr} {o : HO} (e : Ex H H') (h : H p = none) : Ex H (upd H' p o) := Evl.Ex.mut e h
/-- a list of one's own that reads as ds: new behind H0 -/
def NewL (K : PySem.W.Frag) (H0 : Hp) (v : V) (H : Hp) (ds : List PyData) : Prop := ∃ p xs, v = .ref p ∧ H0 p = none ∧ H p = some (.lst xs) ∧ DpAll K H xs ds
/-! ### calls of defs by their names -/
structure Has (P : Program) (w : World) (K : PySem.W.Frag) (mg : Str → Option Value) (base : Heap) (CX : CXT) (k : Nat) (x : Str) (ps : List Str) (sp : Sp) : Prop where
  g : mg x = some (.ref (He.ga K x))
  ok : ∃ fd, FnOk P w K mg base CX k (He.ga K x) fd ps sp ∧ Binds K fd ps [] ∧ PySem.W.keepIn K (.ref (He.ga K x)) = true
structure HasM (P : Program) (w : World) (K : PySem.W.Frag) (mg : Str → Option Value) (base : Heap) (CX : CXT) (k : Nat) (m : Str) (ps : List Str) (sp : Sp) : Prop where
  cl : Cls K (He.ga K "Night")
  mt : Meth K (He.ga K "Night") m (He.ma K (He.ga K "Night") m)
  ok : ∃ fd, FnOk P w K mg base CX k (He.ma K (He.ga K "Night") m) fd ps sp ∧ Binds K fd ps []
section
variable {X : Cx} {k : Nat} {x m : Str} {ps : List Str} {sp : Sp} {p pos apos : Pos} {e o : Expr} {es : List Expr} {ta : TE} {t : TA} {W : WX} {CX : CXT}
/-- a call that lets nothing out (or where nothing may come out: E0) -/
theorem pe_f0 (F : Has X.prog X.w X.K X.mg X.base CX k x ps sp) (hr : Room k X.A) (hg : Gl X x) (hx : Passes CX X E0) (ha : PA X (e :: es) t) (hdb : (x == ("__debug__" : Str)) = false := by decide)
    (he : starEach (e :: es) X.env = (false, eval e X.env) :: starEach es X.env := by rfl) (hpl : (backTo pos (starEach es X.env)).any (·.1) = false := by rfl) : PE X (.Call (.Name x p) (e :: es) [] pos) (tCall sp [] E0 t) := by
  obtain ⟨fd, G, b, kp⟩ := F.ok
  exact pe_call G hr hg F.g kp b .nil hx ha hdb he hpl
theorem pe_f (F : Has X.prog X.w X.K X.mg X.base CX0 k x ps sp) (hr : Room k X.A) (hg : Gl X x) (ha : PA X (e :: es) t) (hdb : (x == ("__debug__" : Str)) = false := by decide)
    (he : starEach (e :: es) X.env = (false, eval e X.env) :: starEach es X.env := by rfl) (hpl : (backTo pos (starEach es X.env)).any (·.1) = false := by rfl) : PE X (.Call (.Name x p) (e :: es) [] pos) (tCall sp [] E0 t) :=
  pe_f0 F hr hg pass0 ha hdb he hpl
/-- a call that may raise: the wish at the slots -/
theorem pe_fx (F : Has X.prog X.w X.K X.mg X.base (L2.CX X.prog X.w) k x ps sp) (hr : Room k X.A) (hg : Gl X x) (tk : Takes X W) (ha : PA X (e :: es) t) (hdb : (x == ("__debug__" : Str)) = false := by decide)
    (he : starEach (e :: es) X.env = (false, eval e X.env) :: starEach es X.env := by rfl) (hpl : (backTo pos (starEach es X.env)).any (·.1) = false := by rfl) : PE X (.Call (.Name x p) (e :: es) [] pos) (tCallS sp (WE W) t) := by
  obtain ⟨fd, G, b, kp⟩ := F.ok
  exact pe_callS G hr hg F.g kp b (fun σ => passAt tk σ) ha hdb he hpl
/-- a method of a night -/
theorem pe_nm {C : Addr} {pl : Sem Bool} (ho : PE X o ta) (F : HasM X.prog X.w X.K X.mg X.base CX k m ps sp) (hr : Room k X.A) (hx : Passes CX X E0) (ha : PA X (e :: es) t)
    (hst : starEach (e :: es) X.env = (false, eval e X.env) :: starEach es X.env := by rfl) (hpl : (backTo pos (starEach es X.env)).any (·.1) = false := by rfl)
    (ht : eval (.Call (.Attribute o m apos) (e :: es) [] pos) X.env = (do
      let ov ← eval o X.env
      standAt apos.atName
      let (f, first) ← holding [ov] (getMethod ov m pl)
      callWith pos f first (backTo pos (starEach (e :: es) X.env)) (backToKw pos (keywordEach [] X.env))) := by rfl) (hC : He.ga X.K "Night" = C := by rfl) :
    PE X (.Call (.Attribute o m apos) (e :: es) [] pos) (tMeth C m sp [] E0 ta t) := by
  subst hC
  obtain ⟨fd, G, b⟩ := F.ok
  exact pe_meth ho F.cl F.mt G hr b .nil hx ha hst hpl ht
theorem pe_nm0 {C : Addr} {pl : Sem Bool} (ho : PE X o ta) (F : HasM X.prog X.w X.K X.mg X.base CX k m ps sp) (hr : Room k X.A) (hx : Passes CX X E0)
    (ht : eval (.Call (.Attribute o m apos) [] [] pos) X.env = (do
      let ov ← eval o X.env
      standAt apos.atName
      let (f, first) ← holding [ov] (getMethod ov m pl)
      callWith pos f first (backTo pos (starEach [] X.env)) (backToKw pos (keywordEach [] X.env))) := by rfl) (hC : He.ga X.K "Night" = C := by rfl) :
    PE X (.Call (.Attribute o m apos) [] [] pos) (tMeth C m sp [] E0 ta tNil) := by
  subst hC
  obtain ⟨fd, G, b⟩ := F.ok
  exact pe_meth0 ho F.cl F.mt G hr b .nil hx ht
end
/-- raise C('..'), C an own exception -/
theorem ps_raiseOwn {X : Cx} {W : WX} {x m : Str} {j : Nat} {p p2 p3 pos : Pos} (hc : X.calm = true) (tk : Takes X W) (q : ExOk X.K (He.ga X.K x)) (gC : X.mg x = some (.ref (He.ga X.K x))) (hg : Gl X x) (hdb : (x == ("__debug__" : Str)) = false := by decide) :
    PS X (.Raise (some (.Call (.Name x p) [.Constant (.str m) j p2] [] p3)) none pos) (fun _ σ H => W (.ref (He.ga X.K x)) none σ H) :=
  ps_raise hc tk (pmk_own PySem.F.excBase_ValueError q.ex gC q.kp (raises_own q.sub q.ty) hg hdb)
/-! ### comprehensions whose items carry no list -/
section
variable {K : PySem.W.Frag} {g : TG} {tt : TT} {te : TE} {vs : List Nat} {σ : L2.St} {Hs : Hp}
/-- one turn, told by what it gives: f none: left out -/
def Turned (g : TG) (tt : TT) (te : TE) (vs : List Nat) (σ : L2.St) (x : V) (H : Hp) (C : Option V → Hp → Prop) : Prop :=
  g x (wipe σ vs) H fun σ2 H2 => wipe σ2 vs = wipe σ vs ∧ tt σ2 H2 fun b H3 => if b = true then te σ2 H3 fun y H4 => C (some y) H4 else C none H3
/-- what a turn must say: from any later heap, for any end that takes the due -/
def TurnOk (K : PySem.W.Frag) (g : TG) (tt : TT) (te : TE) (vs : List Nat) (σ : L2.St) (Hs : Hp) (x : V) (due : Option PyData) : Prop :=
  ∀ (H : Hp) (C : Option V → Hp → Prop), Ex Hs H → (∀ H', Ex H H' → due = none → C none H') → (∀ y d H', Ex H H' → due = some d → Dp K H' y d → C (some y) H') → Turned g tt te vs σ x H C
theorem turned_mono {x : V} {H : Hp} {C C' : Option V → Hp → Prop} (hC : ∀ o H, C o H → C' o H) (mono : ∀ C C' : Option V → Hp → Prop, (∀ o H, C o H → C' o H) → Turned g tt te vs σ x H C → Turned g tt te vs σ x H C') (h : Turned g tt te vs σ x H C) : Turned g tt te vs σ x H C' := mono C C' hC h
/-- the invariant of such a comprehension -/
def LcInv (K : PySem.W.Frag) (Hs : Hp) (D : Addr) (fs : Nat → Option PyData) (i : Nat) (H : Hp) : Prop := Hs D = none ∧ Ex Hs H ∧ ∃ acc, H D = some (.lst acc) ∧ DpAll K H acc ((List.range i).filterMap fs) ∧ acc.length ≤ i
theorem lc_turn {D : Addr} {fs : Nat → Option PyData} {i : Nat} {H : Hp} {x : V} (hn : ∀ d, fs i = some d → noL d = true) (hns : noLs ((List.range i).filterMap fs) = true) (hi : i < 1000000) (I : LcInv K Hs D fs i H) (ht : TurnOk K g tt te vs σ Hs x (fs i)) :
    g x (wipe σ vs) H fun σ2 H2 => wipe σ2 vs = wipe σ vs ∧ tt σ2 H2 fun b H3 => if b = true then te σ2 H3 fun y H4 => ∃ acc, H4 D = some (.lst acc) ∧ acc.length < sizeLine ∧ LcInv K Hs D fs (i + 1) (upd H4 D (.lst (acc ++ [y]))) else LcInv K Hs D fs (i + 1) H3 := by
  obtain ⟨n0, e0, acc, hD, ha, hl⟩ := I
  have q := ht H (fun o H4 => match o with
    | some y => ∃ acc, H4 D = some (.lst acc) ∧ acc.length < sizeLine ∧ LcInv K Hs D fs (i + 1) (upd H4 D (.lst (acc ++ [y])))
    | none => LcInv K Hs D fs (i + 1) H4) e0 (fun H' e hd => ?_) (fun y d H' e hd hy => ?_)
  · exact q
  · refine ⟨n0, e0.trans e, acc, e _ _ hD, ?_, by omega⟩
    rw [List.range_succ, List.filterMap_append]
    simp only [List.filterMap_cons, hd, List.filterMap_nil, List.append_nil]
    exact dpa_mono e _ _ ha
  · refine ⟨acc, e _ _ hD, Nat.lt_of_le_of_lt hl (Nat.lt_trans hi (by decide)), n0, (e0.trans e).mut n0, acc ++ [y], upd_same, ?_, by rw [List.length_append, List.length_singleton]; omega⟩
    have u : Up H' (upd H' D (.lst (acc ++ [y]))) := Up.lst (e _ _ hD)
    rw [List.range_succ, List.filterMap_append]
    simp only [List.filterMap_cons, hd, List.filterMap_nil]
    exact dpa_snoc (dpa_up u _ _ hns (dpa_mono e _ _ ha)) (dp_up u _ _ (hn d hd) hy)
theorem noLs_fm {fs : Nat → Option PyData} {n : Nat} (hn : ∀ i d, fs i = some d → noL d = true) : ∀ l : List Nat, noLs (l.filterMap fs) = true
  | [] => rfl
  | j :: l => by
    rw [List.filterMap_cons]
    cases h : fs j with
    | none => exact noLs_fm (n := n) hn l
    | some d => show (noL d && noLs _) = true; rw [hn j d h, noLs_fm (n := n) hn l]; rfl
/-- what is behind it: a new list of the items given -/
def LcEnd (K : PySem.W.Frag) (Hs : Hp) (ds : List PyData) (Q : VK) : Prop := ∀ D H' acc, Hs D = none → Ex Hs H' → H' D = some (.lst acc) → DpAll K H' acc ds → Q (.ref D) H'
theorem lcR {lo : Int} {n : Nat} {D : Addr} {Q : VK} (fs : Nat → Option PyData) (hn : ∀ i d, fs i = some d → noL d = true) (hz : n < 1000000) (hD : Hs D = none)
    (ht : ∀ i, i < n → TurnOk K g tt te vs σ Hs (.int (lo + i)) (fs i)) (q : LcEnd K Hs ((List.range n).filterMap fs) Q) :
    ∃ W : Nat → Nat → Hp → Prop, (∃ m, W 0 m (upd Hs D (.lst []))) ∧ ∀ i m H, W i m H →
      ((Itr lo n).stop i H ∧ Q (.ref D) H) ∨ ((Itr lo n).go i H ∧ ∃ Nx : Hp → Prop, (∀ H', Nx H' → ∃ m', m' < m ∧ W (i + 1) m' H') ∧ ∀ x H', (Itr lo n).yld i H x H' → g x (wipe σ vs) H' fun σ2 H2 => wipe σ2 vs = wipe σ vs ∧ tt σ2 H2 fun b H3 =>
        if b = true then te σ2 H3 fun y H4 => ∃ acc, H4 D = some (.lst acc) ∧ acc.length < sizeLine ∧ Nx (upd H4 D (.lst (acc ++ [y]))) else Nx H3) :=
  lc_range (LcInv K Hs D fs) ⟨hD, Evl.Ex.new hD, [], upd_same, .nil, Nat.le_refl _⟩ (fun i H hi I => lc_turn (hn i) (noLs_fm (n := 0) hn _) (Nat.lt_trans hi hz) I (ht i hi)) fun H ⟨n0, e0, acc, h1, h2, _⟩ => q D H acc n0 e0 h1 h2
theorem lcL {a : Addr} {xs : List V} {D : Addr} {Q : VK} (fs : Nat → Option PyData) (hn : ∀ i d, fs i = some d → noL d = true) (hz : xs.length < 1000000) (hD : Hs D = none) (hs : SqL K Hs a xs)
    (ht : ∀ i x, xs[i]? = some x → TurnOk K g tt te vs σ Hs x (fs i)) (q : LcEnd K Hs ((List.range xs.length).filterMap fs) Q) :
    ∃ W : Nat → Nat → Hp → Prop, (∃ m, W 0 m (upd Hs D (.lst []))) ∧ ∀ i m H, W i m H →
      ((Itl K a).stop i H ∧ Q (.ref D) H) ∨ ((Itl K a).go i H ∧ ∃ Nx : Hp → Prop, (∀ H', Nx H' → ∃ m', m' < m ∧ W (i + 1) m' H') ∧ ∀ x H', (Itl K a).yld i H x H' → g x (wipe σ vs) H' fun σ2 H2 => wipe σ2 vs = wipe σ vs ∧ tt σ2 H2 fun b H3 =>
        if b = true then te σ2 H3 fun y H4 => ∃ acc, H4 D = some (.lst acc) ∧ acc.length < sizeLine ∧ Nx (upd H4 D (.lst (acc ++ [y]))) else Nx H3) :=
  lc_list (xs := xs) (LcInv K Hs D fs) ⟨hD, Evl.Ex.new hD, [], upd_same, .nil, Nat.le_refl _⟩ (fun i H _ I => Evl.ex_l I.2.1 hs) (fun i x H hi I => lc_turn (hn i) (noLs_fm (n := 0) hn _) (Nat.lt_trans (List.getElem?_eq_some_iff.mp hi).1 hz) I (ht i x hi)) fun H ⟨n0, e0, acc, h1, h2, _⟩ => q D H acc n0 e0 h1 h2
theorem lcT {a : Addr} {xs : List V} {D : Addr} {Q : VK} (fs : Nat → Option PyData) (hn : ∀ i d, fs i = some d → noL d = true) (hz : xs.length < 1000000) (hD : Hs D = none) (hs : SqT K Hs a xs)
    (ht : ∀ i x, xs[i]? = some x → TurnOk K g tt te vs σ Hs x (fs i)) (q : LcEnd K Hs ((List.range xs.length).filterMap fs) Q) :
    ∃ W : Nat → Nat → Hp → Prop, (∃ m, W 0 m (upd Hs D (.lst []))) ∧ ∀ i m H, W i m H →
      ((Itt K a).stop i H ∧ Q (.ref D) H) ∨ ((Itt K a).go i H ∧ ∃ Nx : Hp → Prop, (∀ H', Nx H' → ∃ m', m' < m ∧ W (i + 1) m' H') ∧ ∀ x H', (Itt K a).yld i H x H' → g x (wipe σ vs) H' fun σ2 H2 => wipe σ2 vs = wipe σ vs ∧ tt σ2 H2 fun b H3 =>
        if b = true then te σ2 H3 fun y H4 => ∃ acc, H4 D = some (.lst acc) ∧ acc.length < sizeLine ∧ Nx (upd H4 D (.lst (acc ++ [y]))) else Nx H3) :=
  lc_tup (xs := xs) (LcInv K Hs D fs) ⟨hD, Evl.Ex.new hD, [], upd_same, .nil, Nat.le_refl _⟩ (fun i H _ I => Evl.ex_t I.2.1 hs) (fun i x H hi I => lc_turn (hn i) (noLs_fm (n := 0) hn _) (Nat.lt_trans (List.getElem?_eq_some_iff.mp hi).1 hz) I (ht i x hi)) fun H ⟨n0, e0, acc, h1, h2, _⟩ => q D H acc n0 e0 h1 h2
end

end Fy

namespace Fy
open PySem PySem.Spec PyProof.Rows L2
/-! ### readings by data: a term gives a datum, from any later heap -/
def EvD (K : PySem.W.Frag) (te : TE) (σ : L2.St) (H : Hp) (d : PyData) : Prop := ∀ H1, Ex H H1 → ∀ Q : VK, (∀ v H2, Ex H1 H2 → Dp K H2 v d → Q v H2) → te σ H1 Q
/-- a new list of one's own -/
def EvN (K : PySem.W.Frag) (te : TE) (σ : L2.St) (H : Hp) (ds : List PyData) : Prop := ∀ H1, Ex H H1 → ∀ Q : VK, (∀ v H2, Ex H1 H2 → NewL K H1 v H2 ds → Q v H2) → te σ H1 Q
def EvTD (tt : TT) (σ : L2.St) (H : Hp) (b : Bool) : Prop := Evl.EvT tt σ H b
def EvDs (K : PySem.W.Frag) (ta : TA) (σ : L2.St) (H : Hp) (ds : List PyData) : Prop := ∀ H1, Ex H H1 → ∀ Q : List V → Hp → Prop, (∀ vs H2, Ex H1 H2 → DpAll K H2 vs ds → Q vs H2) → ta σ H1 Q
section
variable {K : PySem.W.Frag} {σ : L2.St} {H H' : Hp} {ta tb tc te : TE} {t u : TT} {d e z : PyData} {ds es : List PyData}
theorem EvD.mono (x : Ex H H') (h : EvD K te σ H d) : EvD K te σ H' d := fun H1 a Q q => h H1 (x.trans a) Q q
theorem EvN.toD (h : EvN K te σ H ds) : EvD K te σ H (.list ds) := fun H1 x Q q => h H1 x Q fun v H2 x2 ⟨p, xs, e, n, h1, h2⟩ => q v H2 x2 (dp_lst.mpr ⟨p, xs, e, SqL.of h1, h2⟩)
theorem EvD.cast (h : EvD K te σ H d) (x : d = e) : EvD K te σ H e := x ▸ h
theorem EvN.cast (h : EvN K te σ H ds) (x : ds = es) : EvN K te σ H es := x ▸ h
theorem ed_var {i : Nat} {v : V} (h : σ[i]? = some (some v)) (hd : Dp K H v d) : EvD K (tVar i) σ H d := fun H1 x _ q => ⟨v, h, q v H1 (Evl.Ex.refl H1) (dp_mono x _ _ hd)⟩
theorem ed_int {i : Int} : EvD K (tC (.int i)) σ H (.int i) := fun H1 _ _ q => q _ H1 (Evl.Ex.refl H1) (.int i)
theorem ed_bl {i : Bool} : EvD K (tC (.bl i)) σ H (.bool i) := fun H1 _ _ q => q _ H1 (Evl.Ex.refl H1) (.bl i)
theorem ed_str {i : Str} : EvD K (tC (.str i)) σ H (.str i) := fun H1 _ _ q => q _ H1 (Evl.Ex.refl H1) (.str i)
theorem ed_non : EvD K (tC .non) σ H .none := fun H1 _ _ q => q _ H1 (Evl.Ex.refl H1) .non
/-- a two-place operation, by data -/
def RD (K : PySem.W.Frag) (r : R2) (d e z : PyData) : Prop := ∀ H x y, Dp K H x d → Dp K H y e → ∀ Q : VK, (∀ v H2, Ex H H2 → Dp K H2 v z → Q v H2) → r x y H Q
theorem ed_op {r : R2} (ha : EvD K ta σ H d) (hb : EvD K tb σ H e) (hr : RD K r d e z) : EvD K (tOp r ta tb) σ H z := fun H1 x Q q =>
  ha H1 x _ fun v1 H2 x2 h1 => hb H2 (x.trans x2) _ fun v2 H3 x3 h2 => hr H3 v1 v2 (dp_mono x3 _ _ h1) h2 Q fun v H4 x4 h => q v H4 ((x2.trans x3).trans x4) h
theorem rd_I0 {g : Int → Int → V} {i j : Int} (hz : ∀ H, Dp K H (g i j) z) : RD K (rI0 g) (.int i) (.int j) z := fun H x y hx hy Q q => ⟨i, j, dp_int.mp hx, dp_int.mp hy, q _ H (Evl.Ex.refl H) (hz H)⟩
theorem rd_I {C : Int → Int → Prop} {g : Int → Int → V} {i j : Int} (hc : C i j) (hz : ∀ H, Dp K H (g i j) z) : RD K (rI C g) (.int i) (.int j) z := fun H x y hx hy Q q => ⟨i, j, dp_int.mp hx, dp_int.mp hy, hc, q _ H (Evl.Ex.refl H) (hz H)⟩
theorem rd_eqI {i j : Int} : RD K rEq (.int i) (.int j) (.bool (decide (i = j))) := fun H x y hx hy Q q => by
  rw [dp_int.mp hx, dp_int.mp hy]
  refine ⟨rfl, ?_⟩
  rw [dec_int, Bool.beq_eq_decide_eq]
  exact q _ H (Evl.Ex.refl H) (.bl _)
theorem rd_neI {i j : Int} : RD K rNe (.int i) (.int j) (.bool (!decide (i = j))) := fun H x y hx hy Q q => by
  rw [dp_int.mp hx, dp_int.mp hy]
  refine ⟨rfl, ?_⟩
  rw [dec_int, Bool.beq_eq_decide_eq]
  exact q _ H (Evl.Ex.refl H) (.bl _)
theorem rd_eqB {i j : Bool} : RD K rEq (.bool i) (.bool j) (.bool (decide (i = j))) := fun H x y hx hy Q q => by
  rw [dp_bl.mp hx, dp_bl.mp hy]
  refine ⟨rfl, ?_⟩
  rw [dec_bl, Bool.beq_eq_decide_eq]
  exact q _ H (Evl.Ex.refl H) (.bl _)
theorem rd_neB {i j : Bool} : RD K rNe (.bool i) (.bool j) (.bool (!decide (i = j))) := fun H x y hx hy Q q => by
  rw [dp_bl.mp hx, dp_bl.mp hy]
  refine ⟨rfl, ?_⟩
  rw [dec_bl, Bool.beq_eq_decide_eq]
  exact q _ H (Evl.Ex.refl H) (.bl _)
theorem rd_eqS {i j : Str} : RD K rEq (.str i) (.str j) (.bool (decide (i = j))) := fun H x y hx hy Q q => by
  rw [dp_str.mp hx, dp_str.mp hy]
  refine ⟨rfl, ?_⟩
  have e : decide (V.str i = V.str j) = decide (i = j) := decide_eq_decide.mpr ⟨fun h => V.str.inj h, fun h => congrArg V.str h⟩
  rw [e]
  exact q _ H (Evl.Ex.refl H) (.bl _)
theorem rd_neS {i j : Str} : RD K rNe (.str i) (.str j) (.bool (!decide (i = j))) := fun H x y hx hy Q q => by
  rw [dp_str.mp hx, dp_str.mp hy]
  refine ⟨rfl, ?_⟩
  have e : decide (V.str i = V.str j) = decide (i = j) := decide_eq_decide.mpr ⟨fun h => V.str.inj h, fun h => congrArg V.str h⟩
  rw [e]
  exact q _ H (Evl.Ex.refl H) (.bl _)
theorem rd_eqD (hd : SeqAt.shaped d = true) (he : SeqAt.shaped e = true) : RD K (rEqD K) d e (.bool (PyData.eqv d e)) := fun H x y hx hy Q q => ⟨d, e, hx, hy, hd, he, q _ H (Evl.Ex.refl H) (.bl _)⟩
theorem rd_neD (hd : SeqAt.shaped d = true) (he : SeqAt.shaped e = true) : RD K (rNeD K) d e (.bool (!PyData.eqv d e)) := fun H x y hx hy Q q => ⟨d, e, hx, hy, hd, he, q _ H (Evl.Ex.refl H) (.bl _)⟩
theorem rd_inT {i : Int} {g : List Int} : RD K (rIn K false) (.int i) (eI g) (.bool (g.contains i)) := fun H x y hx hy Q q => by
  obtain ⟨a, rfl, hg⟩ := dp_eI.mp hy
  rw [dp_int.mp hx]
  refine ⟨a, _, rfl, .inr hg, rfl, flat_ints g, ?_⟩
  rw [if_neg Bool.false_ne_true, inV_ints]
  exact q _ H (Evl.Ex.refl H) (.bl _)
theorem rd_niT {i : Int} {g : List Int} : RD K (rIn K true) (.int i) (eI g) (.bool (!g.contains i)) := fun H x y hx hy Q q => by
  obtain ⟨a, rfl, hg⟩ := dp_eI.mp hy
  rw [dp_int.mp hx]
  refine ⟨a, _, rfl, .inr hg, rfl, flat_ints g, ?_⟩
  rw [if_pos rfl, inV_ints]
  exact q _ H (Evl.Ex.refl H) (.bl _)
theorem rd_inDL (hd : SeqAt.shaped d = true) (he : SeqAt.shaped (.list ds) = true) : RD K (rInD K) d (.list ds) (.bool (ds.any fun z => PyData.eqv z d)) := fun H x y hx hy Q q => ⟨d, ds, hx, hy, hd, he, q _ H (Evl.Ex.refl H) (.bl _)⟩
theorem rd_niDL (hd : SeqAt.shaped d = true) (he : SeqAt.shaped (.list ds) = true) : RD K (rNotInD K) d (.list ds) (.bool (!ds.any fun z => PyData.eqv z d)) := fun H x y hx hy Q q => ⟨d, ds, hx, hy, hd, he, q _ H (Evl.Ex.refl H) (.bl _)⟩
theorem atI_dpa {vs : List V} {i : Int} (h : DpAll K H vs ds) (ha : atI ds i = some d) : ∃ v, atI vs i = some v ∧ Dp K H v d := by
  unfold atI at ha ⊢
  rw [dpa_len h]
  cases hx : ixN ds.length i with
  | none => rw [hx] at ha; cases ha
  | some j =>
    rw [hx] at ha
    exact dpa_get' h ha
theorem rd_ixL {i : Int} (ha : atI ds i = some z) : RD K (rIxL K) (.list ds) (.int i) z := fun H x y hx hy Q q => by
  obtain ⟨a, xs, rfl, h1, h2⟩ := dp_lst.mp hx
  obtain ⟨v, h3, h4⟩ := atI_dpa h2 ha
  exact ⟨a, xs, i, v, rfl, dp_int.mp hy, h1, h3, q v H (Evl.Ex.refl H) h4⟩
theorem rd_ixT {i : Int} (ha : atI ds i = some z) : RD K (rIxT K) (.tuple ds) (.int i) z := fun H x y hx hy Q q => by
  obtain ⟨a, xs, rfl, h1, h2⟩ := dp_tup.mp hx
  obtain ⟨v, h3, h4⟩ := atI_dpa h2 ha
  exact ⟨a, xs, i, v, rfl, dp_int.mp hy, h1, h3, q v H (Evl.Ex.refl H) h4⟩
theorem ed_un {g : Int → V} {i : Int} (ha : EvD K ta σ H (.int i)) (hz : ∀ H, Dp K H (g i) z) : EvD K (tUn (rU g) ta) σ H z := fun H1 x Q q => ha H1 x _ fun v1 H2 x2 h1 => ⟨i, dp_int.mp h1, q _ H2 x2 (hz H2)⟩
theorem ed_chain {i j k : Int} (ha : EvD K ta σ H (.int i)) (hb : EvD K tb σ H (.int j)) (hc : EvD K tc σ H (.int k)) {p p' : Int → Int → Bool} :
    EvD K (tChain (rI0 fun i j => .bl (p i j)) (rI0 fun i j => .bl (p' i j)) ta tb tc) σ H (.bool (p i j && p' j k)) := fun H1 x Q q =>
  ha H1 x _ fun v1 H2 x2 h1 => hb H2 (x.trans x2) _ fun v2 H3 x3 h2 => by
    cases dp_int.mp h1
    cases dp_int.mp h2
    refine ⟨i, j, rfl, rfl, _, rfl, ?_⟩
    cases hp : p i j with
    | false => rw [if_neg Bool.false_ne_true]; rw [hp] at q; exact q _ H3 (x2.trans x3) (.bl false)
    | true =>
      rw [if_pos rfl]
      rw [hp, Bool.true_and] at q
      exact hc H3 ((x.trans x2).trans x3) _ fun v3 H4 x4 h3 => by
        cases dp_int.mp h3
        exact ⟨j, k, rfl, rfl, q _ H4 ((x2.trans x3).trans x4) (.bl _)⟩
theorem eds_nil : EvDs K tNil σ H [] := fun H1 _ _ q => q [] H1 (Evl.Ex.refl H1) .nil
theorem eds_cons {tr : TA} (h : EvD K te σ H d) (hr : EvDs K tr σ H ds) : EvDs K (tCons te tr) σ H (d :: ds) := fun H1 x _ q =>
  h H1 x _ fun v H2 x2 h1 => hr H2 (x.trans x2) _ fun vs H3 x3 h2 => q _ H3 (x2.trans x3) (.cons (dp_mono x3 _ _ h1) h2)
theorem ed_tup {tr : TA} (h : EvDs K tr σ H ds) (hl : ds.length ≤ 100000) : EvD K (tTup tr) σ H (.tuple ds) := fun H1 x _ q =>
  h H1 x _ fun vs H2 x2 h2 => ⟨Evl.sz_of (by rw [dpa_len h2]; exact hl), fun p hp => q _ _ (x2.trans (Evl.Ex.new hp)) (dp_tup.mpr ⟨p, vs, rfl, SqT.of upd_same, dpa_mono (Evl.Ex.new hp) _ _ h2⟩)⟩
theorem en_lst {tr : TA} (h : EvDs K tr σ H ds) (hl : ds.length ≤ 100000) : EvN K (tLst tr) σ H ds := fun H1 x _ q =>
  h H1 x _ fun vs H2 x2 h2 => ⟨Evl.sz_of (by rw [dpa_len h2]; exact hl), fun p hp => q _ _ (x2.trans (Evl.Ex.new hp)) ⟨p, vs, rfl, Evl.fresh_back x2 hp, upd_same, dpa_mono (Evl.Ex.new hp) _ _ h2⟩⟩
/-- a built-in's call, by data -/
def CD (K : PySem.W.Frag) (r : List V → Hp → VK → Prop) (ds : List PyData) (z : PyData) : Prop := ∀ H vs, DpAll K H vs ds → ∀ Q : VK, (∀ v H2, Ex H H2 → Dp K H2 v z → Q v H2) → r vs H Q
def CN (K : PySem.W.Frag) (r : List V → Hp → VK → Prop) (ds : List PyData) (zs : List PyData) : Prop := ∀ H vs, DpAll K H vs ds → ∀ Q : VK, (∀ v H2, Ex H H2 → NewL K H v H2 zs → Q v H2) → r vs H Q
theorem NewL.back {H0 H1 H2 : Hp} {v : V} (x : Ex H0 H1) (h : NewL K H1 v H2 ds) : NewL K H0 v H2 ds := by
  obtain ⟨p, xs, e, n, h1, h2⟩ := h
  exact ⟨p, xs, e, Evl.fresh_back x n, h1, h2⟩
theorem NewL.dp {H0 : Hp} {v : V} (h : NewL K H0 v H ds) : Dp K H v (.list ds) := by
  obtain ⟨p, xs, e, n, h1, h2⟩ := h
  exact dp_lst.mpr ⟨p, xs, e, SqL.of h1, h2⟩
theorem ed_cb {r : List V → Hp → VK → Prop} {tr : TA} (h : EvDs K tr σ H ds) (hr : CD K r ds z) : EvD K (tCB r tr) σ H z := fun H1 x Q q =>
  h H1 x _ fun vs H2 x2 h2 => hr H2 vs h2 Q fun v H3 x3 h3 => q v H3 (x2.trans x3) h3
theorem en_cb {r : List V → Hp → VK → Prop} {tr : TA} (h : EvDs K tr σ H ds) (hr : CN K r ds es) : EvN K (tCB r tr) σ H es := fun H1 x Q q =>
  h H1 x _ fun vs H2 x2 h2 => hr H2 vs h2 Q fun v H3 x3 h3 => q v H3 (x2.trans x3) (h3.back x2)
abbrev rLenQ (K : PySem.W.Frag) : List V → Hp → VK → Prop := fun xs H Q => ∃ p ys, xs = [.ref p] ∧ (SqL K H p ys ∨ SqT K H p ys) ∧ Q (.int ys.length) H
theorem cd_lenL : CD K (rLenQ K) [.list ds] (.int ds.length) := fun H vs h Q q => by
  cases h with
  | cons h1 h2 =>
    cases h2
    obtain ⟨a, xs, rfl, h3, h4⟩ := dp_lst.mp h1
    refine ⟨a, xs, rfl, .inl h3, ?_⟩
    rw [dpa_len h4]
    exact q _ H (Evl.Ex.refl H) (.int _)
theorem cd_lenT : CD K (rLenQ K) [.tuple ds] (.int ds.length) := fun H vs h Q q => by
  cases h with
  | cons h1 h2 =>
    cases h2
    obtain ⟨a, xs, rfl, h3, h4⟩ := dp_tup.mp h1
    refine ⟨a, xs, rfl, .inr h3, ?_⟩
    rw [dpa_len h4]
    exact q _ H (Evl.Ex.refl H) (.int _)
theorem cd_lenI {g : List Int} : CD K (rLenQ K) [eI g] (.int g.length) := by
  have h := cd_lenT (K := K) (ds := g.map .int)
  rw [List.length_map] at h
  exact h
abbrev rTupQ (K : PySem.W.Frag) : List V → Hp → VK → Prop := fun xs H Q => ∃ p ys, xs = [.ref p] ∧ ((SqL K H p ys ∧ ∀ l, H l = none → Q (.ref l) (upd H l (.tup ys))) ∨ (SqT K H p ys ∧ Q (.ref p) H))
theorem cd_tupL : CD K (rTupQ K) [.list ds] (.tuple ds) := fun H vs h Q q => by
  cases h with
  | cons h1 h2 =>
    cases h2
    obtain ⟨a, xs, rfl, h3, h4⟩ := dp_lst.mp h1
    exact ⟨a, xs, rfl, .inl ⟨h3, fun l hl => q _ _ (Evl.Ex.new hl) (dp_tup.mpr ⟨l, xs, rfl, SqT.of upd_same, dpa_mono (Evl.Ex.new hl) _ _ h4⟩)⟩⟩
abbrev rListQ (K : PySem.W.Frag) : List V → Hp → VK → Prop := fun xs H Q => ∃ p ys, xs = [.ref p] ∧ (SqL K H p ys ∨ SqT K H p ys) ∧ ∀ l, H l = none → Q (.ref l) (upd H l (.lst ys))
theorem cn_listL : CN K (rListQ K) [.list ds] ds := fun H vs h Q q => by
  cases h with
  | cons h1 h2 =>
    cases h2
    obtain ⟨a, xs, rfl, h3, h4⟩ := dp_lst.mp h1
    exact ⟨a, xs, rfl, .inl h3, fun l hl => q _ _ (Evl.Ex.new hl) ⟨l, xs, rfl, hl, upd_same, dpa_mono (Evl.Ex.new hl) _ _ h4⟩⟩
/-- isinstance(x, T), T built-in -/
def tyN : PyData → String
  | .none => "NoneType"
  | .bool _ => "bool"
  | .int _ => "int"
  | .str _ => "str"
  | .list _ => "list"
  | .tuple _ => "tuple"
  | .dict _ => "dict"
theorem tyx_L {a : Addr} {xs : List V} (h : SqL K H a xs) : TyX K H (.ref a) (.type "list") := by
  rcases h with (h | ⟨o, h⟩) | ⟨o, its, n, hk, hc, _⟩
  · exact .base (.lst h)
  · exact .base (.frz h)
  · exact .kList hk hc
theorem tyx_T {a : Addr} {xs : List V} (h : SqT K H a xs) : TyX K H (.ref a) (.type "tuple") := by
  rcases h with (h | ⟨o, h⟩) | ⟨o, its, n, hk, hc, _⟩
  · exact .base (.tup h)
  · exact .fTuple h
  · exact .kTuple hk hc
theorem dp_tyx {v : V} : ∀ {d : PyData}, Dp K H v d → TyX K H v (.type (tyN d))
  | .none, h => by cases h; exact .base .non
  | .bool b, h => by cases h; exact .base (.bl b)
  | .int i, h => by cases h; exact .base (.int i)
  | .str x, h => by cases h; exact .base (.str x)
  | .list ds, h => by
    obtain ⟨a, xs, rfl, h1, _⟩ := dp_lst.mp h
    exact tyx_L h1
  | .tuple ds, h => by
    obtain ⟨a, xs, rfl, h1, _⟩ := dp_tup.mp h
    exact tyx_T h1
  | .dict _, h => by cases h
/-- a call of isinstance upon a built-in class -/
def isT (T : String) : PyData → Bool
  | .none => T == "NoneType"
  | .bool _ => T == "bool" || T == "int"
  | .int _ => T == "int"
  | .str _ => T == "str"
  | .list _ => T == "list"
  | .tuple _ => T == "tuple"
  | .dict _ => T == "dict"
theorem kb_int : ∀ d, kitB (tyN d) "int" = some (isT "int" d)
  | .none => by show kitB "NoneType" "int" = some false; decide +kernel
  | .bool _ => by show kitB "bool" "int" = some true; decide +kernel
  | .int _ => by show kitB "int" "int" = some true; decide +kernel
  | .str _ => by show kitB "str" "int" = some false; decide +kernel
  | .list _ => by show kitB "list" "int" = some false; decide +kernel
  | .tuple _ => by show kitB "tuple" "int" = some false; decide +kernel
  | .dict _ => by show kitB "dict" "int" = some false; decide +kernel
theorem kb_bool : ∀ d, kitB (tyN d) "bool" = some (isT "bool" d)
  | .none => by show kitB "NoneType" "bool" = some false; decide +kernel
  | .bool _ => by show kitB "bool" "bool" = some true; decide +kernel
  | .int _ => by show kitB "int" "bool" = some false; decide +kernel
  | .str _ => by show kitB "str" "bool" = some false; decide +kernel
  | .list _ => by show kitB "list" "bool" = some false; decide +kernel
  | .tuple _ => by show kitB "tuple" "bool" = some false; decide +kernel
  | .dict _ => by show kitB "dict" "bool" = some false; decide +kernel
theorem kb_list : ∀ d, kitB (tyN d) "list" = some (isT "list" d)
  | .none => by show kitB "NoneType" "list" = some false; decide +kernel
  | .bool _ => by show kitB "bool" "list" = some false; decide +kernel
  | .int _ => by show kitB "int" "list" = some false; decide +kernel
  | .str _ => by show kitB "str" "list" = some false; decide +kernel
  | .list _ => by show kitB "list" "list" = some true; decide +kernel
  | .tuple _ => by show kitB "tuple" "list" = some false; decide +kernel
  | .dict _ => by show kitB "dict" "list" = some false; decide +kernel
theorem kb_tuple : ∀ d, kitB (tyN d) "tuple" = some (isT "tuple" d)
  | .none => by show kitB "NoneType" "tuple" = some false; decide +kernel
  | .bool _ => by show kitB "bool" "tuple" = some false; decide +kernel
  | .int _ => by show kitB "int" "tuple" = some false; decide +kernel
  | .str _ => by show kitB "str" "tuple" = some false; decide +kernel
  | .list _ => by show kitB "list" "tuple" = some false; decide +kernel
  | .tuple _ => by show kitB "tuple" "tuple" = some true; decide +kernel
  | .dict _ => by show kitB "dict" "tuple" = some false; decide +kernel
theorem kb_str : ∀ d, kitB (tyN d) "str" = some (isT "str" d)
  | .none => by show kitB "NoneType" "str" = some false; decide +kernel
  | .bool _ => by show kitB "bool" "str" = some false; decide +kernel
  | .int _ => by show kitB "int" "str" = some false; decide +kernel
  | .str _ => by show kitB "str" "str" = some true; decide +kernel
  | .list _ => by show kitB "list" "str" = some false; decide +kernel
  | .tuple _ => by show kitB "tuple" "str" = some false; decide +kernel
  | .dict _ => by show kitB "dict" "str" = some false; decide +kernel
theorem ed_isi {T : String} {b : Bool} (h : EvD K te σ H d) (hb : kitB (tyN d) T = some b) : EvD K (tCB (rIsi K) (tCons te (tCons (tC (.ty T)) tNil))) σ H (.bool b) := fun H1 x _ q =>
  h H1 x _ fun v H2 x2 h1 => ⟨v, .ty T, _, _, b, rfl, .ty T, dp_tyx h1, kit_ty hb, q _ H2 x2 (.bl b)⟩
theorem ed_isiI (h : EvD K te σ H d) : EvD K (tCB (rIsi K) (tCons te (tCons (tC (.ty "int")) tNil))) σ H (.bool (isT "int" d)) := ed_isi h (kb_int d)
theorem ed_isiB (h : EvD K te σ H d) : EvD K (tCB (rIsi K) (tCons te (tCons (tC (.ty "bool")) tNil))) σ H (.bool (isT "bool" d)) := ed_isi h (kb_bool d)
theorem ed_isiL (h : EvD K te σ H d) : EvD K (tCB (rIsi K) (tCons te (tCons (tC (.ty "list")) tNil))) σ H (.bool (isT "list" d)) := ed_isi h (kb_list d)
theorem ed_isiT (h : EvD K te σ H d) : EvD K (tCB (rIsi K) (tCons te (tCons (tC (.ty "tuple")) tNil))) σ H (.bool (isT "tuple" d)) := ed_isi h (kb_tuple d)
theorem ed_isiS (h : EvD K te σ H d) : EvD K (tCB (rIsi K) (tCons te (tCons (tC (.ty "str")) tNil))) σ H (.bool (isT "str" d)) := ed_isi h (kb_str d)
/-! calls of one's own defs -/
/-- a promise told by data: x stands for the arguments -/
def spP (K : PySem.W.Frag) {α : Type} (dom : α → Prop) (enc : α → List PyData) (out : α → PyData) : Sp := fun vs H Q _ => ∃ x : α, dom x ∧ DpAll K H vs (enc x) ∧ RetR (fun v H' => Dp K H' v (out x)) H Q
def spL (K : PySem.W.Frag) {α : Type} (dom : α → Prop) (enc : α → List PyData) (out : α → List PyData) : Sp := fun vs H Q _ => ∃ x : α, dom x ∧ DpAll K H vs (enc x) ∧ RetR (fun v H' => NewL K H v H' (out x)) H Q
theorem spP.len {α : Type} {dom : α → Prop} {enc : α → List PyData} {out : α → PyData} {n : Nat} (hn : ∀ x, (enc x).length = n) {vs : List V} {Q : VK} {E : XK} (h : spP K dom enc out vs H Q E) : vs.length = n := by
  obtain ⟨x, _, h1, _⟩ := h
  rw [dpa_len h1, hn]
theorem spL.len {α : Type} {dom : α → Prop} {enc : α → List PyData} {out : α → List PyData} {n : Nat} (hn : ∀ x, (enc x).length = n) {vs : List V} {Q : VK} {E : XK} (h : spL K dom enc out vs H Q E) : vs.length = n := by
  obtain ⟨x, _, h1, _⟩ := h
  rw [dpa_len h1, hn]
theorem ed_call {α : Type} {dom : α → Prop} {enc : α → List PyData} {out : α → PyData} {E : XK} {tr : TA} (x : α) (hx : dom x) (h : EvDs K tr σ H (enc x)) : EvD K (tCall (spP K dom enc out) [] E tr) σ H (out x) := fun H1 e Q q =>
  h H1 e _ fun vs H2 x2 h2 => ⟨x, hx, by rw [List.append_nil]; exact h2, fun v H3 x3 h3 => q v H3 (x2.trans x3) h3⟩
theorem en_call {α : Type} {dom : α → Prop} {enc : α → List PyData} {out : α → List PyData} {E : XK} {tr : TA} (x : α) (hx : dom x) (h : EvDs K tr σ H (enc x)) : EvN K (tCall (spL K dom enc out) [] E tr) σ H (out x) := fun H1 e Q q =>
  h H1 e _ fun vs H2 x2 h2 => ⟨x, hx, by rw [List.append_nil]; exact h2, fun v H3 x3 h3 => q v H3 (x2.trans x3) (h3.back x2)⟩
/-! tests -/
theorem et_d {b : Bool} (h : EvD K te σ H (.bool b)) : Evl.EvT (tTest te) σ H b := fun H1 x _ q => h H1 x _ fun v H2 x2 h1 => ⟨b, dp_bl.mp h1, q H2 x2⟩
theorem et_dB {b : Bool} (h : EvD K te σ H (.bool b)) : Evl.EvT (tB te) σ H b := fun H1 x _ q => h H1 x _ fun v H2 x2 h1 => ⟨b, dp_bl.mp h1, q H2 x2⟩
theorem et_and1 {a b : Bool} (h1 : Evl.EvT t σ H a) (h2 : Evl.EvT u σ H b) : Evl.EvT (tAnd t u) σ H (a && b) := Evl.et_and h1 fun _ => h2
theorem et_or1 {a b : Bool} (h1 : Evl.EvT t σ H a) (h2 : Evl.EvT u σ H b) : Evl.EvT (tOr t u) σ H (a || b) := Evl.et_or h1 fun _ => h2
theorem ed_andV {a b : Bool} (h1 : EvD K ta σ H (.bool a)) (h2 : a = true → EvD K tb σ H (.bool b)) : EvD K (tAndV ta tb) σ H (.bool (a && b)) := fun H1 x Q q => h1 H1 x _ fun v H2 x2 hv => ⟨a, dp_bl.mp hv, by
  cases a with
  | true => rw [if_pos rfl]; exact h2 rfl H2 (x.trans x2) Q fun v H3 x3 h3 => q v H3 (x2.trans x3) h3
  | false => rw [if_neg Bool.false_ne_true]; exact q _ H2 x2 (.bl false)⟩
theorem ed_orV {a b : Bool} (h1 : EvD K ta σ H (.bool a)) (h2 : a = false → EvD K tb σ H (.bool b)) : EvD K (tOrV ta tb) σ H (.bool (a || b)) := fun H1 x Q q => h1 H1 x _ fun v H2 x2 hv => ⟨a, dp_bl.mp hv, by
  cases a with
  | false => rw [if_neg Bool.false_ne_true]; exact h2 rfl H2 (x.trans x2) Q fun v H3 x3 h3 => q v H3 (x2.trans x3) h3
  | true => rw [if_pos rfl]; exact q _ H2 x2 (.bl true)⟩
theorem ed_notV {a : Bool} (h1 : EvD K ta σ H (.bool a)) : EvD K (tNotV ta) σ H (.bool (!a)) := fun H1 x Q q => h1 H1 x _ fun v H2 x2 hv => ⟨a, dp_bl.mp hv, q _ H2 x2 (.bl _)⟩
/-! statements, something behind -/
variable {D : Ends} {tu tw tz : TS}
theorem w_asg {i : Nat} (h : EvD K te σ H d) (k : ∀ v H1, Ex H H1 → Dp K H1 v d → tz D (σ.set i (some v)) H1) : tSeq (tAsg te (gName i)) tz D σ H := h H (Evl.Ex.refl H) _ fun v H1 x hv => k v H1 x hv
theorem w_asgN {i : Nat} (h : EvN K te σ H ds) (k : ∀ v H1, Ex H H1 → NewL K H v H1 ds → tz D (σ.set i (some v)) H1) : tSeq (tAsg te (gName i)) tz D σ H := h H (Evl.Ex.refl H) _ fun v H1 x hv => k v H1 x hv
theorem w_asg1 {i : Nat} (h : EvD K te σ H d) (k : ∀ v H1, Ex H H1 → Dp K H1 v d → D.nx (σ.set i (some v)) H1) : tAsg te (gName i) D σ H := h H (Evl.Ex.refl H) _ fun v H1 x hv => k v H1 x hv
theorem w_ret1 (h : EvD K te σ H d) (k : ∀ v H1, Ex H H1 → Dp K H1 v d → D.rt v H1) : tRet te D σ H := h H (Evl.Ex.refl H) _ k
theorem w_retN1 (h : EvN K te σ H ds) (k : ∀ v H1, Ex H H1 → NewL K H v H1 ds → D.rt v H1) : tRet te D σ H := h H (Evl.Ex.refl H) _ k
theorem w_ret (h : EvD K te σ H d) (k : RetR (fun v H' => Dp K H' v d) H D.rt) : tRet te D σ H := h H (Evl.Ex.refl H) _ fun v H1 x hv => k v H1 x hv
theorem w_retN (h : EvN K te σ H ds) (k : RetR (fun v H' => NewL K H v H' ds) H D.rt) : tRet te D σ H := h H (Evl.Ex.refl H) _ fun v H1 x hv => k v H1 x hv
/-! comprehensions -/
theorem turn_of {tt : TT} {vs : List Nat} {j : Nat} {x : V} {b : Bool} (hw : wipe ((wipe σ vs).set j (some x)) vs = wipe σ vs) (ht : Evl.EvT tt ((wipe σ vs).set j (some x)) H b) (he : b = true → EvD K te ((wipe σ vs).set j (some x)) H d) :
    TurnOk K (gName j) tt te vs σ H x (if b = true then some d else none) := by
  intro H1 C x1 c0 c1
  refine ⟨hw, ht H1 x1 _ fun H2 x2 => ?_⟩
  cases b with
  | false => rw [if_neg Bool.false_ne_true]; exact c0 H2 x2 (if_neg Bool.false_ne_true)
  | true => rw [if_pos rfl]; exact he rfl H2 (x1.trans x2) _ fun v H3 x3 h3 => c1 v d H3 (x2.trans x3) (if_pos rfl) h3
theorem turn_all {vs : List Nat} {j : Nat} {x : V} (hw : wipe ((wipe σ vs).set j (some x)) vs = wipe σ vs) (he : EvD K te ((wipe σ vs).set j (some x)) H d) :
    TurnOk K (gName j) tYes te vs σ H x (some d) := by
  intro H1 C x1 c0 c1
  refine ⟨hw, ?_⟩
  show if true = true then te ((wipe σ vs).set j (some x)) H1 (fun y H4 => C (some y) H4) else C none H1
  rw [if_pos rfl]
  exact he H1 x1 _ fun v H3 x3 h3 => c1 v d H3 x3 rfl h3
theorem TurnOk.mono {g : TG} {tt : TT} {vs : List Nat} {x : V} {o : Option PyData} (e : Ex H H') (h : TurnOk K g tt te vs σ H x o) : TurnOk K g tt te vs σ H' x o := fun H1 C x1 c0 c1 => h H1 C (e.trans x1) c0 c1
theorem en_lcR {g : TG} {tt : TT} {ta : TA} {vs : List Nat} {n : Int} (fs : Nat → Option PyData) (hn : ∀ i d, fs i = some d → noL d = true) (h : EvDs K ta σ H [.int n]) (h0 : 0 ≤ n) (hz : n ≤ 100000)
    (ht : ∀ i : Nat, (i : Int) < n → TurnOk K g tt te vs σ H (.int (i : Int)) (fs i)) : EvN K (tLc (iRng1 ta) g tt te vs) σ H ((List.range n.toNat).filterMap fs) := fun H1 x Q q =>
  h H1 x _ fun us H2 x2 h2 => by
    cases h2 with
    | cons h3 h4 =>
      cases h4
      cases dp_int.mp h3
      refine ⟨n, rfl, by omega, by omega, fun D hD => lcR (lo := 0) (n := n.toNat) fs hn (by omega) hD (fun i hi => ?_) fun D' H' acc n0 e0 h1 h2 => q _ H' (x2.trans e0) ⟨D', acc, rfl, Evl.fresh_back x2 n0, h1, h2⟩⟩
      have z := (ht i (by omega)).mono (x.trans x2)
      rw [Int.zero_add]
      exact z
theorem en_lcL {g : TG} {tt : TT} {tl : TE} {vs : List Nat} (fs : Nat → Option PyData) (hn : ∀ i d, fs i = some d → noL d = true) (h : EvD K tl σ H (.list ds)) (hz : ds.length ≤ 100000)
    (ht : ∀ (i : Nat) (d : PyData), ds[i]? = some d → ∀ x H1, Ex H H1 → Dp K H1 x d → TurnOk K g tt te vs σ H1 x (fs i)) : EvN K (tLc (iList K tl) g tt te vs) σ H ((List.range ds.length).filterMap fs) := fun H1 x Q q =>
  h H1 x _ fun v H2 x2 h2 => by
    obtain ⟨a, xs, rfl, h3, h4⟩ := dp_lst.mp h2
    have hl := dpa_len h4
    refine ⟨a, rfl, ⟨xs, h3⟩, fun D hD => lcL (xs := xs) fs hn (by omega) hD h3 (fun i y hy => ?_) fun D' H' acc n0 e0 h1 h2 => q _ H' (x2.trans e0) ⟨D', acc, rfl, Evl.fresh_back x2 n0, h1, by rw [← hl]; exact h2⟩⟩
    obtain ⟨d, hd, hdy⟩ := dpa_get h4 hy
    exact ht i d hd y H2 (x.trans x2) hdy
theorem en_lcT {g : TG} {tt : TT} {tl : TE} {vs : List Nat} (fs : Nat → Option PyData) (hn : ∀ i d, fs i = some d → noL d = true) (h : EvD K tl σ H (.tuple ds)) (hz : ds.length ≤ 100000)
    (ht : ∀ (i : Nat) (d : PyData), ds[i]? = some d → ∀ x H1, Ex H H1 → Dp K H1 x d → TurnOk K g tt te vs σ H1 x (fs i)) : EvN K (tLc (iTup K tl) g tt te vs) σ H ((List.range ds.length).filterMap fs) := fun H1 x Q q =>
  h H1 x _ fun v H2 x2 h2 => by
    obtain ⟨a, xs, rfl, h3, h4⟩ := dp_tup.mp h2
    have hl := dpa_len h4
    refine ⟨a, rfl, ⟨xs, h3⟩, fun D hD => lcT (xs := xs) fs hn (by omega) hD h3 (fun i y hy => ?_) fun D' H' acc n0 e0 h1 h2 => q _ H' (x2.trans e0) ⟨D', acc, rfl, Evl.fresh_back x2 n0, h1, by rw [← hl]; exact h2⟩⟩
    obtain ⟨d, hd, hdy⟩ := dpa_get h4 hy
    exact ht i d hd y H2 (x.trans x2) hdy
end

end Fy

namespace Fy
open PySem PySem.Spec PyProof.Rows L2
/-! ### what a night is, in plain Lean -/
structure Nt where
  things : List (Int × Bool)
  room : Int
  quarrels : List (Int × Int × Int)
def paceOk (t : Int × Bool) : Bool := decide (1 ≤ t.1 ∧ t.1 ≤ 1000000000)
def thingsOk (ts : List (Int × Bool)) : Bool := decide (1 ≤ ts.length ∧ ts.length ≤ 6) && ts.all paceOk
def roomOk (r : Int) : Bool := decide (1 ≤ r ∧ r ≤ 3)
def quarrelIn (many : Int) (q : Int × Int × Int) : Bool := decide (0 ≤ q.1 ∧ q.1 < many) && (decide (0 ≤ q.2.1 ∧ q.2.1 < many) && decide (-1 ≤ q.2.2 ∧ q.2.2 < many))
def quarrelTwo (q : Int × Int × Int) : Bool := decide (q.1 = q.2.1) || (decide (q.2.2 = q.1) || decide (q.2.2 = q.2.1))
def quarrelOk (many : Int) (q : Int × Int × Int) : Bool := quarrelIn many q && !quarrelTwo q
def quarrelsOk (many : Int) (qs : List (Int × Int × Int)) : Bool := decide (qs.length ≤ 30) && qs.all (quarrelOk many)
def Nt.ok (n : Nt) : Bool := thingsOk n.things && (roomOk n.room && quarrelsOk n.things.length n.quarrels)
/-- lo, lo + 1, .. as ints -/
def rng (n : Nat) : List Int := (List.range n).map fun i : Nat => (i : Int)
def atWar (g : List Int) (q : Int × Int × Int) : Bool := g.contains q.1 && (g.contains q.2.1 && !g.contains q.2.2)
def peace (qs : List (Int × Int × Int)) (g : List Int) : Bool := qs.all fun q => !atWar g q
def restOf (g : List Int) (many : Nat) : List Int := (rng many).filter fun t => !g.contains t
theorem rng_len (n : Nat) : (rng n).length = n := by simp [rng]
theorem mem_rng {n : Nat} {i : Int} : i ∈ rng n ↔ 0 ≤ i ∧ i < n := by
  simp only [rng, List.mem_map, List.mem_range]
  constructor
  · rintro ⟨a, h, rfl⟩; omega
  · intro h; exact ⟨i.toNat, by omega, by omega⟩
theorem rng_get {n i : Nat} (h : i < n) : (rng n)[i]? = some (i : Int) := by
  simp [rng, h]
/-- a list met by its places -/
theorem fm_range_map {α : Type} (xs : List α) : (List.range xs.length).filterMap (fun i => xs[i]?) = xs := by
  induction xs with
  | nil => rfl
  | cons a r ih =>
    rw [List.length_cons, List.range_succ_eq_map, List.filterMap_cons]
    simp only [List.getElem?_cons_zero, List.filterMap_map]
    have e : ((fun i => (a :: r)[i]?) ∘ Nat.succ) = fun i => r[i]? := by funext i; simp
    rw [e, ih]
theorem fm_range {α β : Type} (xs : List α) (f : α → Option β) : (List.range xs.length).filterMap (fun i => (xs[i]?).bind f) = xs.filterMap f := by
  have h : (List.range xs.length).filterMap (fun i => (xs[i]?).bind f) = ((List.range xs.length).filterMap (fun i => xs[i]?)).filterMap f := by
    rw [List.filterMap_filterMap]
  rw [h, fm_range_map]
theorem fm_ints (n : Nat) (p : Int → Bool) : (List.range n).filterMap (fun i : Nat => if p (i : Int) = true then some (PyData.int (i : Int)) else none) = ((rng n).filter p).map PyData.int := by
  unfold rng
  induction List.range n with
  | nil => rfl
  | cons a r ih =>
    rw [List.filterMap_cons, List.map_cons, List.filter_cons]
    by_cases h : p (a : Int) = true
    · rw [if_pos h, if_pos h]; simp [ih]
    · rw [if_neg h, if_neg h]; simpa using ih

end Fy

namespace Fy
open PySem PySem.Spec PyProof.Rows L2
/-! guards: a form is met by its head alone -/
section
variable {K : PySem.W.Frag} {σ : L2.St} {H : Hp} {ta tb tc te : TE} {t u : TT} {d e z : PyData} {ds : List PyData} {b : Bool} {v : V} {i : Nat} {r r' : R2} {tr : TA}
theorem i_C (h : EvD K (tC v) σ H d) : EvD K (tC v) σ H d := h
theorem i_Var (h : EvD K (tVar i) σ H d) : EvD K (tVar i) σ H d := h
theorem i_Op (h : EvD K (tOp r ta tb) σ H d) : EvD K (tOp r ta tb) σ H d := h
theorem i_Chain (h : EvD K (tChain r r' ta tb tc) σ H d) : EvD K (tChain r r' ta tb tc) σ H d := h
theorem i_Isi {K' : PySem.W.Frag} (h : EvD K (tCB (rIsi K') tr) σ H d) : EvD K (tCB (rIsi K') tr) σ H d := h
theorem i_IsiI {K' : PySem.W.Frag} (h : EvD K (tCB (rIsi K') (tCons te (tCons (tC (.ty "int")) tNil))) σ H d) : EvD K (tCB (rIsi K') (tCons te (tCons (tC (.ty "int")) tNil))) σ H d := h
theorem i_IsiB {K' : PySem.W.Frag} (h : EvD K (tCB (rIsi K') (tCons te (tCons (tC (.ty "bool")) tNil))) σ H d) : EvD K (tCB (rIsi K') (tCons te (tCons (tC (.ty "bool")) tNil))) σ H d := h
theorem i_IsiL {K' : PySem.W.Frag} (h : EvD K (tCB (rIsi K') (tCons te (tCons (tC (.ty "list")) tNil))) σ H d) : EvD K (tCB (rIsi K') (tCons te (tCons (tC (.ty "list")) tNil))) σ H d := h
theorem i_IsiT {K' : PySem.W.Frag} (h : EvD K (tCB (rIsi K') (tCons te (tCons (tC (.ty "tuple")) tNil))) σ H d) : EvD K (tCB (rIsi K') (tCons te (tCons (tC (.ty "tuple")) tNil))) σ H d := h
theorem i_IsiS {K' : PySem.W.Frag} (h : EvD K (tCB (rIsi K') (tCons te (tCons (tC (.ty "str")) tNil))) σ H d) : EvD K (tCB (rIsi K') (tCons te (tCons (tC (.ty "str")) tNil))) σ H d := h
theorem i_CB {rr : List V → Hp → VK → Prop} (h : EvD K (tCB rr tr) σ H d) : EvD K (tCB rr tr) σ H d := h
theorem i_Un {rr : V → Hp → VK → Prop} (h : EvD K (tUn rr ta) σ H d) : EvD K (tUn rr ta) σ H d := h
theorem i_Tup (h : EvD K (tTup tr) σ H d) : EvD K (tTup tr) σ H d := h
theorem i_AndV (h : EvD K (tAndV ta tb) σ H d) : EvD K (tAndV ta tb) σ H d := h
theorem i_OrV (h : EvD K (tOrV ta tb) σ H d) : EvD K (tOrV ta tb) σ H d := h
theorem i_NotV (h : EvD K (tNotV ta) σ H d) : EvD K (tNotV ta) σ H d := h
theorem i_Call {sp : Sp} {dvs : List V} {E : XK} (h : EvD K (tCall sp dvs E tr) σ H d) : EvD K (tCall sp dvs E tr) σ H d := h
theorem i_Nil (h : EvDs K tNil σ H ds) : EvDs K tNil σ H ds := h
theorem i_Cons (h : EvDs K (tCons ta tr) σ H ds) : EvDs K (tCons ta tr) σ H ds := h
theorem i_I0 {g : Int → Int → V} (h : RD K (rI0 g) d e z) : RD K (rI0 g) d e z := h
theorem i_I {C : Int → Int → Prop} {g : Int → Int → V} (h : RD K (rI C g) d e z) : RD K (rI C g) d e z := h
theorem i_Eq (h : RD K rEq d e z) : RD K rEq d e z := h
theorem i_Ne (h : RD K rNe d e z) : RD K rNe d e z := h
theorem i_In {K' : PySem.W.Frag} {n : Bool} (h : RD K (rIn K' n) d e z) : RD K (rIn K' n) d e z := h
theorem i_IxL {K' : PySem.W.Frag} (h : RD K (rIxL K') d e z) : RD K (rIxL K') d e z := h
theorem i_IxT {K' : PySem.W.Frag} (h : RD K (rIxT K') d e z) : RD K (rIxT K') d e z := h
/-- a test, told with K -/
def EvB (_ : PySem.W.Frag) (t : TT) (σ : L2.St) (H : Hp) (b : Bool) : Prop := Evl.EvT t σ H b
theorem i_Test (h : EvB K (tTest te) σ H b) : EvB K (tTest te) σ H b := h
theorem i_B (h : EvB K (tB te) σ H b) : EvB K (tB te) σ H b := h
theorem i_Not (h : EvB K (tNot t) σ H b) : EvB K (tNot t) σ H b := h
theorem i_And (h : EvB K (tAnd t u) σ H b) : EvB K (tAnd t u) σ H b := h
theorem i_Or (h : EvB K (tOr t u) σ H b) : EvB K (tOr t u) σ H b := h
theorem eb_d (h : EvD K te σ H (.bool b)) : EvB K (tTest te) σ H b := et_d h
theorem eb_dB (h : EvD K te σ H (.bool b)) : EvB K (tB te) σ H b := et_dB h
theorem eb_not (h : EvB K t σ H b) : EvB K (tNot t) σ H (!b) := Evl.et_not h
theorem eb_and {c : Bool} (h1 : EvB K t σ H b) (h2 : b = true → EvB K u σ H c) : EvB K (tAnd t u) σ H (b && c) := Evl.et_and h1 h2
theorem eb_or {c : Bool} (h1 : EvB K t σ H b) (h2 : b = false → EvB K u σ H c) : EvB K (tOr t u) σ H (b || c) := Evl.et_or h1 h2
variable {D : Ends} {tu tw tz : TS}
theorem w_if (K : PySem.W.Frag) (h : EvB K t σ H b) (h1 : b = true → ∀ H1, Ex H H1 → tu { D with nx := tz D } σ H1) (h2 : b = false → ∀ H1, Ex H H1 → tw { D with nx := tz D } σ H1) : tSeq (tIfS t tu tw) tz D σ H := Evl.q_if h h1 h2
theorem w_when (K : PySem.W.Frag) (h : EvB K t σ H b) (h1 : b = true → ∀ H1, Ex H H1 → tu { D with nx := tz D } σ H1) (h2 : b = false → ∀ H1, Ex H H1 → tz D σ H1) : tSeq (tIfS t tu tNext) tz D σ H := Evl.q_when h h1 h2
theorem w_if1 (K : PySem.W.Frag) (h : EvB K t σ H b) (h1 : b = true → ∀ H1, Ex H H1 → tu D σ H1) (h2 : b = false → ∀ H1, Ex H H1 → tw D σ H1) : tIfS t tu tw D σ H := Evl.s_if h h1 h2
theorem w_when1 (K : PySem.W.Frag) (h : EvB K t σ H b) (h1 : b = true → ∀ H1, Ex H H1 → tu D σ H1) (h2 : b = false → ∀ H1, Ex H H1 → D.nx σ H1) : tIfS t tu tNext D σ H := Evl.s_when h h1 h2
end

end Fy

namespace Fy
open PySem PySem.Spec PyProof.Rows L2
/-! ### loops by data -/
section
variable {K : PySem.W.Frag} {σ : L2.St} {H : Hp} {tl te : TE} {ds : List PyData} {D : Ends} {tu tz : TS} {g : TG}
theorem w_forL (h : EvD K tl σ H (.list ds)) (k : ∀ a xs H1, Ex H H1 → SqL K H1 a xs → DpAll K H1 xs ds → ∃ Pv : Nat → L2.St → Hp → Prop, Pv 0 σ H1 ∧ (∀ i σ' H', i ≤ xs.length → Pv i σ' H' → SqL K H' a xs) ∧
    (∀ i d x σ' H', ds[i]? = some d → xs[i]? = some x → Dp K H1 x d → Pv i σ' H' → g x σ' H' fun σ2 H2 => tu { D with nx := Pv (i + 1), ct := Pv (i + 1), bk := tz D } σ2 H2) ∧ (∀ σ' H', Pv ds.length σ' H' → tz D σ' H')) : tSeq (tFor (iList K tl) g tu) tz D σ H :=
  h H (Evl.Ex.refl H) _ fun v H1 x hv => by
    obtain ⟨a, xs, rfl, h1, h2⟩ := dp_lst.mp hv
    obtain ⟨Pv, p0, p1, p2, p3⟩ := k a xs H1 x h1 h2
    have hl := dpa_len h2
    refine ⟨a, rfl, ⟨xs, h1⟩, for_list (K := K) (a := a) (xs := xs) (D := { D with nx := tz D }) Pv p0 p1 (fun i y σ' H' hi hp => ?_) (by rw [hl]; exact p3)⟩
    obtain ⟨d, hd, hdy⟩ := dpa_get h2 hi
    exact p2 i d y σ' H' hd hi hdy hp
/-- where all that stood ahead of the loop stays -/
theorem w_forLx (h : EvD K tl σ H (.list ds)) (Pv : Nat → L2.St → Hp → Prop) (h0 : ∀ H1, Ex H H1 → Pv 0 σ H1)
    (hs : ∀ i d x σ' H', ds[i]? = some d → Ex H H' → Dp K H' x d → Pv i σ' H' → g x σ' H' fun σ2 H2 => tu { D with nx := fun σ3 H3 => Ex H' H3 ∧ Pv (i + 1) σ3 H3, ct := fun σ3 H3 => Ex H' H3 ∧ Pv (i + 1) σ3 H3, bk := tz D } σ2 H2)
    (hd : ∀ σ' H', Ex H H' → Pv ds.length σ' H' → tz D σ' H') : tSeq (tFor (iList K tl) g tu) tz D σ H :=
  h H (Evl.Ex.refl H) _ fun v H1 x hv => by
    obtain ⟨a, xs, rfl, h1, h2⟩ := dp_lst.mp hv
    have hl := dpa_len h2
    refine ⟨a, rfl, ⟨xs, h1⟩, fun i m σ' H' => m = xs.length - i ∧ i ≤ xs.length ∧ Ex H1 H' ∧ Pv i σ' H', ⟨xs.length, by simp, Nat.zero_le _, Evl.Ex.refl H1, h0 H1 x⟩, ?_⟩
    rintro i m σ' H' ⟨rfl, hi, e, p⟩
    have q := Evl.ex_l e h1
    by_cases hlt : i < xs.length
    · refine .inr ⟨⟨xs, xs[i], q, by simp [hlt]⟩, fun σ3 H3 => Ex H' H3 ∧ Pv (i + 1) σ3 H3, fun σ3 H3 p3 => ⟨xs.length - (i + 1), by omega, rfl, hlt, e.trans p3.1, p3.2⟩, fun y H2 yy => ?_⟩
      obtain ⟨e2, yy⟩ := yy
      subst e2
      obtain ⟨d, hd', hdy⟩ := dpa_get h2 (yy xs q)
      exact hs i d y σ' _ hd' (x.trans e) (dp_mono e _ _ hdy) p
    · have e2 : i = xs.length := by omega
      subst e2
      rw [hl] at p
      exact .inl ⟨⟨xs, q, Nat.le_refl _⟩, hd σ' H' (x.trans e) p⟩
theorem w_forTx (h : EvD K tl σ H (.tuple ds)) (Pv : Nat → L2.St → Hp → Prop) (h0 : ∀ H1, Ex H H1 → Pv 0 σ H1)
    (hs : ∀ i d x σ' H', ds[i]? = some d → Ex H H' → Dp K H' x d → Pv i σ' H' → g x σ' H' fun σ2 H2 => tu { D with nx := fun σ3 H3 => Ex H' H3 ∧ Pv (i + 1) σ3 H3, ct := fun σ3 H3 => Ex H' H3 ∧ Pv (i + 1) σ3 H3, bk := tz D } σ2 H2)
    (hd : ∀ σ' H', Ex H H' → Pv ds.length σ' H' → tz D σ' H') : tSeq (tFor (iTup K tl) g tu) tz D σ H :=
  h H (Evl.Ex.refl H) _ fun v H1 x hv => by
    obtain ⟨a, xs, rfl, h1, h2⟩ := dp_tup.mp hv
    have hl := dpa_len h2
    refine ⟨a, rfl, ⟨xs, h1⟩, fun i m σ' H' => m = xs.length - i ∧ i ≤ xs.length ∧ Ex H1 H' ∧ Pv i σ' H', ⟨xs.length, by simp, Nat.zero_le _, Evl.Ex.refl H1, h0 H1 x⟩, ?_⟩
    rintro i m σ' H' ⟨rfl, hi, e, p⟩
    have q := Evl.ex_t e h1
    by_cases hlt : i < xs.length
    · refine .inr ⟨⟨xs, xs[i], q, by simp [hlt]⟩, fun σ3 H3 => Ex H' H3 ∧ Pv (i + 1) σ3 H3, fun σ3 H3 p3 => ⟨xs.length - (i + 1), by omega, rfl, hlt, e.trans p3.1, p3.2⟩, fun y H2 yy => ?_⟩
      obtain ⟨e2, yy⟩ := yy
      subst e2
      obtain ⟨d, hd', hdy⟩ := dpa_get h2 (yy xs q)
      exact hs i d y σ' _ hd' (x.trans e) (dp_mono e _ _ hdy) p
    · have e2 : i = xs.length := by omega
      subst e2
      rw [hl] at p
      exact .inl ⟨⟨xs, q, Nat.le_refl _⟩, hd σ' H' (x.trans e) p⟩
/-- where all that stood ahead of the loop stays -/
theorem w_forLx1 (h : EvD K tl σ H (.list ds)) (Pv : Nat → L2.St → Hp → Prop) (h0 : ∀ H1, Ex H H1 → Pv 0 σ H1)
    (hs : ∀ i d x σ' H', ds[i]? = some d → Ex H H' → Dp K H' x d → Pv i σ' H' → g x σ' H' fun σ2 H2 => tu { D with nx := fun σ3 H3 => Ex H' H3 ∧ Pv (i + 1) σ3 H3, ct := fun σ3 H3 => Ex H' H3 ∧ Pv (i + 1) σ3 H3, bk := D.nx } σ2 H2)
    (hd : ∀ σ' H', Ex H H' → Pv ds.length σ' H' → D.nx σ' H') : tFor (iList K tl) g tu D σ H :=
  h H (Evl.Ex.refl H) _ fun v H1 x hv => by
    obtain ⟨a, xs, rfl, h1, h2⟩ := dp_lst.mp hv
    have hl := dpa_len h2
    refine ⟨a, rfl, ⟨xs, h1⟩, fun i m σ' H' => m = xs.length - i ∧ i ≤ xs.length ∧ Ex H1 H' ∧ Pv i σ' H', ⟨xs.length, by simp, Nat.zero_le _, Evl.Ex.refl H1, h0 H1 x⟩, ?_⟩
    rintro i m σ' H' ⟨rfl, hi, e, p⟩
    have q := Evl.ex_l e h1
    by_cases hlt : i < xs.length
    · refine .inr ⟨⟨xs, xs[i], q, by simp [hlt]⟩, fun σ3 H3 => Ex H' H3 ∧ Pv (i + 1) σ3 H3, fun σ3 H3 p3 => ⟨xs.length - (i + 1), by omega, rfl, hlt, e.trans p3.1, p3.2⟩, fun y H2 yy => ?_⟩
      obtain ⟨e2, yy⟩ := yy
      subst e2
      obtain ⟨d, hd', hdy⟩ := dpa_get h2 (yy xs q)
      exact hs i d y σ' _ hd' (x.trans e) (dp_mono e _ _ hdy) p
    · have e2 : i = xs.length := by omega
      subst e2
      rw [hl] at p
      exact .inl ⟨⟨xs, q, Nat.le_refl _⟩, hd σ' H' (x.trans e) p⟩
theorem w_forTx1 (h : EvD K tl σ H (.tuple ds)) (Pv : Nat → L2.St → Hp → Prop) (h0 : ∀ H1, Ex H H1 → Pv 0 σ H1)
    (hs : ∀ i d x σ' H', ds[i]? = some d → Ex H H' → Dp K H' x d → Pv i σ' H' → g x σ' H' fun σ2 H2 => tu { D with nx := fun σ3 H3 => Ex H' H3 ∧ Pv (i + 1) σ3 H3, ct := fun σ3 H3 => Ex H' H3 ∧ Pv (i + 1) σ3 H3, bk := D.nx } σ2 H2)
    (hd : ∀ σ' H', Ex H H' → Pv ds.length σ' H' → D.nx σ' H') : tFor (iTup K tl) g tu D σ H :=
  h H (Evl.Ex.refl H) _ fun v H1 x hv => by
    obtain ⟨a, xs, rfl, h1, h2⟩ := dp_tup.mp hv
    have hl := dpa_len h2
    refine ⟨a, rfl, ⟨xs, h1⟩, fun i m σ' H' => m = xs.length - i ∧ i ≤ xs.length ∧ Ex H1 H' ∧ Pv i σ' H', ⟨xs.length, by simp, Nat.zero_le _, Evl.Ex.refl H1, h0 H1 x⟩, ?_⟩
    rintro i m σ' H' ⟨rfl, hi, e, p⟩
    have q := Evl.ex_t e h1
    by_cases hlt : i < xs.length
    · refine .inr ⟨⟨xs, xs[i], q, by simp [hlt]⟩, fun σ3 H3 => Ex H' H3 ∧ Pv (i + 1) σ3 H3, fun σ3 H3 p3 => ⟨xs.length - (i + 1), by omega, rfl, hlt, e.trans p3.1, p3.2⟩, fun y H2 yy => ?_⟩
      obtain ⟨e2, yy⟩ := yy
      subst e2
      obtain ⟨d, hd', hdy⟩ := dpa_get h2 (yy xs q)
      exact hs i d y σ' _ hd' (x.trans e) (dp_mono e _ _ hdy) p
    · have e2 : i = xs.length := by omega
      subst e2
      rw [hl] at p
      exact .inl ⟨⟨xs, q, Nat.le_refl _⟩, hd σ' H' (x.trans e) p⟩
/-- over a list that may be changed elsewhere: what stands in the list walked and its items (that carry no list) stays -/
theorem w_forLu (h : EvD K tl σ H (.list ds)) (hn : noLs ds = true) (Pv : Hp → Nat → L2.St → Hp → Prop) (h0 : ∀ H1, Ex H H1 → Pv H1 0 σ H1)
    (hk : ∀ H1 i σ' H' a xs, Ex H H1 → SqL K H1 a xs → DpAll K H1 xs ds → Pv H1 i σ' H' → SqL K H' a xs ∧ Up H1 H')
    (hs : ∀ H1 i d x σ' H', Ex H H1 → ds[i]? = some d → Dp K H' x d → Pv H1 i σ' H' → g x σ' H' fun σ2 H2 => tu { D with nx := Pv H1 (i + 1), ct := Pv H1 (i + 1), bk := tz D } σ2 H2)
    (hd : ∀ H1 σ' H', Ex H H1 → Pv H1 ds.length σ' H' → tz D σ' H') : tSeq (tFor (iList K tl) g tu) tz D σ H :=
  w_forL h fun a xs H1 x h1 h2 => ⟨Pv H1, h0 H1 x, fun i σ' H' _ p => (hk H1 i σ' H' a xs x h1 h2 p).1, fun i d y σ' H' hd' hy hdy p => by
    have u := (hk H1 i σ' H' a xs x h1 h2 p).2
    have nd : noL d = true := by
      have : ∀ (es : List PyData) (i : Nat), noLs es = true → es[i]? = some d → noL d = true := by
        intro es
        induction es with
        | nil => intro i _ e; simp at e
        | cons c r ih =>
          intro i n e
          have n' : noL c = true ∧ noLs r = true := by simpa [noLs] using n
          cases i with
          | zero => simp at e; rw [← e]; exact n'.1
          | succ j => exact ih j n'.2 (by simpa using e)
      exact this ds i hn hd'
    exact hs H1 i d y σ' H' x hd' (dp_up u _ _ nd hdy) p, fun σ' H' p => hd H1 σ' H' x p⟩
theorem w_callS {sp : Sp} {E : L2.St → XK} {tr : TA} (h : EvDs K tr σ H ds) (k : ∀ vs H1, Ex H H1 → DpAll K H1 vs ds → sp vs H1 (fun _ H2 => tz D σ H2) (E σ)) : tSeq (tDrop (tCallS sp E tr)) tz D σ H := h H (Evl.Ex.refl H) _ fun vs H1 x hv => k vs H1 x hv
theorem w_callS1 {sp : Sp} {E : L2.St → XK} {tr : TA} (h : EvDs K tr σ H ds) (k : ∀ vs H1, Ex H H1 → DpAll K H1 vs ds → sp vs H1 (fun _ H2 => D.nx σ H2) (E σ)) : tDrop (tCallS sp E tr) D σ H := h H (Evl.Ex.refl H) _ fun vs H1 x hv => k vs H1 x hv
theorem eva_1 {n : Int} (h : EvD K te σ H (.int n)) : Evl.EvA (tCons te tNil) σ H [.int n] := fun H1 x _ q => h H1 x _ fun v H2 x2 hv => by
  cases dp_int.mp hv
  exact q H2 x2
theorem w_forR {j : Nat} {n : Int} (h : EvD K te σ H (.int n)) (hn : 0 ≤ n ∧ n ≤ 100000) (Pv : Nat → L2.St → Hp → Prop) (h0 : ∀ H1, Ex H H1 → Pv 0 σ H1)
    (hs : ∀ (i : Nat) σ' H', (i : Int) < n → Pv i σ' H' → tu { D with nx := Pv (i + 1), ct := Pv (i + 1), bk := tz D } (σ'.set j (some (.int (i : Int)))) H') (hd : ∀ σ' H', Pv n.toNat σ' H' → tz D σ' H') : tSeq (tFor (iRng1 (tCons te tNil)) (gName j) tu) tz D σ H :=
  Evl.q_forR1 (eva_1 h) hn Pv h0 hs hd
/-- a tuple taken apart -/
theorem g_tup2 {v x y : V} {i j : Nat} {a : Addr} {Q : L2.St → Hp → Prop} (e : v = .ref a) (hs : SqT K H a [x, y]) (q : Q ((σ.set i (some x)).set j (some y)) H) : gTup K 2 (gCons (gName i) (gCons (gName j) gNil)) v σ H Q :=
  ⟨a, _, e, hs, rfl, x, _, rfl, y, _, rfl, rfl, q⟩
theorem g_tup3 {v x y z : V} {i j l : Nat} {a : Addr} {Q : L2.St → Hp → Prop} (e : v = .ref a) (hs : SqT K H a [x, y, z]) (q : Q (((σ.set i (some x)).set j (some y)).set l (some z)) H) : gTup K 3 (gCons (gName i) (gCons (gName j) (gCons (gName l) gNil))) v σ H Q :=
  ⟨a, _, e, hs, rfl, x, _, rfl, y, _, rfl, z, _, rfl, rfl, q⟩
end
theorem get_map {α β : Type} {f : α → β} {xs : List α} {i : Nat} {y : β} (h : (xs.map f)[i]? = some y) : ∃ x, xs[i]? = some x ∧ y = f x := by
  rw [List.getElem?_map] at h
  cases e : xs[i]? with
  | none => rw [e] at h; cases h
  | some x => rw [e] at h; exact ⟨x, rfl, (Option.some.inj h).symm⟩
theorem take_snoc {α : Type} {xs : List α} {i : Nat} {x : α} (h : xs[i]? = some x) : xs.take (i + 1) = xs.take i ++ [x] := by
  rw [List.take_add_one, h]; rfl
theorem lt_of_get {α : Type} {xs : List α} {i : Nat} {x : α} (h : xs[i]? = some x) : i < xs.length := (List.getElem?_eq_some_iff.mp h).1
theorem all_take {α : Type} {p : α → Bool} {xs : List α} {i : Nat} {x : α} (h : xs[i]? = some x) (ht : (xs.take i).all p = true) : (xs.take (i + 1)).all p = p x := by
  rw [take_snoc h, List.all_append, ht]
  simp
theorem all_not {α : Type} {p : α → Bool} {xs : List α} {i : Nat} {x : α} (h : xs[i]? = some x) (hp : p x = false) : xs.all p = false := by
  rw [Bool.eq_false_iff]
  intro q
  have := List.all_eq_true.mp q x (List.mem_of_getElem? h)
  rw [hp] at this
  cases this
/-! ### comprehensions in their common shapes -/
section
variable {K : PySem.W.Frag} {σ : L2.St} {H : Hp} {tl te : TE} {tt : TT} {ta : TA} {vs : List Nat} {j : Nat}
theorem fm_some {α β : Type} (f : α → β) (l : List α) : l.filterMap (fun i => some (f i)) = l.map f := by
  induction l with
  | nil => rfl
  | cons a r ih => simp [ih]
/-- [t for t in range(n) if p(t)] -/
theorem en_filR {n : Int} (p : Int → Bool) (h : EvDs K ta σ H [.int n]) (h0 : 0 ≤ n ∧ n ≤ 100000) (hw : ∀ x, wipe ((wipe σ vs).set j (some x)) vs = wipe σ vs) (hj : ∀ x, ((wipe σ vs).set j (some x))[j]? = some (some x))
    (ht : ∀ i : Nat, (i : Int) < n → EvB K tt ((wipe σ vs).set j (some (.int (i : Int)))) H (p (i : Int))) : EvN K (tLc (iRng1 ta) (gName j) tt (tVar j) vs) σ H (((rng n.toNat).filter p).map .int) :=
  EvN.cast (en_lcR (fun i : Nat => if p (i : Int) = true then some (.int (i : Int)) else none) (fun i d h => by
    split at h
    · cases h; rfl
    · cases h) h h0.1 h0.2 fun i hi => turn_of (hw _) (ht i hi) fun _ => ed_var (hj _) (.int _)) (fm_ints _ p)
/-- [e for t in range(n)] -/
theorem en_mapR {n : Int} (f : Nat → PyData) (hn : ∀ i, noL (f i) = true) (h : EvDs K ta σ H [.int n]) (h0 : 0 ≤ n ∧ n ≤ 100000) (hw : ∀ x, wipe ((wipe σ vs).set j (some x)) vs = wipe σ vs)
    (he : ∀ i : Nat, (i : Int) < n → EvD K te ((wipe σ vs).set j (some (.int (i : Int)))) H (f i)) : EvN K (tLc (iRng1 ta) (gName j) tYes te vs) σ H ((List.range n.toNat).map f) :=
  EvN.cast (en_lcR (fun i => some (f i)) (fun i d h => by cases h; exact hn i) h h0.1 h0.2 fun i hi => turn_all (hw _) (he i hi)) (fm_some f _)
theorem fm_filter {α : Type} (xs : List α) (p : α → Bool) (f : α → PyData) : (List.range xs.length).filterMap (fun i => (xs[i]?).bind fun x => if p x = true then some (f x) else none) = (xs.filter p).map f := by
  rw [fm_range]
  induction xs with
  | nil => rfl
  | cons a r ih =>
    rw [List.filterMap_cons, List.filter_cons]
    by_cases h : p a = true
    · rw [if_pos h, if_pos h]; simp [ih]
    · rw [if_neg h, if_neg h]; simpa using ih
theorem noL_fm {α : Type} {xs : List α} {p : α → Bool} {f : α → PyData} (hf : ∀ x, noL (f x) = true) (i : Nat) (d : PyData) (h : (xs[i]?).bind (fun x => if p x = true then some (f x) else none) = some d) : noL d = true := by
  cases e : xs[i]? with
  | none => rw [e] at h; cases h
  | some x =>
    rw [e] at h
    by_cases hp : p x = true
    · have h' : some (f x) = some d := by rw [Option.bind_some, if_pos hp] at h; exact h
      cases h'; exact hf x
    · rw [Option.bind_some, if_neg hp] at h; cases h
/-- [f(x) for x in xs if p(x)], xs a list -/
theorem en_fmL {α : Type} (enc : α → PyData) {xs : List α} (p : α → Bool) (f : α → PyData) (hf : ∀ x, noL (f x) = true) (h : EvD K tl σ H (.list (xs.map enc))) (hz : xs.length ≤ 100000) (hw : ∀ x, wipe ((wipe σ vs).set j (some x)) vs = wipe σ vs)
    (ht : ∀ (i : Nat) (a : α) v H1, xs[i]? = some a → Ex H H1 → Dp K H1 v (enc a) → EvB K tt ((wipe σ vs).set j (some v)) H1 (p a)) (he : ∀ (i : Nat) (a : α) v H1, xs[i]? = some a → p a = true → Ex H H1 → Dp K H1 v (enc a) → EvD K te ((wipe σ vs).set j (some v)) H1 (f a)) :
    EvN K (tLc (iList K tl) (gName j) tt te vs) σ H ((xs.filter p).map f) := by
  have z := en_lcL (K := K) (g := gName j) (tt := tt) (te := te) (vs := vs) (σ := σ) (H := H) (fun i => (xs[i]?).bind fun x => if p x = true then some (f x) else none) (noL_fm hf) h (by rw [List.length_map]; exact hz) (fun i d hd x H1 x1 hx => by
    obtain ⟨a, ha, rfl⟩ := get_map hd
    have t := turn_of (K := K) (te := te) (d := f a) (hw x) (ht i a x H1 ha x1 hx) fun hp => he i a x H1 ha hp x1 hx
    simp only [ha, Option.bind_some]
    exact t)
  rw [List.length_map, fm_filter] at z
  exact z
theorem en_fmT {α : Type} (enc : α → PyData) {xs : List α} (p : α → Bool) (f : α → PyData) (hf : ∀ x, noL (f x) = true) (h : EvD K tl σ H (.tuple (xs.map enc))) (hz : xs.length ≤ 100000) (hw : ∀ x, wipe ((wipe σ vs).set j (some x)) vs = wipe σ vs)
    (ht : ∀ (i : Nat) (a : α) v H1, xs[i]? = some a → Ex H H1 → Dp K H1 v (enc a) → EvB K tt ((wipe σ vs).set j (some v)) H1 (p a)) (he : ∀ (i : Nat) (a : α) v H1, xs[i]? = some a → p a = true → Ex H H1 → Dp K H1 v (enc a) → EvD K te ((wipe σ vs).set j (some v)) H1 (f a)) :
    EvN K (tLc (iTup K tl) (gName j) tt te vs) σ H ((xs.filter p).map f) := by
  have z := en_lcT (K := K) (g := gName j) (tt := tt) (te := te) (vs := vs) (σ := σ) (H := H) (fun i => (xs[i]?).bind fun x => if p x = true then some (f x) else none) (noL_fm hf) h (by rw [List.length_map]; exact hz) (fun i d hd x H1 x1 hx => by
    obtain ⟨a, ha, rfl⟩ := get_map hd
    have t := turn_of (K := K) (te := te) (d := f a) (hw x) (ht i a x H1 ha x1 hx) fun hp => he i a x H1 ha hp x1 hx
    simp only [ha, Option.bind_some]
    exact t)
  rw [List.length_map, fm_filter] at z
  exact z
theorem eb_yes : EvB K tYes σ H true := fun H1 _ _ q => q H1 (Evl.Ex.refl H1)
/-- without a test -/
theorem en_mapL {α : Type} (enc : α → PyData) {xs : List α} (f : α → PyData) (hf : ∀ x, noL (f x) = true) (h : EvD K tl σ H (.list (xs.map enc))) (hz : xs.length ≤ 100000) (hw : ∀ x, wipe ((wipe σ vs).set j (some x)) vs = wipe σ vs)
    (he : ∀ (i : Nat) (a : α) v H1, xs[i]? = some a → Ex H H1 → Dp K H1 v (enc a) → EvD K te ((wipe σ vs).set j (some v)) H1 (f a)) : EvN K (tLc (iList K tl) (gName j) tYes te vs) σ H (xs.map f) :=
  EvN.cast (en_fmL enc (fun _ => true) f hf h hz hw (fun _ _ _ _ _ _ _ => eb_yes) fun i a v H1 ha _ x hv => he i a v H1 ha x hv) (by rw [List.filter_eq_self.mpr (fun _ _ => rfl)])
theorem en_mapT {α : Type} (enc : α → PyData) {xs : List α} (f : α → PyData) (hf : ∀ x, noL (f x) = true) (h : EvD K tl σ H (.tuple (xs.map enc))) (hz : xs.length ≤ 100000) (hw : ∀ x, wipe ((wipe σ vs).set j (some x)) vs = wipe σ vs)
    (he : ∀ (i : Nat) (a : α) v H1, xs[i]? = some a → Ex H H1 → Dp K H1 v (enc a) → EvD K te ((wipe σ vs).set j (some v)) H1 (f a)) : EvN K (tLc (iTup K tl) (gName j) tYes te vs) σ H (xs.map f) :=
  EvN.cast (en_fmT enc (fun _ => true) f hf h hz hw (fun _ _ _ _ _ _ _ => eb_yes) fun i a v H1 ha _ x hv => he i a v H1 ha x hv) (by rw [List.filter_eq_self.mpr (fun _ _ => rfl)])
end
theorem atI_zero {d : PyData} {ds : List PyData} : L2.atI (d :: ds) 0 = some d := by show L2.atI (d :: ds) ((0 : Nat) : Int) = some d; exact atI_nat rfl

end Fy

namespace Fy
open PySem PySem.Spec PyProof.Rows L2
end Fy
local macro_rules | `(tactic| walk_at "ex") => `(tactic| first | assumption | exact Evl.Ex.refl _ | (refine Evl.Ex.trans (by assumption) ?_; walk_at "ex"))
local macro_rules | `(tactic| walk_at "dp") => `(tactic| first | with_reducible exact L2.Dp.int _ | with_reducible exact L2.Dp.bl _ | with_reducible exact L2.Dp.str _ | with_reducible exact L2.Dp.non | assumption | (refine Fy.dp_mono ?_ _ _ (by assumption); walk_at "ex"))
local macro_rules | `(tactic| walk_at "side") => `(tactic| first | decide | assumption | omega | exact ⟨by decide, by decide⟩ | exact Or.inl ⟨by decide, by decide⟩ | exact Or.inr ⟨by decide, by decide⟩)
local macro_rules | `(tactic| walk_at "rd") => `(tactic| first
  | ((with_reducible refine' Fy.i_I0 ?hh); (case hh => first | exact Fy.rd_I0 (fun _ => L2.Dp.int _) | exact Fy.rd_I0 (fun _ => L2.Dp.bl _)))
  | ((with_reducible refine' Fy.i_I ?hh); (case hh => exact Fy.rd_I (by walk_at "side") (fun _ => L2.Dp.int _)))
  | ((with_reducible refine' Fy.i_Eq ?hh); (case hh => first | exact Fy.rd_eqI | exact Fy.rd_eqB | exact Fy.rd_eqS))
  | ((with_reducible refine' Fy.i_Ne ?hh); (case hh => first | exact Fy.rd_neI | exact Fy.rd_neB | exact Fy.rd_neS))
  | ((with_reducible refine' Fy.i_In ?hh); (case hh => first | exact Fy.rd_inT | exact Fy.rd_niT))
  | ((with_reducible refine' Fy.i_IxL ?hh); (case hh => exact Fy.rd_ixL (by first | rfl | exact Fy.atI_zero)))
  | ((with_reducible refine' Fy.i_IxT ?hh); (case hh => exact Fy.rd_ixT (by rfl))))
local macro_rules | `(tactic| walk_at "cd") => `(tactic| first | exact Fy.cd_lenI | exact Fy.cd_lenL | exact Fy.cd_lenT | exact Fy.cd_tupL)
local macro_rules | `(tactic| walk_at "eds") => `(tactic| first
  | ((with_reducible refine' Fy.i_Nil ?hh); (case hh => exact Fy.eds_nil))
  | ((with_reducible refine' Fy.i_Cons ?hh); (case hh => exact Fy.eds_cons (by walk_at "ed") (by walk_at "eds"))))
local macro_rules | `(tactic| walk_at "ed") => `(tactic| first
  | ((with_reducible refine' Fy.i_C ?hh); (case hh => first | exact Fy.ed_int | exact Fy.ed_bl | exact Fy.ed_str | exact Fy.ed_non))
  | ((with_reducible refine' Fy.i_Var ?hh); (case hh => exact Fy.ed_var rfl (by walk_at "dp")))
  | ((with_reducible refine' Fy.i_Op ?hh); (case hh => exact Fy.ed_op (by walk_at "ed") (by walk_at "ed") (by walk_at "rd")))
  | ((with_reducible refine' Fy.i_Chain ?hh); (case hh => exact Fy.ed_chain (by walk_at "ed") (by walk_at "ed") (by walk_at "ed")))
  | ((with_reducible refine' Fy.i_IsiI ?hh); (case hh => exact Fy.ed_isiI (by walk_at "ed")))
  | ((with_reducible refine' Fy.i_IsiB ?hh); (case hh => exact Fy.ed_isiB (by walk_at "ed")))
  | ((with_reducible refine' Fy.i_IsiL ?hh); (case hh => exact Fy.ed_isiL (by walk_at "ed")))
  | ((with_reducible refine' Fy.i_IsiT ?hh); (case hh => exact Fy.ed_isiT (by walk_at "ed")))
  | ((with_reducible refine' Fy.i_IsiS ?hh); (case hh => exact Fy.ed_isiS (by walk_at "ed")))
  | ((with_reducible refine' Fy.i_CB ?hh); (case hh => exact Fy.ed_cb (by walk_at "eds") (by walk_at "cd")))
  | ((with_reducible refine' Fy.i_Un ?hh); (case hh => exact Fy.ed_un (by walk_at "ed") (fun _ => L2.Dp.int _)))
  | ((with_reducible refine' Fy.i_Tup ?hh); (case hh => exact Fy.ed_tup (by walk_at "eds") (by simp only [List.length_cons, List.length_nil]; decide)))
  | ((with_reducible refine' Fy.i_AndV ?hh); (case hh => exact Fy.ed_andV (by walk_at "ed") (fun _ => by walk_at "ed")))
  | ((with_reducible refine' Fy.i_OrV ?hh); (case hh => exact Fy.ed_orV (by walk_at "ed") (fun _ => by walk_at "ed")))
  | ((with_reducible refine' Fy.i_NotV ?hh); (case hh => exact Fy.ed_notV (by walk_at "ed"))))
local macro_rules | `(tactic| walk_at "et") => `(tactic| first
  | ((with_reducible refine' Fy.i_Test ?hh); (case hh => exact Fy.eb_d (by walk_at "ed")))
  | ((with_reducible refine' Fy.i_B ?hh); (case hh => exact Fy.eb_dB (by walk_at "ed")))
  | ((with_reducible refine' Fy.i_Not ?hh); (case hh => exact Fy.eb_not (by walk_at "et")))
  | ((with_reducible refine' Fy.i_And ?hh); (case hh => exact Fy.eb_and (by walk_at "et") (fun _ => by walk_at "et")))
  | ((with_reducible refine' Fy.i_Or ?hh); (case hh => exact Fy.eb_or (by walk_at "et") (fun _ => by walk_at "et"))))

namespace Fy
open PySem PySem.Spec PyProof.Rows L2
/-! ### a night as an object -/
theorem n_tp : ¬ (("all_things" : Str) = "places") := by decide +kernel
theorem n_tq : ¬ (("all_things" : Str) = "all_quarrels") := by decide +kernel
theorem n_pq : ¬ (("places" : Str) = "all_quarrels") := by decide +kernel
def nf (a : Addr) (r : Int) (b : Addr) : List (Str × V) := putF "all_quarrels" (.ref b) (putF "places" (.int r) (putF "all_things" (.ref a) []))
theorem nf_t (a : Addr) (r : Int) (b : Addr) : (nf a r b).lookup ("all_things" : Str) = some (.ref a) := by
  unfold nf
  rw [lookup_putF, if_neg n_tq, lookup_putF, if_neg n_tp, lookup_putF, if_pos rfl]
theorem nf_p (a : Addr) (r : Int) (b : Addr) : (nf a r b).lookup ("places" : Str) = some (.int r) := by
  unfold nf
  rw [lookup_putF, if_neg n_pq, lookup_putF, if_pos rfl]
theorem nf_q (a : Addr) (r : Int) (b : Addr) : (nf a r b).lookup ("all_quarrels" : Str) = some (.ref b) := by
  unfold nf
  rw [lookup_putF, if_pos rfl]
theorem nf_no (a : Addr) (r : Int) (b : Addr) {m : Str} (h1 : ¬ m = "all_quarrels") (h2 : ¬ m = "places") (h3 : ¬ m = "all_things") : (nf a r b).lookup m = none := by
  unfold nf
  rw [lookup_putF, if_neg h1, lookup_putF, if_neg h2, lookup_putF, if_neg h3]
  rfl
structure NightAt (K : PySem.W.Frag) (H : Hp) (v : V) (n : Nt) : Prop where
  at_ : ∃ p dx a b ts qs, v = .ref p ∧ H p = some (.ins (He.ga K "Night") dx (nf a n.room b)) ∧ H a = some (.lst ts) ∧ DpAll K H ts (n.things.map eT) ∧ H b = some (.lst qs) ∧ DpAll K H qs (n.quarrels.map eQ)
theorem NightAt.mono {K : PySem.W.Frag} {H H' : Hp} {v : V} {n : Nt} (e : Ex H H') (h : NightAt K H v n) : NightAt K H' v n := by
  obtain ⟨p, dx, a, b, ts, qs, h0, h1, h2, h3, h4, h5⟩ := h.at_
  exact ⟨p, dx, a, b, ts, qs, h0, e _ _ h1, e _ _ h2, dpa_mono e _ _ h3, e _ _ h4, dpa_mono e _ _ h5⟩
/-- its own lists are new behind H0 -/
structure NightI (K : PySem.W.Frag) (H0 H : Hp) (v : V) (n : Nt) : Prop where
  at_ : ∃ p dx a b ts qs, v = .ref p ∧ H p = some (.ins (He.ga K "Night") dx (nf a n.room b)) ∧ H a = some (.lst ts) ∧ DpAll K H ts (n.things.map eT) ∧ H b = some (.lst qs) ∧ DpAll K H qs (n.quarrels.map eQ) ∧ H0 a = none ∧ H0 b = none
theorem NightI.na {K : PySem.W.Frag} {H0 H : Hp} {v : V} {n : Nt} (h : NightI K H0 H v n) : NightAt K H v n := by
  obtain ⟨p, dx, a, b, ts, qs, h0, h1, h2, h3, h4, h5, _⟩ := h.at_
  exact ⟨p, dx, a, b, ts, qs, h0, h1, h2, h3, h4, h5⟩
theorem NightI.mono {K : PySem.W.Frag} {H0 H H' : Hp} {v : V} {n : Nt} (e : Ex H H') (h : NightI K H0 H v n) : NightI K H0 H' v n := by
  obtain ⟨p, dx, a, b, ts, qs, h0, h1, h2, h3, h4, h5, h6⟩ := h.at_
  exact ⟨p, dx, a, b, ts, qs, h0, e _ _ h1, e _ _ h2, dpa_mono e _ _ h3, e _ _ h4, dpa_mono e _ _ h5, h6⟩
theorem NightI.back {K : PySem.W.Frag} {H0 H1 H : Hp} {v : V} {n : Nt} (e : Ex H0 H1) (h : NightI K H1 H v n) : NightI K H0 H v n := by
  obtain ⟨p, dx, a, b, ts, qs, h0, h1, h2, h3, h4, h5, h6, h7⟩ := h.at_
  exact ⟨p, dx, a, b, ts, qs, h0, h1, h2, h3, h4, h5, Evl.fresh_back e h6, Evl.fresh_back e h7⟩
/-- a list that stood ahead of its making is changed -/
theorem NightI.lst {K : PySem.W.Frag} {H0 H : Hp} {v : V} {n : Nt} {l : Addr} {o o' : HO} {xs : List V} (h : NightI K H0 H v n) (hl : H0 l = some o) (hx : H l = some (.lst xs)) : NightI K H0 (upd H l o') v n := by
  obtain ⟨p, dx, a, b, ts, qs, h0, h1, h2, h3, h4, h5, h6, h7⟩ := h.at_
  have u : Up H (upd H l o') := Up.lst hx
  refine ⟨p, dx, a, b, ts, qs, h0, ?_, ?_, dpa_up u _ _ (noLs_map noL_eT _) h3, ?_, dpa_up u _ _ (noLs_map noL_eQ _) h5, h6, h7⟩
  · rw [upd_ne (fun e => by rw [e, hx] at h1; cases h1)]; exact h1
  · rw [upd_ne (fun e => by rw [e, hl] at h6; cases h6)]; exact h2
  · rw [upd_ne (fun e => by rw [e, hl] at h7; cases h7)]; exact h4
theorem rgV_eq (n : Nat) : rgV 0 (n : Int) = (rng n).map V.int := by
  unfold rgV rng
  rw [List.map_map]
  have e : ((n : Int) - 0).toNat = n := by omega
  rw [e]
  exact List.map_congr_left fun i _ => by show V.int (0 + (i : Int)) = V.int (i : Int); rw [Int.zero_add]
/-! ### the promises -/
def spNThings (K : PySem.W.Frag) : Sp := fun vs H Q _ => ∃ v n, vs = [v] ∧ NightAt K H v n ∧ RetR (fun u H' => NewL K H u H' (n.things.map eT)) H Q
def spNQuarrels (K : PySem.W.Frag) : Sp := fun vs H Q _ => ∃ v n, vs = [v] ∧ NightAt K H v n ∧ RetR (fun u H' => NewL K H u H' (n.quarrels.map eQ)) H Q
def spNRoom (K : PySem.W.Frag) : Sp := fun vs H Q _ => ∃ v n, vs = [v] ∧ NightAt K H v n ∧ RetV (.int n.room) H Q
def spNBegins (K : PySem.W.Frag) : Sp := fun vs H Q _ => ∃ v n, vs = [v] ∧ NightAt K H v n ∧ n.things.length ≤ 1000 ∧ RetR (fun u H' => Dp K H' u (eS (rng n.things.length, 0))) H Q
def spNEnds (K : PySem.W.Frag) : Sp := fun vs H Q _ => ∃ v n, vs = [v] ∧ NightAt K H v n ∧ RetR (fun u H' => Dp K H' u (eS ([], 1))) H Q
def spNPeace (K : PySem.W.Frag) : Sp := fun vs H Q _ => ∃ v n u g, vs = [v, u] ∧ NightAt K H v n ∧ Dp K H u (eI g) ∧ RetV (.bl (peace n.quarrels g)) H Q
def spNOver (K : PySem.W.Frag) : Sp := fun vs H Q _ => ∃ v n u g, vs = [v, u] ∧ NightAt K H v n ∧ Dp K H u (eI g) ∧ n.things.length ≤ 1000 ∧ RetR (fun u H' => Dp K H' u (eI (restOf g n.things.length))) H Q
section
variable {P : Program} {w : World} {K : PySem.W.Frag} {mg : Str → Option Value} {base : Heap}
theorem sc_Night_things : FnScope ["self"] ["self"] (defScope s_Night_things) := ⟨rfl, rfl, rfl, by decide +kernel, rfl, by decide +kernel, by decide +kernel⟩
theorem ok_Night_things (T : Tx K mg) : HasM P w K mg base CX0 1 "things" ["self"] (spNThings K) := by
  obtain ⟨fd, F⟩ := T.f_Night_things
  refine ⟨T.cl, T.m_things, fd, F.ok sc_Night_things (fun vs H Q E h => ?_) (fun cdv A outer s H vs Q E hr h => ⟨_, PSs.nox (pss_one (ps_ret (pe_callTy (r := rListQ K) call_list_of (by rfl) T.b_list (by decide +kernel) (pa_cons (pe_fld (pv 0) rfl) pa_nil)))), ?_⟩), F.bindsN fun _ _ _ _ _ _ us hl => match us, hl with | [_], _ => rfl⟩
  · obtain ⟨v, n, rfl, _⟩ := h
    rfl
  · obtain ⟨v, n, rfl, N, k⟩ := h
    obtain ⟨p, dx, a, b, ts, qs, rfl, h1, h2, h3, h4, h5⟩ := N.at_
    refine ⟨_, rfl, p, _, dx, _, _, rfl, h1, T.cl, T.na_all_things, nf_t _ _ _, a, ts, rfl, .inl (SqL.of h2), fun l hl => ?_⟩
    have e := Evl.Ex.new (o := .lst ts) hl
    exact k _ _ e ⟨l, ts, rfl, hl, upd_same, dpa_mono e _ _ h3⟩
theorem sc_Night_quarrels : FnScope ["self"] ["self"] (defScope s_Night_quarrels) := ⟨rfl, rfl, rfl, by decide +kernel, rfl, by decide +kernel, by decide +kernel⟩
theorem ok_Night_quarrels (T : Tx K mg) : HasM P w K mg base CX0 1 "quarrels" ["self"] (spNQuarrels K) := by
  obtain ⟨fd, F⟩ := T.f_Night_quarrels
  refine ⟨T.cl, T.m_quarrels, fd, F.ok sc_Night_quarrels (fun vs H Q E h => ?_) (fun cdv A outer s H vs Q E hr h => ⟨_, PSs.nox (pss_one (ps_ret (pe_callTy (r := rListQ K) call_list_of (by rfl) T.b_list (by decide +kernel) (pa_cons (pe_fld (pv 0) rfl) pa_nil)))), ?_⟩), F.bindsN fun _ _ _ _ _ _ us hl => match us, hl with | [_], _ => rfl⟩
  · obtain ⟨v, n, rfl, _⟩ := h
    rfl
  · obtain ⟨v, n, rfl, N, k⟩ := h
    obtain ⟨p, dx, a, b, ts, qs, rfl, h1, h2, h3, h4, h5⟩ := N.at_
    refine ⟨_, rfl, p, _, dx, _, _, rfl, h1, T.cl, T.na_all_quarrels, nf_q _ _ _, b, qs, rfl, .inl (SqL.of h4), fun l hl => ?_⟩
    have e := Evl.Ex.new (o := .lst qs) hl
    exact k _ _ e ⟨l, qs, rfl, hl, upd_same, dpa_mono e _ _ h5⟩
theorem sc_Night_room : FnScope ["self"] ["self"] (defScope s_Night_room) := ⟨rfl, rfl, rfl, by decide +kernel, rfl, by decide +kernel, by decide +kernel⟩
theorem ok_Night_room (T : Tx K mg) : HasM P w K mg base CX0 1 "room" ["self"] (spNRoom K) := by
  obtain ⟨fd, F⟩ := T.f_Night_room
  refine ⟨T.cl, T.m_room, fd, F.ok sc_Night_room (fun vs H Q E h => ?_) (fun cdv A outer s H vs Q E hr h => ⟨_, PSs.nox (pss_one (ps_ret (pe_fld (pv 0) rfl))), ?_⟩), F.bindsN fun _ _ _ _ _ _ us hl => match us, hl with | [_], _ => rfl⟩
  · obtain ⟨v, n, rfl, _⟩ := h
    rfl
  · obtain ⟨v, n, rfl, N, k⟩ := h
    obtain ⟨p, dx, a, b, ts, qs, rfl, h1, h2, h3, h4, h5⟩ := N.at_
    exact ⟨_, rfl, p, _, dx, _, _, rfl, h1, T.cl, T.na_places, nf_p _ _ _, k _ (Evl.Ex.refl H)⟩
theorem sc_Night_ends : FnScope ["self"] ["self"] (defScope s_Night_ends) := ⟨rfl, rfl, rfl, by decide +kernel, rfl, by decide +kernel, by decide +kernel⟩
theorem ok_Night_ends (T : Tx K mg) : HasM P w K mg base CX0 1 "ends" ["self"] (spNEnds K) := by
  obtain ⟨fd, F⟩ := T.f_Night_ends
  refine ⟨T.cl, T.m_ends, fd, F.ok sc_Night_ends (fun vs H Q E h => ?_) (fun cdv A outer s H vs Q E hr h => ⟨_, PSs.nox (pss_one (ps_ret (pe_tup (pa_cons (pe_tup pa_nil) (pa_cons pe_int pa_nil))))), ?_⟩), F.bindsN fun _ _ _ _ _ _ us hl => match us, hl with | [_], _ => rfl⟩
  · obtain ⟨v, n, rfl, _⟩ := h
    rfl
  · obtain ⟨v, n, rfl, N, k⟩ := h
    refine ⟨Nat.zero_le _, fun q hq => ?_⟩
    refine ⟨by show 2 ≤ sizeLine; decide, fun r hr2 => ?_⟩
    have e1 := Evl.Ex.new (o := HO.tup []) hq
    refine k _ _ (e1.trans (Evl.Ex.new hr2)) (dp_eS.mpr ⟨r, _, rfl, SqT.of upd_same, dp_eI.mpr ⟨q, rfl, SqT.of ?_⟩⟩)
    rw [upd_ne (ne_of_none upd_same hr2), upd_same]
    rfl
theorem sc_Night_peace : FnScope ["self", "group", "one", "other", "keeper"] ["self", "group"] (defScope s_Night_peace) := ⟨rfl, rfl, rfl, by decide +kernel, rfl, by decide +kernel, by decide +kernel⟩
theorem ok_Night_peace (T : Tx K mg) : HasM P w K mg base CX0 1 "peace" ["self", "group"] (spNPeace K) := by
  obtain ⟨fd, F⟩ := T.f_Night_peace
  refine ⟨T.cl, T.m_peace, fd, F.ok sc_Night_peace (fun vs H Q E h => ?_) (fun cdv A outer s H vs Q E hr h => ⟨_, PSs.nox (pss_cons (ps_for PassesOwn.never rfl (pi_list (pe_fld (pv 0) rfl)) (pg_tup (by rfl) (pgs_cons (pg_name (i := 2) sc_Night_peace.nd rfl (.inl rfl)) (pgs_cons (pg_name (i := 3) sc_Night_peace.nd rfl (.inl rfl)) (pgs_cons (pg_name (i := 4) sc_Night_peace.nd rfl (.inl rfl)) pgs_nil)))) (pss_one (ps_if (PW.pt (pw_and (pt_cmpR (r := rIn K false) op_in_seq (pv 2) (pv 1) (by rfl)) (pw_and (pt_cmpR (r := rIn K false) op_in_seq (pv 3) (pv 1) (by rfl)) (pw_and1 (pt_cmpR (r := rIn K true) op_notIn_seq (pv 4) (pv 1) (by rfl)))))) (pss_one (ps_ret pe_bl)) pss_nil)))
      (pss_one (ps_ret pe_bl))), ?_⟩), F.bindsN fun _ _ _ _ _ _ us hl => match us, hl with | [_, _], _ => rfl⟩
  · obtain ⟨v, n, u, g, rfl, _⟩ := h
    rfl
  · obtain ⟨v, n, u, g, rfl, N, G, k⟩ := h
    obtain ⟨p, dx, a, b, ts, qs, rfl, h1, h2, h3, h4, h5⟩ := N.at_
    obtain ⟨ga, rfl, hg⟩ := dp_eI.mp G
    refine ⟨_, rfl, p, _, dx, _, _, rfl, h1, T.cl, T.na_all_quarrels, nf_q _ _ _, b, rfl, ⟨_, SqL.of h4⟩, for_list (K := K) (a := b) (xs := qs) (fun i σ H' => ∃ x y z, σ = [some (.ref p), some (.ref ga), x, y, z] ∧ H' = H ∧ peace (n.quarrels.take i) g = true) ⟨none, none, none, rfl, rfl, rfl⟩ (fun i σ H' _ ⟨_, _, _, _, e, _⟩ => by rw [e]; exact SqL.of h4) ?_ ?_⟩
    · rintro i x σ H' hi ⟨x0, y0, z0, rfl, rfl, hp⟩
      obtain ⟨d, hd, hx⟩ := dpa_get h5 hi
      rw [List.getElem?_map] at hd
      cases hq : n.quarrels[i]? with
      | none => rw [hq] at hd; cases hd
      | some q =>
        rw [hq] at hd
        cases hd
        obtain ⟨qa, rfl, hqa⟩ := dp_eQ.mp hx
        refine ⟨qa, _, rfl, hqa, rfl, _, _, rfl, _, _, rfl, _, _, rfl, rfl, ?_⟩
        have tk : n.quarrels.take (i + 1) = n.quarrels.take i ++ [q] := by rw [List.take_add_one, hq]; rfl
        have pk : peace (n.quarrels.take (i + 1)) g = !atWar g q := by rw [tk]; unfold peace at hp ⊢; rw [List.all_append, hp]; simp
        refine ⟨_, rfl, _, rfl, ga, _, rfl, .inr hg, rfl, flat_ints g, _, rfl, ?_⟩
        have fin : (if atWar g q = true then Q (.bl false) H' else (∃ x y z, [some (V.ref p), some (V.ref ga), some (.int q.1), some (.int q.2.1), some (.int q.2.2)] = [some (V.ref p), some (V.ref ga), x, y, z] ∧ H' = H' ∧ peace (n.quarrels.take (i + 1)) g = true)) := by
          cases hw : atWar g q with
          | true =>
            rw [if_pos rfl]
            have e : peace n.quarrels g = false := by
              unfold peace
              rw [Bool.eq_false_iff]
              intro h
              have := List.all_eq_true.mp h q (List.mem_of_getElem? hq)
              rw [hw] at this
              cases this
            have := k H' (Evl.Ex.refl H')
            rw [e] at this
            exact this
          | false =>
            rw [if_neg Bool.false_ne_true]
            exact ⟨_, _, _, rfl, rfl, by rw [pk, hw]; rfl⟩
        rw [if_neg Bool.false_ne_true, inV_ints]
        unfold atWar at fin
        cases c1 : g.contains q.1 with
        | false => rw [c1, Bool.false_and] at fin; exact fin
        | true =>
          rw [c1, Bool.true_and] at fin
          refine ⟨_, rfl, _, rfl, ga, _, rfl, .inr hg, rfl, flat_ints g, _, rfl, ?_⟩
          rw [if_neg Bool.false_ne_true, inV_ints]
          cases c2 : g.contains q.2.1 with
          | false => rw [c2, Bool.false_and] at fin; exact fin
          | true =>
            rw [c2, Bool.true_and] at fin
            refine ⟨_, rfl, _, rfl, ga, _, rfl, .inr hg, rfl, flat_ints g, _, rfl, ?_⟩
            rw [if_pos rfl, inV_ints]
            exact fin
    · rintro σ H' ⟨x0, y0, z0, rfl, rfl, hp⟩
      have hl : qs.length = n.quarrels.length := by have := dpa_len h5; rw [List.length_map] at this; exact this
      rw [hl, List.take_length] at hp
      have := k H' (Evl.Ex.refl H')
      rw [hp] at this
      exact this
theorem sc_Night_over_there : FnScope ["self", "group", "thing"] ["self", "group"] (defScope s_Night_over_there) := ⟨rfl, rfl, rfl, by decide +kernel, rfl, by decide +kernel, by decide +kernel⟩
theorem ok_Night_over_there (T : Tx K mg) : HasM P w K mg base CX0 1 "over_there" ["self", "group"] (spNOver K) := by
  obtain ⟨fd, F⟩ := T.f_Night_over_there
  refine ⟨T.cl, T.m_over_there, fd, F.ok sc_Night_over_there (fun vs H Q E h => ?_) (fun cdv A outer s H vs Q E hr h => ⟨_, PSs.nox (pss_one (ps_ret (pe_callTy (r := rTupQ K) call_tuple_of (by rfl) T.b_tuple (by decide +kernel) (pa_cons (pe_lc (own := [("thing", 2)]) (g := gName 2) (by rfl) sc_Night_over_there.nd (pi_range1 rfl T.b_range (pa_cons (pe_callB (r := rLenQ K) call_len_seq (by rfl) T.b_len (by decide +kernel) (pa_cons (pe_fld (pv 0) rfl) pa_nil)) pa_nil)) (blkOk_by (N := ["self", "group", "thing"]) (sc := defScope s_Night_over_there) (by decide +kernel)) (fun _ _ _ _ _ => pg_name (i := 2) sc_Night_over_there.nd rfl (.inl rfl)) (fun _ _ _ _ _ => (pts_one (pt_cmpR (r := rIn K true) op_notIn_seq (pv 2) (pv 1) (by rfl)))) (fun _ _ _ _ _ => (pv 2))) pa_nil)))), ?_⟩), F.bindsN fun _ _ _ _ _ _ us hl => match us, hl with | [_, _], _ => rfl⟩
  · obtain ⟨v, n, u, g, rfl, _⟩ := h
    rfl
  · obtain ⟨v, n, u, g, rfl, N, G, hl, k⟩ := h
    obtain ⟨p, dx, a, b, ts, qs, rfl, h1, h2, h3, h4, h5⟩ := N.at_
    have lf : EvD K (tCB (rLenQ K) (tCons (tFld K (tVar 0) "all_things") tNil)) [some (.ref p), some u, none] H (.int (n.things.length : Nat)) := by
      have e : EvD K (tFld K (tVar 0) "all_things") [some (.ref p), some u, none] H (.list (n.things.map eT)) := fun H1 x Q q =>
        ⟨_, rfl, p, _, dx, _, _, rfl, x _ _ h1, T.cl, T.na_all_things, nf_t _ _ _, q _ H1 (Evl.Ex.refl H1) (dp_lst.mpr ⟨a, ts, rfl, SqL.of (x _ _ h2), dpa_mono x _ _ h3⟩)⟩
      have z := ed_cb (eds_cons e eds_nil) (cd_lenL (K := K))
      rw [List.length_map] at z
      exact z
    refine' w_ret1 (K := K) (d := eI (restOf g n.things.length)) (ed_cb (eds_cons (en_filR (n := (n.things.length : Int)) (fun t => !g.contains t) (eds_cons lf eds_nil) (by omega) (fun _ => rfl) (fun _ => rfl) (fun i hi => ?b)).toD eds_nil) cd_tupL) (fun v4 H4 x4 h4 => k v4 H4 x4 h4)
    case b => walk_at "et"
end

end Fy

namespace Fy
open PySem PySem.Spec PyProof.Rows L2
/-! ### the making of a night -/
def spThings (K : PySem.W.Frag) : Sp := fun vs H Q E => ∃ v ts, vs = [v] ∧ Dp K H v (.list (ts.map eT)) ∧ (thingsOk ts = true → ∀ H', Ex H H' → Q .non H') ∧ (thingsOk ts = false → ∀ H', Ex H H' → E (.ref (He.ga K "BadThing")) none H')
def spQuarrel (K : PySem.W.Frag) : Sp := fun vs H Q E => ∃ (many : Int) (q : Int × Int × Int), DpAll K H vs ([many, q.1, q.2.1, q.2.2].map PyData.int) ∧ (quarrelOk many q = true → ∀ H', Ex H H' → Q .non H') ∧ (quarrelOk many q = false → ∀ H', Ex H H' → E (.ref (He.ga K "BadQuarrel")) none H')
/-- Night(..): what it raises, or a night -/
def spInit (K : PySem.W.Frag) : Sp := fun vs H Q E => ∃ (p dx : Addr) (t q : V) (n : Nt), vs = [.ref p, t, .int n.room, q] ∧ H p = some (.ins (He.ga K "Night") dx []) ∧ Dp K H t (.list (n.things.map eT)) ∧ Dp K H q (.list (n.quarrels.map eQ)) ∧
  (∀ H', n.ok = true → (∀ b o, H b = some o → b ≠ p → H' b = some o) → NightI K H H' (.ref p) n → Q .non H') ∧
  (∀ H', thingsOk n.things = false → Ex H H' → E (.ref (He.ga K "BadThing")) none H') ∧
  (∀ H', thingsOk n.things = true → roomOk n.room = false → Ex H H' → E (.ref (He.ga K "BadRoom")) none H') ∧
  (∀ H', thingsOk n.things = true → roomOk n.room = true → quarrelsOk n.things.length n.quarrels = false → Ex H H' → E (.ref (He.ga K "BadQuarrel")) none H')
section
variable {P : Program} {w : World} {K : PySem.W.Frag} {mg : Str → Option Value} {base : Heap}
theorem sc_look_at_things : FnScope ["things", "pace", "rows"] ["things"] (defScope s_look_at_things) := ⟨rfl, rfl, rfl, by decide +kernel, rfl, by decide +kernel, by decide +kernel⟩
theorem ok_look_at_things (T : Tx K mg) : Has P w K mg base (L2.CX P w) 1 "look_at_things" ["things"] (spThings K) := by
  obtain ⟨fd, F⟩ := T.f_look_at_things
  obtain ⟨t_SLOWEST, m_SLOWEST⟩ := T.i_SLOWEST
  obtain ⟨t_MOST_THINGS, m_MOST_THINGS⟩ := T.i_MOST_THINGS
  refine ⟨T.g_look_at_things, fd, F.ok sc_look_at_things (fun vs H Q E h => ?_) (fun cdv A outer s H vs Q E hr h => ⟨_, (pss_cons (ps_if (pt_not (pt_chain op_le op_le pe_int (pe_callB (r := rLenQ K) call_len_seq (by rfl) T.b_len (by decide +kernel) (pa_cons (pv 0) pa_nil)) (pe_glob rfl m_MOST_THINGS (v := .int 6) ⟨_, rfl⟩))) (pss_one (ps_raiseOwn rfl (takes_of rfl rfl rfl rfl) T.x_BadThing T.g_BadThing rfl)) pss_nil)
      (pss_one (ps_for (passes_of rfl) rfl (pi_list (pv 0)) (pg_tup (by rfl) (pgs_cons (pg_name (i := 1) sc_look_at_things.nd rfl (.inl rfl)) (pgs_cons (pg_name (i := 2) sc_look_at_things.nd rfl (.inl rfl)) pgs_nil))) (pss_one (ps_if (pt_not (pt_chain op_le op_le pe_int (pv 1) (pe_glob rfl m_SLOWEST (v := .int 1000000000) ⟨_, rfl⟩))) (pss_one (ps_raiseOwn rfl (takes_of rfl rfl rfl rfl) T.x_BadThing T.g_BadThing rfl)) pss_nil))))), ?_⟩), F.bindsN fun _ _ _ _ _ _ us hl => match us, hl with | [_], _ => rfl, F.kp⟩
  · obtain ⟨v, n, rfl, _⟩ := h
    rfl
  · obtain ⟨v, ts, rfl, hv, kq, ke⟩ := h
    refine' w_when K ?t (fun hb H1 x1 => ?_) (fun hb H1 x1 => ?_)
    case t => walk_at "et"
    · refine ke ?_ H1 x1
      rw [List.length_map] at hb
      unfold thingsOk
      rw [show decide (1 ≤ ts.length ∧ ts.length ≤ 6) = false from decide_eq_false (by simp at hb; omega)]
      rfl
    · rw [List.length_map] at hb
      have hlen : decide (1 ≤ ts.length ∧ ts.length ≤ 6) = true := decide_eq_true (by simp at hb; omega)
      refine w_forLx1 (K := K) (ed_var rfl (dp_mono x1 _ _ hv)) (fun i σ H' => ∃ x y, σ = [some v, x, y] ∧ (ts.take i).all paceOk = true) (fun H2 x2 => ⟨none, none, rfl, rfl⟩) ?_ ?_
      · rintro i d x σ H' hd x2 hx ⟨y, z, rfl, ha⟩
        obtain ⟨t, ht, rfl⟩ := get_map hd
        obtain ⟨a, rfl, hs⟩ := dp_eT.mp hx
        refine g_tup2 rfl hs ?_
        refine' w_when1 K ?t (fun hb H3 x3 => ?_) (fun hb H3 x3 => ?_)
        case t => walk_at "et"
        · refine ke ?_ H3 ((x1.trans x2).trans x3)
          unfold thingsOk
          rw [all_not ht (show paceOk t = false from decide_eq_false (by simp at hb; omega)), Bool.and_false]
        · refine ⟨x3, _, _, rfl, ?_⟩
          rw [all_take ht ha]
          exact decide_eq_true (by simp at hb; omega)
      · rintro σ H' x2 ⟨y, z, rfl, ha⟩
        rw [List.length_map, List.take_length] at ha
        refine kq ?_ H' (x1.trans x2)
        unfold thingsOk
        rw [hlen, ha]
        rfl
theorem sc_look_at_quarrel : FnScope ["many", "one", "other", "keeper"] ["many", "one", "other", "keeper"] (defScope s_look_at_quarrel) := ⟨rfl, rfl, rfl, by decide +kernel, rfl, by decide +kernel, by decide +kernel⟩
theorem ok_look_at_quarrel (T : Tx K mg) : Has P w K mg base (L2.CX P w) 1 "look_at_quarrel" ["many", "one", "other", "keeper"] (spQuarrel K) := by
  obtain ⟨fd, F⟩ := T.f_look_at_quarrel
  refine ⟨T.g_look_at_quarrel, fd, F.ok sc_look_at_quarrel (fun vs H Q E h => ?_) (fun cdv A outer s H vs Q E hr h => ⟨_, (pss_cons (ps_if (PW.pt (pw_or (pt_not (pt_chain op_le op_lt pe_int (pv 1) (pv 0))) (pw_or (pt_not (pt_chain op_le op_lt pe_int (pv 2) (pv 0))) (pw_or1 (pt_not (pt_chain op_le op_lt (pe_un un_neg pe_int) (pv 3) (pv 0))))))) (pss_one (ps_raiseOwn rfl (takes_of rfl rfl rfl rfl) T.x_BadQuarrel T.g_BadQuarrel rfl)) pss_nil)
      (pss_one (ps_if (PW.pt (pw_or (pt_cmpR op_eq (pv 1) (pv 2) (nomark _)) (pw_or (pt_cmpR op_eq (pv 3) (pv 1) (nomark _)) (pw_or1 (pt_cmpR op_eq (pv 3) (pv 2) (nomark _)))))) (pss_one (ps_raiseOwn rfl (takes_of rfl rfl rfl rfl) T.x_BadQuarrel T.g_BadQuarrel rfl)) pss_nil))), ?_⟩), F.bindsN fun _ _ _ _ _ _ us hl => match us, hl with | [_, _, _, _], _ => rfl, F.kp⟩
  · obtain ⟨many, q, h, _⟩ := h
    exact dpa_len h
  · obtain ⟨many, q, h, kq, ke⟩ := h
    obtain rfl := dpa_ints.mp h
    refine' w_when K ?t (fun hb H1 x1 => ?_) (fun hb H1 x1 => ?_)
    case t => walk_at "et"
    · refine ke ?_ H1 x1
      unfold quarrelOk quarrelIn
      rw [Bool.and_eq_false_iff]
      left
      simp at hb ⊢
      omega
    · have hin : quarrelIn many q = true := by
        unfold quarrelIn
        simp at hb ⊢
        omega
      refine' w_when1 K ?t (fun hb H2 x2 => ?_) (fun hb H2 x2 => ?_)
      case t => walk_at "et"
      · refine ke ?_ H2 (x1.trans x2)
        unfold quarrelOk quarrelTwo
        rw [Bool.and_eq_false_iff]
        right
        simp at hb ⊢
        omega
      · refine kq ?_ H2 (x1.trans x2)
        unfold quarrelOk quarrelTwo
        rw [hin]
        simp at hb ⊢
        omega
theorem sc_Night___init__ : FnScope ["self", "things", "room", "quarrels", "one", "other", "keeper"] ["self", "things", "room", "quarrels"] (defScope s_Night___init__) := ⟨rfl, rfl, rfl, by decide +kernel, rfl, by decide +kernel, by decide +kernel⟩
theorem ok_Night___init__ (T : Tx K mg) : ∃ fd, FnOk P w K mg base (L2.CX P w) 2 (He.ma K (He.ga K "Night") "__init__") fd ["self", "things", "room", "quarrels"] (spInit K) ∧ Binds K fd ["self", "things", "room", "quarrels"] [] := by
  obtain ⟨fd, F⟩ := T.f_Night___init__
  have G_look_at_quarrel := ok_look_at_quarrel (P := P) (w := w) (base := base) T
  have G_look_at_things := ok_look_at_things (P := P) (w := w) (base := base) T
  obtain ⟨t_MOST_QUARRELS, m_MOST_QUARRELS⟩ := T.i_MOST_QUARRELS
  obtain ⟨t_MOST_ROOM, m_MOST_ROOM⟩ := T.i_MOST_ROOM
  refine ⟨fd, F.ok sc_Night___init__ (fun vs H Q E h => ?_) (fun cdv A outer s H vs Q E hr h => ⟨_, (pss_cons (ps_expr (pe_fx G_look_at_things (hr.mono (by decide)) rfl (takes_of rfl rfl rfl rfl) (pa_cons (pv 1) pa_nil)))
      (pss_cons (ps_if (pt_not (pt_chain op_le op_le pe_int (pv 2) (pe_glob rfl m_MOST_ROOM (v := .int 3) ⟨_, rfl⟩))) (pss_one (ps_raiseOwn rfl (takes_of rfl rfl rfl rfl) T.x_BadRoom T.g_BadRoom rfl)) pss_nil)
      (pss_cons (ps_if (pt_cmpR op_gt (pe_callB (r := rLenQ K) call_len_seq (by rfl) T.b_len (by decide +kernel) (pa_cons (pv 3) pa_nil)) (pe_glob rfl m_MOST_QUARRELS (v := .int 30) ⟨_, rfl⟩) (nomark _)) (pss_one (ps_raiseOwn rfl (takes_of rfl rfl rfl rfl) T.x_BadQuarrel T.g_BadQuarrel rfl)) pss_nil)
      (pss_cons (ps_for (passes_of rfl) rfl (pi_list (pv 3)) (pg_tup (by rfl) (pgs_cons (pg_name (i := 4) sc_Night___init__.nd rfl (.inl rfl)) (pgs_cons (pg_name (i := 5) sc_Night___init__.nd rfl (.inl rfl)) (pgs_cons (pg_name (i := 6) sc_Night___init__.nd rfl (.inl rfl)) pgs_nil)))) (pss_one (ps_expr (pe_fx G_look_at_quarrel (hr.mono (by decide)) rfl (takes_of rfl rfl rfl rfl) (pa_cons (pe_callB (r := rLenQ K) call_len_seq (by rfl) T.b_len (by decide +kernel) (pa_cons (pv 1) pa_nil)) (pa_cons (pv 4) (pa_cons (pv 5) (pa_cons (pv 6) pa_nil))))))))
      (pss_cons (ps_fld (pv 0) (pe_callTy (r := rListQ K) call_list_of (by rfl) T.b_list (by decide +kernel) (pa_cons (pv 1) pa_nil)) rfl)
      (pss_cons (ps_fld (pv 0) (pv 2) rfl)
      (pss_one (ps_fld (pv 0) (pe_callTy (r := rListQ K) call_list_of (by rfl) T.b_list (by decide +kernel) (pa_cons (pv 3) pa_nil)) rfl)))))))), ?_⟩), F.bindsN fun _ _ _ _ _ _ us hl => match us, hl with | [_, _, _, _], _ => rfl⟩
  · obtain ⟨p, dx, t, q, n, rfl, _⟩ := h
    rfl
  · obtain ⟨p, dx, t, q, n, rfl, hp, ht, hq, kq, kT, kR, kQ⟩ := h
    refine' w_callS (K := K) (ds := [.list (n.things.map eT)]) ?a (fun vs H0 x0 hv => ?_)
    case a => walk_at "eds"
    obtain ⟨t', rfl, ht'⟩ : ∃ t', vs = [t'] ∧ Dp K H0 t' (.list (n.things.map eT)) := by
      cases hv with
      | cons h1 h2 => cases h2; exact ⟨_, rfl, h1⟩
    refine ⟨t', n.things, rfl, ht', fun okT H1 x1' => ?_, fun okT H1 x1' => kT H1 okT (x0.trans x1')⟩
    have x1 := x0.trans x1'
    clear x1'
    have fr : ∀ b o, H b = some o → b ≠ p → H1 b = some o := fun b o e _ => x1 b o e
    refine' w_when K ?t (fun hb H2 x2 => ?_) (fun hb H2 x2 => ?_)
    case t => walk_at "et"
    · exact kR H2 okT (decide_eq_false (by simp at hb; omega)) (x1.trans x2)
    · have okR : roomOk n.room = true := decide_eq_true (by simp at hb; omega)
      refine' w_when K ?t (fun hb H3 x3 => ?_) (fun hb H3 x3 => ?_)
      case t => walk_at "et"
      · refine kQ H3 okT okR ?_ ((x1.trans x2).trans x3)
        unfold quarrelsOk
        rw [decide_eq_false (by simp at hb; omega)]
        rfl
      · have hlen : n.quarrels.length ≤ 30 := by simp at hb; omega
        have e3 := (x1.trans x2).trans x3
        refine w_forLx (K := K) (ed_var rfl (dp_mono e3 _ _ hq)) (fun i σ H' => ∃ x y z, σ = [some (.ref p), some t, some (.int n.room), some q, x, y, z] ∧ (n.quarrels.take i).all (quarrelOk n.things.length) = true) (fun H4 x4 => ⟨none, none, none, rfl, rfl⟩) ?_ ?_
        · rintro i d x σ H' hd x4 hx ⟨y0, y1, y2, rfl, ha⟩
          obtain ⟨u, hu, rfl⟩ := get_map hd
          obtain ⟨a, rfl, hs⟩ := dp_eQ.mp hx
          refine g_tup3 rfl hs ?_
          have ht4 := dp_mono (e3.trans x4) _ _ ht
          refine' w_callS1 (K := K) (ds := [.int ((n.things.map eT).length : Nat), .int u.1, .int u.2.1, .int u.2.2]) ?a (fun vs H5 x5 hvs => ?_)
          case a => walk_at "eds"
          rw [List.length_map] at hvs
          refine ⟨(n.things.length : Int), u, hvs, fun ok H6 x6 => ?_, fun ok H6 x6 => ?_⟩
          · refine ⟨x5.trans x6, _, _, _, rfl, ?_⟩
            rw [all_take hu ha]
            exact ok
          · refine kQ H6 okT okR ?_ (((e3.trans x4).trans x5).trans x6)
            unfold quarrelsOk
            rw [all_not hu ok, Bool.and_false]
        · rintro σ H' x4 ⟨y0, y1, y2, rfl, ha⟩
          rw [List.length_map, List.take_length] at ha
          have okQ : quarrelsOk n.things.length n.quarrels = true := by
            unfold quarrelsOk
            rw [ha, decide_eq_true hlen]
            rfl
          have okN : n.ok = true := by
            unfold Nt.ok
            rw [okT, okR, okQ]
            rfl
          have e4 := e3.trans x4
          obtain ⟨ta, ts, rfl, hta, hts⟩ := dp_lst.mp (dp_mono e4 _ _ ht)
          obtain ⟨qa, qs, rfl, hqa, hqs⟩ := dp_lst.mp (dp_mono e4 _ _ hq)
          have hp4 := e4 _ _ hp
          refine ⟨_, rfl, ta, ts, rfl, .inl hta, fun l hl => ?_⟩
          have el := Evl.Ex.new (o := .lst ts) hl
          have npl : p ≠ l := ne_of_none hp4 hl
          have tl : DpAll K (upd H' l (.lst ts)) ts (n.things.map eT) := dpa_mono el _ _ hts
          have ql : DpAll K (upd H' l (.lst ts)) qs (n.quarrels.map eQ) := dpa_mono el _ _ hqs
          have hqa' : SqL K (upd H' l (.lst ts)) qa qs := Evl.ex_l el hqa
          refine ⟨_, rfl, p, _, dx, [], rfl, el _ _ hp4, T.cl, T.na_all_things, (by show 0 < 1000; decide), ?_⟩
          -- self.all_things stands
          have up1 : ∀ (H : Hp) (o : HO) (C dx : Addr) (fs : List (Str × V)), H p = some (.ins C dx fs) → Up H (upd H p o) := fun H o C dx fs h => ⟨fun a xs e => by rw [upd_ne (fun q => by rw [q, h] at e; cases e)]; exact e, fun a ob u e => by rw [upd_ne (fun q => by rw [q, h] at e; cases e)]; exact e⟩
          have nT : noLs (n.things.map eT) = true := noLs_map noL_eT _
          have nQ : noLs (n.quarrels.map eQ) = true := noLs_map noL_eQ _
          refine ⟨_, rfl, _, rfl, p, _, dx, _, rfl, upd_same, T.cl, T.na_places, (by have := length_putF "all_things" (.ref l) []; simp at this; omega), ?_⟩
          have sq : ∀ (o : HO) (H0 : Hp) (C dx : Addr) (fs : List (Str × V)), H0 p = some (.ins C dx fs) → SqL K H0 qa qs → SqL K (upd H0 p o) qa qs := fun o H0 C dx fs h0 h => by
            rcases h with (h | ⟨ob, h⟩) | h
            · exact .inl (.inl (by rw [upd_ne (fun q => by rw [q, h0] at h; cases h)]; exact h))
            · exact .inl (.inr ⟨ob, by rw [upd_ne (fun q => by rw [q, h0] at h; cases h)]; exact h⟩)
            · exact .inr h
          have hqa2 := sq (.ins (He.ga K "Night") dx (putF "places" (.int n.room) (putF "all_things" (.ref l) []))) _ _ _ _ upd_same (sq (.ins (He.ga K "Night") dx (putF "all_things" (.ref l) [])) _ _ _ _ (el _ _ hp4) hqa')
          refine ⟨_, rfl, qa, qs, rfl, .inl hqa2, fun m hm => ?_⟩
          have npm : p ≠ m := fun z => by rw [z, upd_same] at hm; cases hm
          have nlm : l ≠ m := fun z => by rw [← z, upd_ne npl.symm, upd_ne npl.symm, upd_same] at hm; cases hm
          refine ⟨_, rfl, p, _, dx, _, rfl, Eq.trans (upd_ne npm) upd_same, T.cl, T.na_all_quarrels, (by have h1 := length_putF "places" (.int n.room) (putF "all_things" (.ref l) []); have h2 := length_putF "all_things" (.ref l) []; simp at h2; omega), ?_⟩
          have hm4 : H' m = none := by
            rw [upd_ne npm.symm, upd_ne npm.symm, upd_ne nlm.symm] at hm
            exact hm
          have uA := up1 (upd H' l (.lst ts)) (.ins (He.ga K "Night") dx (putF "all_things" (.ref l) [])) _ _ _ (el _ _ hp4)
          have uB := up1 (upd (upd H' l (.lst ts)) p (.ins (He.ga K "Night") dx (putF "all_things" (.ref l) []))) (.ins (He.ga K "Night") dx (putF "places" (.int n.room) (putF "all_things" (.ref l) []))) _ _ _ upd_same
          have uC : Up _ (upd (upd (upd (upd H' l (.lst ts)) p (.ins (He.ga K "Night") dx (putF "all_things" (.ref l) []))) p (.ins (He.ga K "Night") dx (putF "places" (.int n.room) (putF "all_things" (.ref l) [])))) m (.lst qs)) := Up.new hm
          have uD := up1 (upd (upd (upd (upd H' l (.lst ts)) p (.ins (He.ga K "Night") dx (putF "all_things" (.ref l) []))) p (.ins (He.ga K "Night") dx (putF "places" (.int n.room) (putF "all_things" (.ref l) [])))) m (.lst qs)) (.ins (He.ga K "Night") dx (nf l n.room m)) _ _ _ (Eq.trans (upd_ne npm) upd_same)
          have uu := ((uA.trans uB).trans uC).trans uD
          refine kq _ okN (fun b o e hb => ?_) ⟨p, dx, l, m, ts, qs, rfl, upd_same, ?_, dpa_up uu _ _ nT tl, ?_, dpa_up uu _ _ nQ ql, Evl.fresh_back e4 hl, Evl.fresh_back e4 hm4⟩
          · have eb := e4 b o e
            rw [upd_ne hb, upd_ne (ne_of_none eb hm4), upd_ne hb, upd_ne hb, upd_ne (ne_of_none eb hl)]
            exact eb
          · rw [upd_ne npl.symm, upd_ne nlm, upd_ne npl.symm, upd_ne npl.symm, upd_same]
          · rw [upd_ne npm.symm, upd_same]
end

end Fy

namespace Fy
open PySem PySem.Spec PyProof.Rows L2
/-! ### what the laws' own helpers reckon -/
def cell (ns : List Int) (k : Int) : Int := ns.getD k.toNat 0
def lqOther (c m : Int) : Int := (c % m + 1 + c / m % (m - 1)) % m
def lqLeft (c m : Int) : List Int := (rng m.toNat).filter fun t => !decide (t = c % m) && !decide (t = lqOther c m)
def lqKeep (c m : Int) : Int := if (decide (0 < c / (m * (m - 1)) % 3) && decide (0 < ((lqLeft c m).length : Int))) = true then (lqLeft c m).getD ((c / (m * (m - 1)) / 3) % ((lqLeft c m).length : Int)).toNat 0 else -1
def lawQuarrel (c m : Int) : Int × Int × Int := (c % m, lqOther c m, lqKeep c m)
def lawQuarrels (ns : List Int) (start m : Int) : List (Int × Int × Int) := if m = 1 then [] else (List.range (cell ns start % 5).toNat).map fun k : Nat => lawQuarrel (cell ns (start + 1 + k) % 1000000000) m
def ltMost (ns : List Int) (start : Int) : Int := ([20, 4, 1000000000] : List Int).getD (cell ns start % 3).toNat 0
def lawThing (ns : List Int) (start k : Int) : Int × Bool := (1 + cell ns (start + 1 + k) / 3 % ltMost ns start, decide (cell ns (start + 1 + k) % 3 < 2))
def lawThings (ns : List Int) (start m : Int) : List (Int × Bool) := (List.range m.toNat).map fun k : Nat => lawThing ns start k
def lawMany (ns : List Int) (most : Int) : Int := if cell ns 0 / 8 % 2 = 1 then most else 1 + cell ns 0 % most
def lawRoom (ns : List Int) : Int := ([2, 3, 2, 1] : List Int).getD (cell ns 1 % 4).toNat 0
def lawNight (ns : List Int) (most : Int) : Nt := ⟨lawThings ns 2 (lawMany ns most), lawRoom ns, lawQuarrels ns 10 (lawMany ns most)⟩
def bitsL (x : Int) (m : Nat) : List Int := (rng m).filter fun i => decide (x / 2 ^ i.toNat % 2 = 1)
def groups (m : Nat) : List (List Int) := (List.range (2 ^ m)).map fun x : Nat => bitsL x m
def good (qs : List (Int × Int × Int)) (g : List Int) (m : Nat) : Bool := peace qs g && peace qs (restOf g m)
theorem rng_succ (n : Nat) : rng (n + 1) = rng n ++ [(n : Int)] := by simp [rng, List.range_succ]
theorem rng_nodup (n : Nat) : (rng n).Nodup := by
  unfold rng
  rw [List.nodup_iff_pairwise_ne, List.pairwise_map]
  have h := List.nodup_range (n := n)
  rw [List.nodup_iff_pairwise_ne] at h
  exact h.imp fun {a b} h e => h (by omega)
theorem lawMany_le {ns : List Int} {most : Int} (h : 1 ≤ most) : 1 ≤ lawMany ns most ∧ lawMany ns most ≤ most := by
  unfold lawMany
  have h1 := Int.emod_nonneg (cell ns 0) (show most ≠ 0 by omega)
  have h2 := Int.emod_lt_of_pos (cell ns 0) (show 0 < most by omega)
  split <;> omega
theorem lawThings_len (ns : List Int) (start m : Int) : (lawThings ns start m).length = m.toNat := by simp [lawThings]
theorem ltMost_ok (ns : List Int) (start : Int) : 0 < ltMost ns start ∧ ltMost ns start ≤ 1000000000 := by
  unfold ltMost
  have h1 := Int.emod_nonneg (cell ns start) (show (3 : Int) ≠ 0 by decide)
  have h2 := Int.emod_lt_of_pos (cell ns start) (show (0 : Int) < 3 by decide)
  obtain h | h | h : cell ns start % 3 = 0 ∨ cell ns start % 3 = 1 ∨ cell ns start % 3 = 2 := by omega
  all_goals rw [h]; decide
theorem lawRoom_ok (ns : List Int) : roomOk (lawRoom ns) = true := by
  unfold lawRoom roomOk
  have h1 := Int.emod_nonneg (cell ns 1) (show (4 : Int) ≠ 0 by decide)
  have h2 := Int.emod_lt_of_pos (cell ns 1) (show (0 : Int) < 4 by decide)
  obtain h | h | h | h : cell ns 1 % 4 = 0 ∨ cell ns 1 % 4 = 1 ∨ cell ns 1 % 4 = 2 ∨ cell ns 1 % 4 = 3 := by omega
  all_goals rw [h]; decide
theorem lawThing_ok (ns : List Int) (start k : Int) : paceOk (lawThing ns start k) = true := by
  obtain ⟨h0, h1⟩ := ltMost_ok ns start
  have h2 := Int.emod_nonneg (cell ns (start + 1 + k) / 3) (show ltMost ns start ≠ 0 by omega)
  have h3 := Int.emod_lt_of_pos (cell ns (start + 1 + k) / 3) h0
  exact decide_eq_true ⟨show 1 ≤ 1 + _ by omega, show 1 + _ ≤ 1000000000 by omega⟩
theorem lawThings_ok (ns : List Int) (start m : Int) (h1 : 1 ≤ m) (h2 : m ≤ 6) : thingsOk (lawThings ns start m) = true := by
  unfold thingsOk
  rw [lawThings_len, decide_eq_true (by omega : 1 ≤ m.toNat ∧ m.toNat ≤ 6)]
  simp only [lawThings, Bool.true_and, List.all_map, List.all_eq_true]
  intro x _
  exact lawThing_ok ns start x
theorem lqOther_ok (c m : Int) (h : 2 ≤ m) : 0 ≤ lqOther c m ∧ lqOther c m < m ∧ lqOther c m ≠ c % m := by
  unfold lqOther
  have a1 := Int.emod_nonneg c (show m ≠ 0 by omega)
  have a2 := Int.emod_lt_of_pos c (show 0 < m by omega)
  have b1 := Int.emod_nonneg (c / m) (show m - 1 ≠ 0 by omega)
  have b2 := Int.emod_lt_of_pos (c / m) (show 0 < m - 1 by omega)
  refine ⟨Int.emod_nonneg _ (by omega), Int.emod_lt_of_pos _ (by omega), ?_⟩
  by_cases hc : c % m + 1 + c / m % (m - 1) < m
  · rw [Int.emod_eq_of_lt (by omega) hc]; omega
  · have e : (c % m + 1 + c / m % (m - 1)) % m = c % m + 1 + c / m % (m - 1) - m := by
      rw [← Int.sub_emod_right, Int.emod_eq_of_lt (by omega) (by omega)]
    rw [e]; omega
theorem lawQuarrel_ok (c m : Int) (h : 2 ≤ m) : quarrelOk m (lawQuarrel c m) = true := by
  have a1 := Int.emod_nonneg c (show m ≠ 0 by omega)
  have a2 := Int.emod_lt_of_pos c (show 0 < m by omega)
  obtain ⟨o1, o2, o3⟩ := lqOther_ok c m h
  have k : (lqKeep c m = -1) ∨ (0 ≤ lqKeep c m ∧ lqKeep c m < m ∧ lqKeep c m ≠ c % m ∧ lqKeep c m ≠ lqOther c m) := by
    unfold lqKeep
    split
    · rename_i hc
      right
      simp only [Bool.and_eq_true, decide_eq_true_eq] at hc
      have hl : 0 < ((lqLeft c m).length : Int) := hc.2
      have i1 := Int.emod_nonneg (c / (m * (m - 1)) / 3) (show ((lqLeft c m).length : Int) ≠ 0 by omega)
      have i2 := Int.emod_lt_of_pos (c / (m * (m - 1)) / 3) hl
      have hi : ((c / (m * (m - 1)) / 3) % ((lqLeft c m).length : Int)).toNat < (lqLeft c m).length := by omega
      have hm : (lqLeft c m).getD ((c / (m * (m - 1)) / 3) % ((lqLeft c m).length : Int)).toNat 0 ∈ lqLeft c m := by
        rw [List.getD_eq_getElem?_getD, List.getElem?_eq_getElem hi]
        exact List.getElem_mem hi
      have hm2 := hm
      unfold lqLeft at hm2
      rw [List.mem_filter, mem_rng] at hm2
      simp only [Bool.and_eq_true, Bool.not_eq_true', decide_eq_false_iff_not] at hm2
      obtain ⟨⟨g1, g2⟩, g3, g4⟩ := hm2
      have e : (m.toNat : Int) = m := by omega
      rw [e] at g2
      exact ⟨g1, g2, g3, g4⟩
    · left; rfl
  unfold quarrelOk quarrelIn quarrelTwo lawQuarrel
  simp only [Bool.and_eq_true, Bool.not_eq_true', Bool.or_eq_false_iff, decide_eq_true_eq, decide_eq_false_iff_not]
  omega
theorem lawQuarrels_ok (ns : List Int) (start m : Int) (h : 1 ≤ m) : quarrelsOk m (lawQuarrels ns start m) = true ∧ (lawQuarrels ns start m).length ≤ 4 := by
  have h1 := Int.emod_nonneg (cell ns start) (show (5 : Int) ≠ 0 by decide)
  have h2 := Int.emod_lt_of_pos (cell ns start) (show (0 : Int) < 5 by decide)
  have hl : (lawQuarrels ns start m).length ≤ 4 := by
    unfold lawQuarrels
    split
    · simp
    · rw [List.length_map, List.length_range]; omega
  refine ⟨?_, hl⟩
  unfold quarrelsOk
  rw [decide_eq_true (Nat.le_trans hl (by decide)), Bool.true_and]
  unfold lawQuarrels
  split
  · rfl
  · rw [List.all_map, List.all_eq_true]
    intro x _
    exact lawQuarrel_ok _ _ (by omega)
theorem lawNight_ok (ns : List Int) (most : Int) (h1 : 1 ≤ most) (h2 : most ≤ 6) : (lawNight ns most).ok = true := by
  obtain ⟨a, b⟩ := lawMany_le (ns := ns) h1
  unfold Nt.ok lawNight
  rw [lawThings_ok _ _ _ a (by omega), lawRoom_ok]
  simp only [Bool.true_and]
  rw [lawThings_len, show (((lawMany ns most).toNat : Nat) : Int) = lawMany ns most by omega]
  exact (lawQuarrels_ok ns 10 _ a).1
theorem bitsL_succ (x : Int) (m : Nat) : bitsL x (m + 1) = bitsL x m ++ (if x / 2 ^ m % 2 = 1 then [(m : Int)] else []) := by
  unfold bitsL
  rw [rng_succ, List.filter_append]
  congr 1
  rw [List.filter_cons]
  by_cases h : x / 2 ^ m % 2 = 1
  · rw [if_pos (by simpa using h), if_pos h]; rfl
  · rw [if_neg (by simpa using h), if_neg h]; rfl
theorem pow_step (x : Int) (m : Nat) : x / 2 ^ m / 2 = x / 2 ^ (m + 1) := by
  rw [Int.pow_succ, Int.ediv_ediv_of_nonneg (Int.le_of_lt (Int.pow_pos (by decide)))]

end Fy

namespace Fy
open PySem PySem.Spec PyProof.Rows L2
/-! ### the laws' own helpers, walked -/
def eNt (n : Nt) : PyData := .tuple [.list (n.things.map eT), .int n.room, .list (n.quarrels.map eQ)]
def eScript (ns : List Int) : PyData := .list (ns.map .int)
def spCell (K : PySem.W.Frag) : Sp := spP K (fun x : List Int × Int => 0 ≤ x.2 ∧ x.1.length ≤ 63) (fun x => [eScript x.1, .int x.2]) (fun x => .int (cell x.1 x.2))
def spQ1 (K : PySem.W.Frag) : Sp := spP K (fun x : Int × Int => 2 ≤ x.2 ∧ x.2 ≤ 1000) (fun x => [.int x.1, .int x.2]) (fun x => eQ (lawQuarrel x.1 x.2))
def spQs (K : PySem.W.Frag) : Sp := spL K (fun x : List Int × Int × Int => 0 ≤ x.2.1 ∧ 1 ≤ x.2.2 ∧ x.2.2 ≤ 1000 ∧ x.1.length ≤ 63) (fun x => [eScript x.1, .int x.2.1, .int x.2.2]) (fun x => (lawQuarrels x.1 x.2.1 x.2.2).map eQ)
def spTs (K : PySem.W.Frag) : Sp := spL K (fun x : List Int × Int × Int => 0 ≤ x.2.1 ∧ 1 ≤ x.2.2 ∧ x.2.2 ≤ 1000 ∧ x.1.length ≤ 63) (fun x => [eScript x.1, .int x.2.1, .int x.2.2]) (fun x => (lawThings x.1 x.2.1 x.2.2).map eT)
/-- the law's own night: a tuple whose lists are its own -/
def NightT (K : PySem.W.Frag) (H0 : Hp) (v : V) (H : Hp) (n : Nt) : Prop := ∃ a t q, v = .ref a ∧ SqT K H a [t, .int n.room, q] ∧ NewL K H0 t H (n.things.map eT) ∧ NewL K H0 q H (n.quarrels.map eQ)
theorem NightT.dp {K : PySem.W.Frag} {H0 H : Hp} {v : V} {n : Nt} (h : NightT K H0 v H n) : Dp K H v (eNt n) := by
  obtain ⟨a, t, q, rfl, h1, h2, h3⟩ := h
  exact dp_tup.mpr ⟨a, _, rfl, h1, .cons h2.dp (.cons (.int _) (.cons h3.dp .nil))⟩
theorem NewL.mono {K : PySem.W.Frag} {H0 H H' : Hp} {v : V} {ds : List PyData} (e : Ex H H') (h : NewL K H0 v H ds) : NewL K H0 v H' ds := by
  obtain ⟨p, xs, e1, n, h1, h2⟩ := h
  exact ⟨p, xs, e1, n, e _ _ h1, dpa_mono e _ _ h2⟩
theorem NightT.mono {K : PySem.W.Frag} {H0 H H' : Hp} {v : V} {n : Nt} (e : Ex H H') (h : NightT K H0 v H n) : NightT K H0 v H' n := by
  obtain ⟨a, t, q, rfl, h1, h2, h3⟩ := h
  exact ⟨a, t, q, rfl, Evl.ex_t e h1, h2.mono e, h3.mono e⟩
def spNt (K : PySem.W.Frag) : Sp := fun vs H Q _ => ∃ x : List Int × Int, (1 ≤ x.2 ∧ x.2 ≤ 6 ∧ x.1.length ≤ 63) ∧ DpAll K H vs [eScript x.1, .int x.2] ∧ RetR (fun v H' => NightT K H v H' (lawNight x.1 x.2)) H Q
theorem w_asgNt {K : PySem.W.Frag} {σ : L2.St} {H : Hp} {tr : TA} {i : Nat} {D : Ends} {tz : TS} (ns : List Int) (most : Int) (hx : 1 ≤ most ∧ most ≤ 6 ∧ ns.length ≤ 63) (h : EvDs K tr σ H [eScript ns, .int most])
    (k : ∀ v H1, Ex H H1 → NightT K H v H1 (lawNight ns most) → tz D (σ.set i (some v)) H1) : tSeq (tAsg (tCall (spNt K) [] E0 tr) (gName i)) tz D σ H :=
  h H (Evl.Ex.refl H) _ fun vs H2 x2 h2 => ⟨(ns, most), hx, by rw [List.append_nil]; exact h2, fun v H3 x3 h3 => k v H3 (x2.trans x3) (by
    obtain ⟨a, t, q, e, h1, h4, h5⟩ := h3
    exact ⟨a, t, q, e, h1, h4.back x2, h5.back x2⟩)⟩
section
variable {K : PySem.W.Frag} {σ : L2.St} {H : Hp} {ta tb tc : TE} {E : XK}
theorem ed_cell {ns : List Int} {k : Int} (hs : EvD K ta σ H (eScript ns)) (hk : EvD K tb σ H (.int k)) (h0 : 0 ≤ k ∧ ns.length ≤ 63) : EvD K (tCall (spCell K) [] E (tCons ta (tCons tb tNil))) σ H (.int (cell ns k)) :=
  ed_call (x := (ns, k)) h0 (eds_cons hs (eds_cons hk eds_nil))
theorem ed_q1 {c m : Int} (hs : EvD K ta σ H (.int c)) (hk : EvD K tb σ H (.int m)) (h0 : 2 ≤ m ∧ m ≤ 1000) : EvD K (tCall (spQ1 K) [] E (tCons ta (tCons tb tNil))) σ H (eQ (lawQuarrel c m)) :=
  ed_call (x := (c, m)) h0 (eds_cons hs (eds_cons hk eds_nil))
theorem i_Cell {tr : TA} {d : PyData} {K' : PySem.W.Frag} (h : EvD K (tCall (spCell K') [] E tr) σ H d) : EvD K (tCall (spCell K') [] E tr) σ H d := h
theorem i_Q1 {tr : TA} {d : PyData} {K' : PySem.W.Frag} (h : EvD K (tCall (spQ1 K') [] E tr) σ H d) : EvD K (tCall (spQ1 K') [] E tr) σ H d := h
end
def spPe (K : PySem.W.Frag) : Sp := spP K (fun _ : List (Int × Int × Int) × List Int => True) (fun x => [.list (x.1.map eQ), eI x.2]) (fun x => .bool (peace x.1 x.2))
def spBits (K : PySem.W.Frag) : Sp := spP K (fun x : Int × Nat => x.2 ≤ 1000) (fun x => [.int x.1, .int (x.2 : Int)]) (fun x => eI (bitsL x.1 x.2))
def spGroups (K : PySem.W.Frag) : Sp := spL K (fun x : Nat => x ≤ 6) (fun x => [.int (x : Int)]) (fun x => (groups x).map eI)
def spRest (K : PySem.W.Frag) : Sp := spP K (fun x : List Int × Nat => x.2 ≤ 1000) (fun x => [eI x.1, .int (x.2 : Int)]) (fun x => eI (restOf x.1 x.2))
def spGood (K : PySem.W.Frag) : Sp := spP K (fun x : List (Int × Int × Int) × List Int × Nat => x.2.2 ≤ 1000) (fun x => [.list (x.1.map eQ), eI x.2.1, .int (x.2.2 : Int)]) (fun x => .bool (good x.1 x.2.1 x.2.2))
def spWhole (K : PySem.W.Frag) : Sp := spP K (fun _ : PyData => True) (fun x => [x]) (fun x => .bool (decide (tyN x = "int")))
section
variable {K : PySem.W.Frag} {σ : L2.St} {H : Hp} {ta tb tc : TE} {E : XK}
theorem ed_pe {qs : List (Int × Int × Int)} {g : List Int} (h1 : EvD K ta σ H (.list (qs.map eQ))) (h2 : EvD K tb σ H (eI g)) : EvD K (tCall (spPe K) [] E (tCons ta (tCons tb tNil))) σ H (.bool (peace qs g)) :=
  ed_call (x := (qs, g)) trivial (eds_cons h1 (eds_cons h2 eds_nil))
theorem ed_bits {c : Int} {m : Nat} (h1 : EvD K ta σ H (.int c)) (h2 : EvD K tb σ H (.int (m : Int))) (h0 : m ≤ 1000) : EvD K (tCall (spBits K) [] E (tCons ta (tCons tb tNil))) σ H (eI (bitsL c m)) :=
  ed_call (x := (c, m)) h0 (eds_cons h1 (eds_cons h2 eds_nil))
theorem en_groups {m : Nat} (h2 : EvD K tb σ H (.int (m : Int))) (h0 : m ≤ 6) : EvN K (tCall (spGroups K) [] E (tCons tb tNil)) σ H ((groups m).map eI) :=
  en_call (x := m) h0 (eds_cons h2 eds_nil)
theorem ed_rest {g : List Int} {m : Nat} (h1 : EvD K ta σ H (eI g)) (h2 : EvD K tb σ H (.int (m : Int))) (h0 : m ≤ 1000) : EvD K (tCall (spRest K) [] E (tCons ta (tCons tb tNil))) σ H (eI (restOf g m)) :=
  ed_call (x := (g, m)) h0 (eds_cons h1 (eds_cons h2 eds_nil))
theorem ed_good {qs : List (Int × Int × Int)} {g : List Int} {m : Nat} (h1 : EvD K ta σ H (.list (qs.map eQ))) (h2 : EvD K tb σ H (eI g)) (h3 : EvD K tc σ H (.int (m : Int))) (h0 : m ≤ 1000) : EvD K (tCall (spGood K) [] E (tCons ta (tCons tb (tCons tc tNil)))) σ H (.bool (good qs g m)) :=
  ed_call (x := (qs, g, m)) h0 (eds_cons h1 (eds_cons h2 (eds_cons h3 eds_nil)))
theorem ed_whole {d : PyData} (h1 : EvD K ta σ H d) : EvD K (tCall (spWhole K) [] E (tCons ta tNil)) σ H (.bool (decide (tyN d = "int"))) := ed_call (x := d) trivial (eds_cons h1 eds_nil)
variable {tr : TA} {d : PyData} {K' : PySem.W.Frag}
theorem i_Pe (h : EvD K (tCall (spPe K') [] E tr) σ H d) : EvD K (tCall (spPe K') [] E tr) σ H d := h
theorem i_Bits (h : EvD K (tCall (spBits K') [] E tr) σ H d) : EvD K (tCall (spBits K') [] E tr) σ H d := h
theorem i_Rest (h : EvD K (tCall (spRest K') [] E tr) σ H d) : EvD K (tCall (spRest K') [] E tr) σ H d := h
theorem i_Good (h : EvD K (tCall (spGood K') [] E tr) σ H d) : EvD K (tCall (spGood K') [] E tr) σ H d := h
theorem i_Whole (h : EvD K (tCall (spWhole K') [] E tr) σ H d) : EvD K (tCall (spWhole K') [] E tr) σ H d := h
end
def spSame (K : PySem.W.Frag) : Sp := spP K (fun x : List PyData × List PyData => SeqAt.shaped (.list x.1) = true ∧ SeqAt.shaped (.list x.2) = true) (fun x => [.list x.1, .list x.2]) (fun x => .bool (PyData.eqvAll x.1 x.2 && x.1.all (isT "tuple")))
theorem ed_same {K : PySem.W.Frag} {σ : L2.St} {H : Hp} {ta tb : TE} {E : XK} {α : Type} [DecidableEq α] {f : α → PyData} (hf : ∀ x y, PyData.eqv (f x) (f y) = decide (x = y)) (ht : ∀ x, isT "tuple" (f x) = true) (hs : ∀ xs : List α, SeqAt.shaped (.list (xs.map f)) = true) {xs ys : List α} (h1 : EvD K ta σ H (.list (xs.map f))) (h2 : EvD K tb σ H (.list (ys.map f))) :
    EvD K (tCall (spSame K) [] E (tCons ta (tCons tb tNil))) σ H (.bool (decide (xs = ys))) :=
  EvD.cast (ed_call (x := (xs.map f, ys.map f)) ⟨hs xs, hs ys⟩ (eds_cons h1 (eds_cons h2 eds_nil))) (by
    have e : (xs.map f).all (isT "tuple") = true := by rw [List.all_eq_true]; intro d hd; obtain ⟨a, _, rfl⟩ := List.mem_map.mp hd; exact ht a
    show PyData.bool (PyData.eqvAll _ _ && _) = _
    rw [e, Bool.and_true, eqvs_map hf])

end Fy

namespace Fy
open PySem PySem.Spec PyProof.Rows L2
end Fy
local macro_rules | `(tactic| walk_at "side") => `(tactic| first | decide | assumption | omega | exact ⟨by decide, by decide⟩ | exact Or.inl ⟨by decide, by decide⟩ | exact Or.inr ⟨by decide, by decide⟩ | exact ⟨by omega, by assumption⟩ | exact ⟨by omega, by omega⟩)
local macro_rules | `(tactic| walk_at "ed") => `(tactic| ((with_reducible refine' Fy.i_Cell ?hh); (case hh => exact Fy.ed_cell (by walk_at "ed") (by walk_at "ed") (by walk_at "side"))))
local macro_rules | `(tactic| walk_at "ed") => `(tactic| ((with_reducible refine' Fy.i_Q1 ?hh); (case hh => exact Fy.ed_q1 (by walk_at "ed") (by walk_at "ed") (by walk_at "side"))))
local macro_rules | `(tactic| walk_at "ed") => `(tactic| ((with_reducible refine' Fy.i_Pe ?hh); (case hh => exact Fy.ed_pe (by walk_at "ed") (by walk_at "ed"))))
local macro_rules | `(tactic| walk_at "ed") => `(tactic| ((with_reducible refine' Fy.i_Bits ?hh); (case hh => exact Fy.ed_bits (by walk_at "ed") (by walk_at "ed") (by walk_at "side"))))
local macro_rules | `(tactic| walk_at "ed") => `(tactic| ((with_reducible refine' Fy.i_Rest ?hh); (case hh => exact Fy.ed_rest (by walk_at "ed") (by walk_at "ed") (by walk_at "side"))))
local macro_rules | `(tactic| walk_at "ed") => `(tactic| ((with_reducible refine' Fy.i_Good ?hh); (case hh => exact Fy.ed_good (by walk_at "ed") (by walk_at "ed") (by walk_at "ed") (by walk_at "side"))))
local macro_rules | `(tactic| walk_at "ed") => `(tactic| ((with_reducible refine' Fy.i_Whole ?hh); (case hh => exact Fy.ed_whole (by walk_at "ed"))))

namespace Fy
open PySem PySem.Spec PyProof.Rows L2
theorem dpa2 {K : PySem.W.Frag} {H : Hp} {vs : List V} {d e : PyData} (h : DpAll K H vs [d, e]) : ∃ v u, vs = [v, u] ∧ Dp K H v d ∧ Dp K H u e := by
  cases h with
  | cons h1 h2 => cases h2 with
    | cons h2 h3 => cases h3; exact ⟨_, _, rfl, h1, h2⟩
theorem dpa3 {K : PySem.W.Frag} {H : Hp} {vs : List V} {d e f : PyData} (h : DpAll K H vs [d, e, f]) : ∃ v u t, vs = [v, u, t] ∧ Dp K H v d ∧ Dp K H u e ∧ Dp K H t f := by
  cases h with
  | cons h1 h2 =>
    obtain ⟨u, t, rfl, h2, h3⟩ := dpa2 h2
    exact ⟨_, _, _, rfl, h1, h2, h3⟩
theorem dpa1 {K : PySem.W.Frag} {H : Hp} {vs : List V} {d : PyData} (h : DpAll K H vs [d]) : ∃ v, vs = [v] ∧ Dp K H v d := by
  cases h with
  | cons h1 h2 => cases h2; exact ⟨_, rfl, h1⟩
theorem atI_ints {ns : List Int} {k : Int} (h0 : 0 ≤ k) (h1 : k < ns.length) : atI (ns.map PyData.int) k = some (.int (ns.getD k.toNat 0)) := by
  have e : k = ((k.toNat : Nat) : Int) := by omega
  have hk : k.toNat < ns.length := by omega
  rw [e]
  refine atI_nat ?_
  rw [List.getElem?_map, List.getElem?_eq_getElem hk, List.getD_eq_getElem?_getD, show ((k.toNat : Int)).toNat = k.toNat by omega, List.getElem?_eq_getElem hk]
  rfl
section
variable {P : Program} {w : World} {K : PySem.W.Frag} {mg : Str → Option Value} {base : Heap}
theorem sc__law_cell_at : FnScope ["script", "k"] ["script", "k"] (defScope s__law_cell_at) := ⟨rfl, rfl, rfl, by decide +kernel, rfl, by decide +kernel, by decide +kernel⟩
theorem ok__law_cell_at (T : Tx K mg) : Has P w K mg base CX0 1 "_law_cell_at" ["script", "k"] (spCell K) := by
  obtain ⟨fd, F⟩ := T.f__law_cell_at
  refine ⟨T.g__law_cell_at, fd, F.ok sc__law_cell_at (fun vs H Q E h => ?_) (fun cdv A outer s H vs Q E hr h => ⟨_, PSs.nox (pss_cons (ps_if (pt_cmpR op_lt (pv 1) (pe_callB (r := rLenQ K) call_len_seq (by rfl) T.b_len (by decide +kernel) (pa_cons (pv 0) pa_nil)) (nomark _)) (pss_one (ps_ret (pe_ix (r := rIxL K) ix_list (pv 0) (pv 1) (fun _ _ => rfl)))) pss_nil)
      (pss_one (ps_ret pe_int))), ?_⟩), F.bindsN fun _ _ _ _ _ _ us hl => match us, hl with | [_, _], _ => rfl, F.kp⟩
  · exact spP.len (n := 2) (fun _ => rfl) h
  · obtain ⟨⟨ns, k⟩, ⟨h0, hl⟩, hv0, q⟩ := h
    obtain ⟨v, u, rfl, hv, hu⟩ := dpa2 hv0
    cases dp_int.mp hu
    have hv' : Dp K H v (.list (ns.map .int)) := hv
    refine' w_when K ?t (fun hb H1 x1 => ?_) (fun hb H1 x1 => ?_)
    case t => walk_at "et"
    · have hb' : k < ns.length := by simpa using hb
      have e : atI (ns.map PyData.int) k = some (.int (ns.getD k.toNat 0)) := atI_ints h0 hb'
      exact w_ret1 (ed_op (by walk_at "ed") (by walk_at "ed") (rd_ixL e)) fun v' H2 x2 h2 => q v' H2 (x1.trans x2) h2
    · have hb' : ¬ k < ns.length := by simpa using hb
      refine w_ret1 (ed_int (K := K)) fun v' H2 x2 h2 => q v' H2 (x1.trans x2) ?_
      have e : cell ns k = 0 := by
        unfold cell
        rw [List.getD_eq_getElem?_getD, List.getElem?_eq_none (by omega)]
        rfl
      show Dp K H2 v' (.int (cell ns k))
      rw [e]
      exact h2
theorem sc__law_quarrel : FnScope ["cell", "many", "one", "other", "left", "keeper", "thing"] ["cell", "many"] (defScope s__law_quarrel) := ⟨rfl, rfl, rfl, by decide +kernel, rfl, by decide +kernel, by decide +kernel⟩
theorem ok__law_quarrel (T : Tx K mg) : Has P w K mg base CX0 1 "_law_quarrel" ["cell", "many"] (spQ1 K) := by
  obtain ⟨fd, F⟩ := T.f__law_quarrel
  refine ⟨T.g__law_quarrel, fd, F.ok sc__law_quarrel (fun vs H Q E h => ?_) (fun cdv A outer s H vs Q E hr h => ⟨_, PSs.nox (pss_cons (ps_set (i := 2) sc__law_quarrel.nd rfl (.inr rfl) (pe_op op_mod (pv 0) (pv 1)))
      (pss_cons (ps_set (i := 3) sc__law_quarrel.nd rfl (.inr rfl) (pe_op op_mod (pe_op op_add (pe_op op_add (pv 2) pe_int) (pe_op op_mod (pe_op op_fdiv (pv 0) (pv 1)) (pe_op op_sub (pv 1) pe_int))) (pv 1)))
      (pss_cons (ps_setLc (i := 4) (hy := by rfl) (hyl := by rfl) (hsw := sw_true rfl rfl rfl (by decide +kernel)) (hc := by rfl) (hN := sc__law_quarrel.nd) (own := [("thing", 6)]) (g := gName 6) (hi := (pi_range1 rfl T.b_range (pa_cons (pv 1) pa_nil))) (ok := blkOk_by (N := ["cell", "many", "one", "other", "left", "keeper", "thing"]) (sc := defScope s__law_quarrel) (by decide +kernel)) (hg := fun _ _ _ _ _ => pg_name (i := 6) sc__law_quarrel.nd rfl (.inl rfl)) (ht := fun _ _ _ _ _ => (pts_one (PW.pt (pw_and (pt_cmpR op_ne (pv 6) (pv 2) (nomark _)) (pw_and1 (pt_cmpR op_ne (pv 6) (pv 3) (nomark _))))))) (he := fun _ _ _ _ _ => (pv 6)))
      (pss_cons (ps_set (i := 0) sc__law_quarrel.nd rfl (.inl rfl) (pe_op op_fdiv (pv 0) (pe_op op_mul (pv 1) (pe_op op_sub (pv 1) pe_int))))
      (pss_cons (ps_set (i := 5) sc__law_quarrel.nd rfl (.inl rfl) (pe_un un_neg pe_int))
      (pss_cons (ps_if (PW.pt (pw_and (pt_cmpR op_gt (pe_op op_mod (pv 0) pe_int) pe_int (nomark _)) (pw_and1 (pt_cmpR op_gt (pe_callB (r := rLenQ K) call_len_seq (by rfl) T.b_len (by decide +kernel) (pa_cons (pv 4) pa_nil)) pe_int (nomark _))))) (pss_one (ps_set (i := 5) sc__law_quarrel.nd rfl (.inl rfl) (pe_ix (r := rIxL K) ix_list (pv 4) (pe_op op_mod (pe_op op_fdiv (pv 0) pe_int) (pe_callB (r := rLenQ K) call_len_seq (by rfl) T.b_len (by decide +kernel) (pa_cons (pv 4) pa_nil))) (fun _ _ => rfl)))) pss_nil)
      (pss_one (ps_ret (pe_tup (pa_cons (pv 2) (pa_cons (pv 3) (pa_cons (pv 5) pa_nil)))))))))))), ?_⟩), F.bindsN fun _ _ _ _ _ _ us hl => match us, hl with | [_, _], _ => rfl, F.kp⟩
  · exact spP.len (n := 2) (fun _ => rfl) h
  · obtain ⟨⟨c, m⟩, ⟨h0, hl⟩, hv0, q⟩ := h
    obtain ⟨v, u, rfl, hv, hu⟩ := dpa2 hv0
    cases dp_int.mp hv
    cases dp_int.mp hu
    have h2 : 2 ≤ m := h0
    have h3 : m ≤ 1000 := hl
    clear h0 hl hv hu hv0
    have m0 : 0 < m := by omega
    have m1 : 0 < m - 1 := by omega
    have m2 : CDiv c m := ⟨m0, by omega⟩
    have m3 : 0 < m * (m - 1) := Int.mul_pos m0 m1
    have m4 : m * (m - 1) ≤ 1000 * 1000 := Int.mul_le_mul h3 (by omega) (by omega) (by decide)
    have m5 : CDiv c (m * (m - 1)) := ⟨m3, by omega⟩
    have m6 : CMul m (m - 1) := Or.inl ⟨by omega, by omega⟩
    refine' w_asg (K := K) (d := .int (c % m)) ?t (fun v1 H1 x1 h1 => ?_)
    case t => walk_at "ed"
    cases dp_int.mp h1
    refine' w_asg (K := K) (d := .int (lqOther c m)) ?t (fun v1 H2 x2 h1 => ?_)
    case t => walk_at "ed"
    cases dp_int.mp h1
    refine' w_asgN (K := K) (ds := (lqLeft c m).map .int) (en_filR (fun t => !decide (t = c % m) && !decide (t = lqOther c m)) ?a (by omega) (fun _ => rfl) (fun _ => rfl) (fun i hi => ?b)) (fun v1 H3 x3 h3 => ?_)
    case a => walk_at "eds"
    case b => walk_at "et"
    have hL := h3.dp
    refine' w_asg (K := K) (d := .int (c / (m * (m - 1)))) ?t (fun v2 H4 x4 h1 => ?_)
    case t => walk_at "ed"
    cases dp_int.mp h1
    refine' w_asg (K := K) (d := .int (-1)) ?t (fun v2 H5 x5 h1 => ?_)
    case t => walk_at "ed"
    cases dp_int.mp h1
    have xx := (((x1.trans x2).trans x3).trans x4).trans x5
    have fin : ∀ H6 k, Ex H5 H6 → k = lqKeep c m → tRet (tTup (tCons (tVar 2) (tCons (tVar 3) (tCons (tVar 5) tNil)))) { nx := fun x H' => Q V.non H', rt := Q } [some (.int (c / (m * (m - 1)))), some (.int m), some (.int (c % m)), some (.int (lqOther c m)), some v1, some (.int k), none] H6 := fun H6 k x6 hk => by
      refine' w_ret1 (K := K) (d := .tuple [.int (c % m), .int (lqOther c m), .int k]) ?t (fun v7 H7 x7 h7 => ?_)
      case t => walk_at "ed"
      refine q v7 H7 ((xx.trans x6).trans x7) ?_
      rw [hk] at h7
      exact h7
    refine' w_when K ?t (fun hb H6 x6 => ?_) (fun hb H6 x6 => ?_)
    case t => walk_at "et"
    · have hb2 := hb
      rw [List.length_map] at hb2
      have hl : 0 < ((lqLeft c m).length : Int) := by simp at hb2; omega
      have i1 := Int.emod_nonneg (c / (m * (m - 1)) / 3) (show ((lqLeft c m).length : Int) ≠ 0 by omega)
      have i2 := Int.emod_lt_of_pos (c / (m * (m - 1)) / 3) hl
      have hl' : 0 < (((lqLeft c m).map PyData.int).length : Int) := by rw [List.length_map]; exact hl
      have ix : atI ((lqLeft c m).map PyData.int) ((c / (m * (m - 1)) / 3) % (((lqLeft c m).map PyData.int).length : Int)) = some (.int ((lqLeft c m).getD ((c / (m * (m - 1)) / 3) % ((lqLeft c m).length : Int)).toNat 0)) := by
        rw [List.length_map]
        exact atI_ints i1 i2
      refine' w_asg1 (K := K) (ed_op ?a ?b (rd_ixL ix)) (fun v2 H7 x7 h1 => ?_)
      case a => walk_at "ed"
      case b => walk_at "ed"
      cases dp_int.mp h1
      refine fin H7 _ (x6.trans x7) ?_
      unfold lqKeep
      rw [if_pos hb2]
    · refine fin H6 _ x6 ?_
      rw [List.length_map] at hb
      unfold lqKeep
      rw [if_neg (by rw [hb]; exact Bool.false_ne_true)]
theorem sc__law_quarrels : FnScope ["script", "start", "many", "count", "k"] ["script", "start", "many"] (defScope s__law_quarrels) := ⟨rfl, rfl, rfl, by decide +kernel, rfl, by decide +kernel, by decide +kernel⟩
theorem ok__law_quarrels (T : Tx K mg) : Has P w K mg base CX0 2 "_law_quarrels" ["script", "start", "many"] (spQs K) := by
  obtain ⟨fd, F⟩ := T.f__law_quarrels
  have G__law_quarrel := ok__law_quarrel (P := P) (w := w) (base := base) T
  have G__law_cell_at := ok__law_cell_at (P := P) (w := w) (base := base) T
  refine ⟨T.g__law_quarrels, fd, F.ok sc__law_quarrels (fun vs H Q E h => ?_) (fun cdv A outer s H vs Q E hr h => ⟨_, PSs.nox (pss_cons (ps_if (pt_cmpR op_eq (pv 2) pe_int (nomark _)) (pss_one (ps_ret (pe_lst pa_nil))) pss_nil)
      (pss_cons (ps_set (i := 3) sc__law_quarrels.nd rfl (.inl rfl) (pe_op op_mod (pe_f G__law_cell_at (hr.mono (by decide)) rfl (pa_cons (pv 0) (pa_cons (pv 1) pa_nil))) pe_int))
      (pss_one (ps_ret (pe_lc (own := [("k", 4)]) (g := gName 4) (by rfl) sc__law_quarrels.nd (pi_range1 rfl T.b_range (pa_cons (pv 3) pa_nil)) (blkOk_by (N := ["script", "start", "many", "count", "k"]) (sc := defScope s__law_quarrels) (by decide +kernel)) (fun _ _ _ _ _ => pg_name (i := 4) sc__law_quarrels.nd rfl (.inl rfl)) (fun _ _ _ _ _ => pts_nil) (fun _ _ _ _ _ => (pe_f G__law_quarrel (hr.mono (by decide)) rfl (pa_cons (pe_op op_mod (pe_f G__law_cell_at (hr.mono (by decide)) rfl (pa_cons (pv 0) (pa_cons (pe_op op_add (pe_op op_add (pv 1) pe_int) (pv 4)) pa_nil))) (pe_op op_pow pe_int pe_int)) (pa_cons (pv 2) pa_nil))))))))), ?_⟩), F.bindsN fun _ _ _ _ _ _ us hl => match us, hl with | [_, _, _], _ => rfl, F.kp⟩
  · exact spL.len (n := 3) (fun _ => rfl) h
  · obtain ⟨⟨ns, start, m⟩, ⟨h0, h1, h2, hl⟩, hv0, q⟩ := h
    dsimp only at h0 h1 h2 hl hv0 q
    obtain ⟨v, u, t, rfl, hv, hu, ht⟩ := dpa3 hv0
    cases dp_int.mp hu
    cases dp_int.mp ht
    refine' w_when K ?t (fun hb H1 x1 => ?_) (fun hb H1 x1 => ?_)
    case t => walk_at "et"
    · have hm : m = 1 := by simpa using hb
      refine w_retN1 (K := K) (en_lst eds_nil (by decide)) fun v' H2 x2 h2 => q v' H2 (x1.trans x2) ?_
      unfold lawQuarrels
      rw [if_pos hm]
      exact h2.back x1
    · have hm : ¬ m = 1 := by simpa using hb
      have b1 := Int.emod_nonneg (cell ns start) (show (5 : Int) ≠ 0 by decide)
      have b2 := Int.emod_lt_of_pos (cell ns start) (show (0 : Int) < 5 by decide)
      refine' w_asg (K := K) (d := .int (cell ns start % 5)) ?t (fun v1 H2 x2 h1 => ?_)
      case t => walk_at "ed"
      cases dp_int.mp h1
      refine' w_retN1 (K := K) (ds := (List.range (cell ns start % 5).toNat).map fun k : Nat => eQ (lawQuarrel (cell ns (start + 1 + k) % 1000000000) m)) (en_mapR _ (fun _ => noL_eQ _) ?a (by omega) (fun _ => rfl) (fun i hi => ?b)) (fun v' H3 x3 h3 => ?_)
      case a => walk_at "eds"
      case b => walk_at "ed"
      refine q v' H3 ((x1.trans x2).trans x3) ?_
      unfold lawQuarrels
      rw [if_neg hm, List.map_map]
      exact h3.back (x1.trans x2)
theorem sc__law_things : FnScope ["script", "start", "many", "most", "things", "k", "cell"] ["script", "start", "many"] (defScope s__law_things) := ⟨rfl, rfl, rfl, by decide +kernel, rfl, by decide +kernel, by decide +kernel⟩
theorem ok__law_things (T : Tx K mg) : Has P w K mg base CX0 2 "_law_things" ["script", "start", "many"] (spTs K) := by
  obtain ⟨fd, F⟩ := T.f__law_things
  have G__law_cell_at := ok__law_cell_at (P := P) (w := w) (base := base) T
  refine ⟨T.g__law_things, fd, F.ok sc__law_things (fun vs H Q E h => ?_) (fun cdv A outer s H vs Q E hr h => ⟨_, PSs.nox (pss_cons (ps_set (i := 3) sc__law_things.nd rfl (.inl rfl) (pe_ix (r := rIxL K) ix_list (pe_lst (pa_cons pe_int (pa_cons pe_int (pa_cons (pe_op op_pow pe_int pe_int) pa_nil)))) (pe_op op_mod (pe_f G__law_cell_at (hr.mono (by decide)) rfl (pa_cons (pv 0) (pa_cons (pv 1) pa_nil))) pe_int) (fun _ _ => rfl)))
      (pss_cons (ps_set (i := 4) sc__law_things.nd rfl (.inl rfl) (pe_lst pa_nil))
      (pss_cons (ps_for PassesOwn.never rfl (pi_range1 rfl T.b_range (pa_cons (pv 2) pa_nil)) (pg_name (i := 5) sc__law_things.nd rfl (.inl rfl)) (pss_cons (ps_set (i := 6) sc__law_things.nd rfl (.inl rfl) (pe_f G__law_cell_at (hr.mono (by decide)) rfl (pa_cons (pv 0) (pa_cons (pe_op op_add (pe_op op_add (pv 1) pe_int) (pv 5)) pa_nil))))
      (pss_one (ps_expr (pe_bm PySem.F.plainAttrs_list PySem.F.slot_list_append PySem.F.type_list_append mt_append (pv 4) (pa_cons (pe_tup (pa_cons (pe_op op_add pe_int (pe_op op_mod (pe_op op_fdiv (pv 6) pe_int) (pv 3))) (pa_cons (pe_cmpR op_lt (pe_op op_mod (pv 6) pe_int) pe_int (nomark _)) pa_nil))) pa_nil))))))
      (pss_one (ps_ret (pv 4)))))), ?_⟩), F.bindsN fun _ _ _ _ _ _ us hl => match us, hl with | [_, _, _], _ => rfl, F.kp⟩
  · exact spL.len (n := 3) (fun _ => rfl) h
  · obtain ⟨⟨ns, start, m⟩, ⟨h0, h1, h2, hl⟩, hv0, q⟩ := h
    dsimp only at h0 h1 h2 hl hv0 q
    obtain ⟨v, u, t, rfl, hv, hu, ht⟩ := dpa3 hv0
    cases dp_int.mp hu
    cases dp_int.mp ht
    have b1 := Int.emod_nonneg (cell ns start) (show (3 : Int) ≠ 0 by decide)
    have b2 := Int.emod_lt_of_pos (cell ns start) (show (0 : Int) < 3 by decide)
    obtain ⟨mo1, mo2⟩ := ltMost_ok ns start
    refine' w_asg (K := K) (ed_op (en_lst ?a (by decide)).toD ?b (rd_ixL (atI_ints (ns := [20, 4, 1000000000]) b1 b2))) (fun v1 H1 x1 hm => ?_)
    case a => walk_at "eds"
    case b => walk_at "ed"
    have hm' : Dp K H1 v1 (.int (ltMost ns start)) := hm
    cases dp_int.mp hm'
    refine' w_asgN (K := K) (ds := []) (en_lst eds_nil (by decide)) (fun v2 H2 x2 hL => ?_)
    obtain ⟨l, xs, rfl, l0, l1, l2⟩ := hL
    cases l2
    have e2 := x1.trans x2
    have lH : H l = none := Evl.fresh_back x1 l0
    refine' w_forR (K := K) (n := m) ?a (by omega) (fun i σ H' => ∃ a b, σ = [some v, some (.int start), some (.int m), some (.int (ltMost ns start)), some (.ref l), a, b] ∧ Ex H H' ∧ ∃ acc, H' l = some (.lst acc) ∧ DpAll K H' acc ((List.range i).map fun k : Nat => eT (lawThing ns start k)) ∧ acc.length = i) (fun H3 x3 => ⟨none, none, rfl, e2.trans x3, [], x3 _ _ l1, .nil, rfl⟩) ?_ ?_
    case a => walk_at "ed"
    · rintro i σ H' hi ⟨a, b, rfl, x3, acc, hA, hD, hlen⟩
      refine' w_asg (K := K) (d := .int (cell ns (start + 1 + i))) ?t (fun v1 H4 x4 h1 => ?_)
      case t => walk_at "ed"
      cases dp_int.mp h1
      have hA4 := x4 _ _ hA
      refine ⟨_, rfl, .inl ⟨rfl, _, SqL.of hA4⟩, ?_⟩
      have mp : 0 < ltMost ns start := mo1
      have te : EvD K (tTup (tCons (tOp (rI0 fun i j => .int (i + j)) (tC (.int 1)) (tOp (rI (fun _ j => 0 < j) fun i j => .int (i % j)) (tOp (rI CDiv fun i j => .int (i / j)) (tVar 6) (tC (.int 3))) (tVar 3))) (tCons (tOp (rI0 fun i j => .bl (decide (i < j))) (tOp (rI (fun _ j => 0 < j) fun i j => .int (i % j)) (tVar 6) (tC (.int 3))) (tC (.int 2))) tNil))) [some v, some (.int start), some (.int m), some (.int (ltMost ns start)), some (.ref l), some (.int (i : Int)), some (.int (cell ns (start + 1 + i)))] H4 (eT (lawThing ns start i)) := by
        refine (?t : EvD K _ _ _ (.tuple [_, _]))
        walk_at "ed"
      refine te H4 (Evl.Ex.refl H4) _ fun v5 H5 x5 h5 => ?_
      have hA5 := x5 _ _ hA4
      have hz : acc.length < sizeLine := Nat.lt_of_le_of_lt (show acc.length ≤ 100000 by omega) (by decide)
      refine ⟨l, acc, v5, rfl, rfl, hA5, hz, _, _, rfl, ((x3.trans x4).trans x5).mut lH, acc ++ [v5], upd_same, ?_, by rw [List.length_append, hlen]; rfl⟩
      have u5 : Up H5 (upd H5 l (.lst (acc ++ [v5]))) := Up.lst hA5
      rw [List.range_succ, List.map_append]
      exact dpa_snoc (dpa_up u5 _ _ (noLs_map (fun _ => noL_eT _) _) (dpa_mono (x4.trans x5) _ _ hD)) (dp_up u5 _ _ (noL_eT _) h5)
    · rintro σ H' ⟨a, b, rfl, x3, acc, hA, hD, hlen⟩
      refine ⟨_, rfl, q _ H' x3 ⟨l, acc, rfl, lH, hA, ?_⟩⟩
      unfold lawThings
      rw [List.map_map]
      exact hD
theorem sc__law_night : FnScope ["script", "most", "many", "room"] ["script", "most"] (defScope s__law_night) := ⟨rfl, rfl, rfl, by decide +kernel, rfl, by decide +kernel, by decide +kernel⟩
theorem ok__law_night (T : Tx K mg) : Has P w K mg base CX0 3 "_law_night" ["script", "most"] (spNt K) := by
  obtain ⟨fd, F⟩ := T.f__law_night
  have G__law_quarrels := ok__law_quarrels (P := P) (w := w) (base := base) T
  have G__law_things := ok__law_things (P := P) (w := w) (base := base) T
  have G__law_cell_at := ok__law_cell_at (P := P) (w := w) (base := base) T
  refine ⟨T.g__law_night, fd, F.ok sc__law_night (fun vs H Q E h => ?_) (fun cdv A outer s H vs Q E hr h => ⟨_, PSs.nox (pss_cons (ps_set (i := 2) sc__law_night.nd rfl (.inl rfl) (pe_op op_add pe_int (pe_op op_mod (pe_f G__law_cell_at (hr.mono (by decide)) rfl (pa_cons (pv 0) (pa_cons pe_int pa_nil))) (pv 1))))
      (pss_cons (ps_if (pt_cmpR op_eq (pe_op op_mod (pe_op op_fdiv (pe_f G__law_cell_at (hr.mono (by decide)) rfl (pa_cons (pv 0) (pa_cons pe_int pa_nil))) pe_int) pe_int) pe_int (nomark _)) (pss_one (ps_set (i := 2) sc__law_night.nd rfl (.inl rfl) (pv 1))) pss_nil)
      (pss_cons (ps_set (i := 3) sc__law_night.nd rfl (.inl rfl) (pe_ix (r := rIxL K) ix_list (pe_lst (pa_cons pe_int (pa_cons pe_int (pa_cons pe_int (pa_cons pe_int pa_nil))))) (pe_op op_mod (pe_f G__law_cell_at (hr.mono (by decide)) rfl (pa_cons (pv 0) (pa_cons pe_int pa_nil))) pe_int) (fun _ _ => rfl)))
      (pss_one (ps_ret (pe_tup (pa_cons (pe_f G__law_things (hr.mono (by decide)) rfl (pa_cons (pv 0) (pa_cons pe_int (pa_cons (pv 2) pa_nil)))) (pa_cons (pv 3) (pa_cons (pe_f G__law_quarrels (hr.mono (by decide)) rfl (pa_cons (pv 0) (pa_cons pe_int (pa_cons (pv 2) pa_nil)))) pa_nil))))))))), ?_⟩), F.bindsN fun _ _ _ _ _ _ us hl => match us, hl with | [_, _], _ => rfl, F.kp⟩
  · obtain ⟨x, _, h1, _⟩ := h
    exact dpa_len h1
  · obtain ⟨⟨ns, most⟩, ⟨h0, h1, hl⟩, hv0, q⟩ := h
    dsimp only at h0 h1 hl hv0 q
    obtain ⟨v, u, rfl, hv, hu⟩ := dpa2 hv0
    cases dp_int.mp hu
    have a1 := Int.emod_nonneg (cell ns 0) (show most ≠ 0 by omega)
    have a2 := Int.emod_lt_of_pos (cell ns 0) (show 0 < most by omega)
    have a3 : 0 < most := by omega
    obtain ⟨m1, m2⟩ := lawMany_le (ns := ns) h0
    refine' w_asg (K := K) (d := .int (1 + cell ns 0 % most)) ?t (fun v1 H1 x1 h1 => ?_)
    case t => walk_at "ed"
    cases dp_int.mp h1
    have go : ∀ H2, Ex H1 H2 → tSeq (tAsg (tOp (rIxL K) (tLst (tCons (tC (.int 2)) (tCons (tC (.int 3)) (tCons (tC (.int 2)) (tCons (tC (.int 1)) tNil))))) (tOp (rI (fun _ j => 0 < j) fun i j => .int (i % j)) (tCall (spCell K) [] E0 (tCons (tVar 0) (tCons (tC (.int 1)) tNil))) (tC (.int 4)))) (gName 3))
        (tRet (tTup (tCons (tCall (spTs K) [] E0 (tCons (tVar 0) (tCons (tC (.int 2)) (tCons (tVar 2) tNil)))) (tCons (tVar 3) (tCons (tCall (spQs K) [] E0 (tCons (tVar 0) (tCons (tC (.int 10)) (tCons (tVar 2) tNil)))) tNil))))) { nx := fun x H' => Q V.non H', rt := Q } [some v, some (.int most), some (.int (lawMany ns most)), none] H2 := fun H2 x2 => by
      have b1 := Int.emod_nonneg (cell ns 1) (show (4 : Int) ≠ 0 by decide)
      have b2 := Int.emod_lt_of_pos (cell ns 1) (show (0 : Int) < 4 by decide)
      refine' w_asg (K := K) (ed_op (en_lst ?a (by decide)).toD ?b (rd_ixL (atI_ints (ns := [2, 3, 2, 1]) b1 b2))) (fun v1 H3 x3 hm => ?_)
      case a => walk_at "eds"
      case b => walk_at "ed"
      have hm' : Dp K H3 v1 (.int (lawRoom ns)) := hm
      cases dp_int.mp hm'
      have t1 : EvN K (tCall (spTs K) [] E0 (tCons (tVar 0) (tCons (tC (.int 2)) (tCons (tVar 2) tNil)))) [some v, some (.int most), some (.int (lawMany ns most)), some (.int (lawRoom ns))] H3 ((lawThings ns 2 (lawMany ns most)).map eT) := by
        refine' en_call (x := (ns, 2, lawMany ns most)) ⟨(by show (0 : Int) ≤ 2; decide), m1, (by show lawMany ns most ≤ 1000; omega), hl⟩ ?a
        case a => walk_at "eds"
      have t2 : EvN K (tCall (spQs K) [] E0 (tCons (tVar 0) (tCons (tC (.int 10)) (tCons (tVar 2) tNil)))) [some v, some (.int most), some (.int (lawMany ns most)), some (.int (lawRoom ns))] H3 ((lawQuarrels ns 10 (lawMany ns most)).map eQ) := by
        refine' en_call (x := (ns, 10, lawMany ns most)) ⟨(by show (0 : Int) ≤ 10; decide), m1, (by show lawMany ns most ≤ 1000; omega), hl⟩ ?a
        case a => walk_at "eds"
      refine t1 H3 (Evl.Ex.refl H3) _ fun t4 H4 x4 h4 => ⟨_, rfl, t2 H4 x4 _ fun q5 H5 x5 h5 => ?_⟩
      refine ⟨by show 3 ≤ sizeLine; decide, fun p hp => ?_⟩
      have e6 := Evl.Ex.new (o := HO.tup [t4, .int (lawRoom ns), q5]) hp
      have ee := (x1.trans x2).trans x3
      exact q _ _ (((ee.trans x4).trans x5).trans e6) ⟨p, t4, q5, rfl, SqT.of upd_same, ((h4.mono x5).mono e6).back ee, (h5.mono e6).back (ee.trans x4)⟩
    refine' w_when K ?t (fun hb H2 x2 => ?_) (fun hb H2 x2 => ?_)
    case t => walk_at "et"
    · have hb' : cell ns 0 / 8 % 2 = 1 := by simpa using hb
      refine' w_asg1 (K := K) (d := .int most) ?t (fun v1 H3 x3 h1 => ?_)
      case t => walk_at "ed"
      cases dp_int.mp h1
      have e : lawMany ns most = most := by unfold lawMany; rw [if_pos hb']
      have g := go H3 (x2.trans x3)
      rw [e] at g
      exact g
    · have hb' : ¬ cell ns 0 / 8 % 2 = 1 := by simpa using hb
      have e : lawMany ns most = 1 + cell ns 0 % most := by unfold lawMany; rw [if_neg hb']
      have g := go H2 x2
      rw [e] at g
      exact g
theorem sc__law_peace : FnScope ["quarrels", "group", "one", "other", "keeper"] ["quarrels", "group"] (defScope s__law_peace) := ⟨rfl, rfl, rfl, by decide +kernel, rfl, by decide +kernel, by decide +kernel⟩
theorem ok__law_peace (T : Tx K mg) : Has P w K mg base CX0 1 "_law_peace" ["quarrels", "group"] (spPe K) := by
  obtain ⟨fd, F⟩ := T.f__law_peace
  refine ⟨T.g__law_peace, fd, F.ok sc__law_peace (fun vs H Q E h => ?_) (fun cdv A outer s H vs Q E hr h => ⟨_, PSs.nox (pss_cons (ps_for PassesOwn.never rfl (pi_list (pv 0)) (pg_tup (by rfl) (pgs_cons (pg_name (i := 2) sc__law_peace.nd rfl (.inl rfl)) (pgs_cons (pg_name (i := 3) sc__law_peace.nd rfl (.inl rfl)) (pgs_cons (pg_name (i := 4) sc__law_peace.nd rfl (.inl rfl)) pgs_nil)))) (pss_one (ps_if (PW.pt (pw_and (pt_cmpR (r := rIn K false) op_in_seq (pv 2) (pv 1) (by rfl)) (pw_and (pt_cmpR (r := rIn K false) op_in_seq (pv 3) (pv 1) (by rfl)) (pw_and1 (pt_cmpR (r := rIn K true) op_notIn_seq (pv 4) (pv 1) (by rfl)))))) (pss_one (ps_ret pe_bl)) pss_nil)))
      (pss_one (ps_ret pe_bl))), ?_⟩), F.bindsN fun _ _ _ _ _ _ us hl => match us, hl with | [_, _], _ => rfl, F.kp⟩
  · exact spP.len (n := 2) (fun _ => rfl) h
  · obtain ⟨⟨qs, g⟩, _, hv0, q⟩ := h
    dsimp only at hv0 q
    obtain ⟨v, u, rfl, hv, hu⟩ := dpa2 hv0
    refine' w_forLx (K := K) (ds := qs.map eQ) ?t (fun i σ H' => ∃ x y z, σ = [some v, some u, x, y, z] ∧ peace (qs.take i) g = true) (fun H1 x1 => ⟨none, none, none, rfl, rfl⟩) ?_ ?_
    case t => walk_at "ed"
    · rintro i d x σ H' hd x1 hx ⟨y0, y1, y2, rfl, ha⟩
      obtain ⟨t, ht, rfl⟩ := get_map hd
      obtain ⟨a, rfl, hs⟩ := dp_eQ.mp hx
      refine g_tup3 rfl hs ?_
      refine' w_when1 K ?t (fun hb H3 x3 => ?_) (fun hb H3 x3 => ?_)
      case t => walk_at "et"
      · refine w_ret1 (ed_bl (K := K)) fun v4 H4 x4 h4 => q v4 H4 ((x1.trans x3).trans x4) ?_
        have e : peace qs g = false := all_not ht (show (!atWar g t) = false by unfold atWar; rw [hb]; rfl)
        rw [e]
        exact h4
      · refine ⟨x3, _, _, _, rfl, ?_⟩
        unfold peace at ha ⊢
        rw [all_take ht ha]
        unfold atWar
        rw [hb]
        rfl
    · rintro σ H' x1 ⟨y0, y1, y2, rfl, ha⟩
      rw [List.length_map, List.take_length] at ha
      refine w_ret1 (ed_bl (K := K)) fun v4 H4 x4 h4 => q v4 H4 (x1.trans x4) ?_
      rw [ha]
      exact h4
theorem sc__law_bits : FnScope ["number", "many", "group", "thing"] ["number", "many"] (defScope s__law_bits) := ⟨rfl, rfl, rfl, by decide +kernel, rfl, by decide +kernel, by decide +kernel⟩
theorem ok__law_bits (T : Tx K mg) : Has P w K mg base CX0 1 "_law_bits" ["number", "many"] (spBits K) := by
  obtain ⟨fd, F⟩ := T.f__law_bits
  refine ⟨T.g__law_bits, fd, F.ok sc__law_bits (fun vs H Q E h => ?_) (fun cdv A outer s H vs Q E hr h => ⟨_, PSs.nox (pss_cons (ps_set (i := 2) sc__law_bits.nd rfl (.inl rfl) (pe_lst pa_nil))
      (pss_cons (ps_for PassesOwn.never rfl (pi_range1 rfl T.b_range (pa_cons (pv 1) pa_nil)) (pg_name (i := 3) sc__law_bits.nd rfl (.inl rfl)) (pss_cons (ps_if (pt_cmpR op_eq (pe_op op_mod (pv 0) pe_int) pe_int (nomark _)) (pss_one (ps_expr (pe_bm PySem.F.plainAttrs_list PySem.F.slot_list_append PySem.F.type_list_append mt_append (pv 2) (pa_cons (pv 3) pa_nil)))) pss_nil)
      (pss_one (ps_set (i := 0) sc__law_bits.nd rfl (.inl rfl) (pe_op op_fdiv (pv 0) pe_int)))))
      (pss_one (ps_ret (pe_callTy (r := rTupQ K) call_tuple_of (by rfl) T.b_tuple (by decide +kernel) (pa_cons (pv 2) pa_nil)))))), ?_⟩), F.bindsN fun _ _ _ _ _ _ us hl => match us, hl with | [_, _], _ => rfl, F.kp⟩
  · exact spP.len (n := 2) (fun _ => rfl) h
  · obtain ⟨⟨c, m⟩, h0, hv0, q⟩ := h
    dsimp only at h0 hv0 q
    obtain ⟨v, u, rfl, hv, hu⟩ := dpa2 hv0
    cases dp_int.mp hv
    cases dp_int.mp hu
    refine' w_asgN (K := K) (ds := []) (en_lst eds_nil (by decide)) (fun v2 H2 x2 hL => ?_)
    obtain ⟨l, xs, rfl, l0, l1, l2⟩ := hL
    cases l2
    refine' w_forR (K := K) (n := (m : Int)) ?a (by omega) (fun i σ H' => ∃ b, σ = [some (.int (c / 2 ^ i)), some (.int (m : Int)), some (.ref l), b] ∧ Ex H H' ∧ H' l = some (.lst ((bitsL c i).map V.int)) ∧ (bitsL c i).length ≤ i) (fun H3 x3 => ⟨none, by simp; rfl, x2.trans x3, x3 _ _ l1, Nat.le_refl _⟩) ?_ ?_
    case a => walk_at "ed"
    · rintro i σ H' hi ⟨b, rfl, x3, hA, hlen⟩
      have go : ∀ H4 (ns : List Int), Ex H H4 → H4 l = some (.lst (ns.map V.int)) → ns = bitsL c (i + 1) → tAsg (tOp (rI CDiv fun i j => .int (i / j)) (tVar 0) (tC (.int 2))) (gName 0) { nx := fun σ' H' => ∃ b, σ' = [some (.int (c / 2 ^ (i + 1))), some (.int (m : Int)), some (.ref l), b] ∧ Ex H H' ∧ H' l = some (.lst ((bitsL c (i + 1)).map V.int)) ∧ (bitsL c (i + 1)).length ≤ i + 1, rt := Q } [some (.int (c / 2 ^ i)), some (.int (m : Int)), some (.ref l), some (.int (i : Int))] H4 := fun H4 ns x4 h4 e => by
        refine' w_asg1 (K := K) (d := .int (c / 2 ^ i / 2)) ?t (fun v1 H5 x5 h1 => ?_)
        case t => walk_at "ed"
        cases dp_int.mp h1
        rw [e] at h4
        refine ⟨_, by rw [pow_step]; rfl, x4.trans x5, x5 _ _ h4, ?_⟩
        rw [bitsL_succ, List.length_append]
        split <;> simp <;> omega
      refine' w_when K ?t (fun hb H4 x4 => ?_) (fun hb H4 x4 => ?_)
      case t => walk_at "et"
      · have hb' : c / 2 ^ i % 2 = 1 := by simpa using hb
        have hA4 := x4 _ _ hA
        refine ⟨_, rfl, .inl ⟨rfl, _, SqL.of hA4⟩, ?_⟩
        have hz : ((bitsL c i).map V.int).length < sizeLine := Nat.lt_of_le_of_lt (show ((bitsL c i).map V.int).length ≤ 100000 by rw [List.length_map]; omega) (by decide)
        refine ⟨_, rfl, l, _, _, rfl, rfl, hA4, hz, go _ (bitsL c i ++ [(i : Int)]) ((x3.trans x4).mut (Evl.fresh_back (Evl.Ex.refl H) l0)) ?_ ?_⟩
        · rw [upd_same, List.map_append]; rfl
        · rw [bitsL_succ, if_pos hb']
      · have hb' : ¬ c / 2 ^ i % 2 = 1 := by simpa using hb
        refine go _ (bitsL c i) (x3.trans x4) (x4 _ _ hA) ?_
        rw [bitsL_succ, if_neg hb', List.append_nil]
    · rintro σ H' ⟨b, rfl, x3, hA, hlen⟩
      have hm : ((m : Int)).toNat = m := by omega
      rw [hm] at hA
      have hd : Dp K H' (.ref l) (.list ((bitsL c m).map .int)) := dp_lst.mpr ⟨l, _, rfl, SqL.of hA, dpa_ints.mpr rfl⟩
      refine' w_ret1 (K := K) (d := eI (bitsL c m)) ?t (fun v4 H4 x4 h4 => q v4 H4 (x3.trans x4) h4)
      case t => walk_at "ed"
theorem sc__law_groups : FnScope ["many", "number"] ["many"] (defScope s__law_groups) := ⟨rfl, rfl, rfl, by decide +kernel, rfl, by decide +kernel, by decide +kernel⟩
theorem ok__law_groups (T : Tx K mg) : Has P w K mg base CX0 2 "_law_groups" ["many"] (spGroups K) := by
  obtain ⟨fd, F⟩ := T.f__law_groups
  have G__law_bits := ok__law_bits (P := P) (w := w) (base := base) T
  refine ⟨T.g__law_groups, fd, F.ok sc__law_groups (fun vs H Q E h => ?_) (fun cdv A outer s H vs Q E hr h => ⟨_, PSs.nox (pss_one (ps_ret (pe_lc (own := [("number", 1)]) (g := gName 1) (by rfl) sc__law_groups.nd (pi_range1 rfl T.b_range (pa_cons (pe_ix (r := rIxL K) ix_list (pe_lst (pa_cons pe_int (pa_cons pe_int (pa_cons pe_int (pa_cons pe_int (pa_cons pe_int (pa_cons pe_int (pa_cons pe_int pa_nil)))))))) (pv 0) (fun _ _ => rfl)) pa_nil)) (blkOk_by (N := ["many", "number"]) (sc := defScope s__law_groups) (by decide +kernel)) (fun _ _ _ _ _ => pg_name (i := 1) sc__law_groups.nd rfl (.inl rfl)) (fun _ _ _ _ _ => pts_nil) (fun _ _ _ _ _ => (pe_f G__law_bits (hr.mono (by decide)) rfl (pa_cons (pv 1) (pa_cons (pv 0) pa_nil))))))), ?_⟩), F.bindsN fun _ _ _ _ _ _ us hl => match us, hl with | [_], _ => rfl, F.kp⟩
  · exact spL.len (n := 1) (fun _ => rfl) h
  · obtain ⟨m, h0, hv0, q⟩ := h
    dsimp only at h0 hv0 q
    obtain ⟨v, rfl, hv⟩ := dpa1 hv0
    cases dp_int.mp hv
    have ix : atI ([1, 2, 4, 8, 16, 32, 64].map PyData.int) (m : Int) = some (.int ((2 ^ m : Nat) : Int)) := by
      obtain h | h | h | h | h | h | h : m = 0 ∨ m = 1 ∨ m = 2 ∨ m = 3 ∨ m = 4 ∨ m = 5 ∨ m = 6 := by omega
      all_goals subst h; rfl
    have pw : 2 ^ m ≤ 64 := Nat.pow_le_pow_right (show 0 < 2 by decide) h0
    have pw2 : 0 ≤ ((2 ^ m : Nat) : Int) ∧ ((2 ^ m : Nat) : Int) ≤ 100000 := ⟨Int.natCast_nonneg _, Int.ofNat_le.mpr (Nat.le_trans pw (by decide))⟩
    have m0 : m ≤ 1000 := by omega
    refine' w_retN1 (K := K) (ds := (List.range ((2 ^ m : Nat) : Int).toNat).map fun x : Nat => eI (bitsL x m)) (en_mapR _ (fun _ => noL_eI _) (eds_cons (ed_op (en_lst ?a (by decide)).toD ?b (rd_ixL ix)) eds_nil) pw2 (fun _ => rfl) (fun i hi => ?c)) (fun v' H3 x3 h3 => ?_)
    case a => walk_at "eds"
    case b => walk_at "ed"
    case c => walk_at "ed"
    refine q v' H3 x3 ?_
    unfold groups
    rw [List.map_map]
    exact h3
theorem sc__law_rest : FnScope ["group", "many", "thing"] ["group", "many"] (defScope s__law_rest) := ⟨rfl, rfl, rfl, by decide +kernel, rfl, by decide +kernel, by decide +kernel⟩
theorem ok__law_rest (T : Tx K mg) : Has P w K mg base CX0 1 "_law_rest" ["group", "many"] (spRest K) := by
  obtain ⟨fd, F⟩ := T.f__law_rest
  refine ⟨T.g__law_rest, fd, F.ok sc__law_rest (fun vs H Q E h => ?_) (fun cdv A outer s H vs Q E hr h => ⟨_, PSs.nox (pss_one (ps_ret (pe_callTy (r := rTupQ K) call_tuple_of (by rfl) T.b_tuple (by decide +kernel) (pa_cons (pe_lc (own := [("thing", 2)]) (g := gName 2) (by rfl) sc__law_rest.nd (pi_range1 rfl T.b_range (pa_cons (pv 1) pa_nil)) (blkOk_by (N := ["group", "many", "thing"]) (sc := defScope s__law_rest) (by decide +kernel)) (fun _ _ _ _ _ => pg_name (i := 2) sc__law_rest.nd rfl (.inl rfl)) (fun _ _ _ _ _ => (pts_one (pt_cmpR (r := rIn K true) op_notIn_seq (pv 2) (pv 0) (by rfl)))) (fun _ _ _ _ _ => (pv 2))) pa_nil)))), ?_⟩), F.bindsN fun _ _ _ _ _ _ us hl => match us, hl with | [_, _], _ => rfl, F.kp⟩
  · exact spP.len (n := 2) (fun _ => rfl) h
  · obtain ⟨⟨g, m⟩, h0, hv0, q⟩ := h
    dsimp only at h0 hv0 q
    obtain ⟨v, u, rfl, hv, hu⟩ := dpa2 hv0
    cases dp_int.mp hu
    refine' w_ret1 (K := K) (d := eI (restOf g m)) (ed_cb (eds_cons (en_filR (n := (m : Int)) (fun t => !g.contains t) ?a (by omega) (fun _ => rfl) (fun _ => rfl) (fun i hi => ?b)).toD eds_nil) cd_tupL) (fun v4 H4 x4 h4 => q v4 H4 x4 h4)
    case a => walk_at "eds"
    case b => walk_at "et"
theorem sc__law_good : FnScope ["quarrels", "group", "many"] ["quarrels", "group", "many"] (defScope s__law_good) := ⟨rfl, rfl, rfl, by decide +kernel, rfl, by decide +kernel, by decide +kernel⟩
theorem ok__law_good (T : Tx K mg) : Has P w K mg base CX0 2 "_law_good" ["quarrels", "group", "many"] (spGood K) := by
  obtain ⟨fd, F⟩ := T.f__law_good
  have G__law_peace := ok__law_peace (P := P) (w := w) (base := base) T
  have G__law_rest := ok__law_rest (P := P) (w := w) (base := base) T
  refine ⟨T.g__law_good, fd, F.ok sc__law_good (fun vs H Q E h => ?_) (fun cdv A outer s H vs Q E hr h => ⟨_, PSs.nox (pss_one (ps_ret (pe_and (pe_f G__law_peace (hr.mono (by decide)) rfl (pa_cons (pv 0) (pa_cons (pv 1) pa_nil))) (pe_one (pe_f G__law_peace (hr.mono (by decide)) rfl (pa_cons (pv 0) (pa_cons (pe_f G__law_rest (hr.mono (by decide)) rfl (pa_cons (pv 1) (pa_cons (pv 2) pa_nil))) pa_nil))))))), ?_⟩), F.bindsN fun _ _ _ _ _ _ us hl => match us, hl with | [_, _, _], _ => rfl, F.kp⟩
  · exact spP.len (n := 3) (fun _ => rfl) h
  · obtain ⟨⟨qs, g, m⟩, h0, hv0, q⟩ := h
    dsimp only at h0 hv0 q
    obtain ⟨v, u, t, rfl, hv, hu, ht⟩ := dpa3 hv0
    cases dp_int.mp ht
    refine' w_ret1 (K := K) (d := .bool (good qs g m)) ?t (fun v4 H4 x4 h4 => q v4 H4 x4 h4)
    case t => walk_at "ed"
theorem sc__law_whole : FnScope ["found"] ["found"] (defScope s__law_whole) := ⟨rfl, rfl, rfl, by decide +kernel, rfl, by decide +kernel, by decide +kernel⟩
theorem ok__law_whole (T : Tx K mg) : Has P w K mg base CX0 1 "_law_whole" ["found"] (spWhole K) := by
  obtain ⟨fd, F⟩ := T.f__law_whole
  refine ⟨T.g__law_whole, fd, F.ok sc__law_whole (fun vs H Q E h => ?_) (fun cdv A outer s H vs Q E hr h => ⟨_, PSs.nox (pss_one (ps_ret (pe_and (pe_callB (r := rIsi K) call_isi (by rfl) T.b_isinstance (by decide +kernel) (pa_cons (pv 0) (pa_cons (pe_bltn (v := .ty "int") (by rfl) T.b_int (by decide +kernel) rfl) pa_nil))) (pe_one (pe_not (pe_callB (r := rIsi K) call_isi (by rfl) T.b_isinstance (by decide +kernel) (pa_cons (pv 0) (pa_cons (pe_bltn (v := .ty "bool") (by rfl) T.b_bool (by decide +kernel) rfl) pa_nil)))))))), ?_⟩), F.bindsN fun _ _ _ _ _ _ us hl => match us, hl with | [_], _ => rfl, F.kp⟩
  · exact spP.len (n := 1) (fun _ => rfl) h
  · obtain ⟨d, h0, hv0, q⟩ := h
    dsimp only at h0 hv0 q
    obtain ⟨v, rfl, hv⟩ := dpa1 hv0
    refine' w_ret1 (K := K) ?t (fun v4 H4 x4 h4 => q v4 H4 x4 ?_)
    case t => walk_at "ed"
    have e : (isT "int" d && !isT "bool" d) = decide (tyN d = "int") := by cases d <;> first | rfl | simp [isT, tyN]
    rw [← e]
    exact h4
end

end Fy

namespace Fy
open PySem PySem.Spec PyProof.Rows L2
/-! ### a night's making and its methods, by data -/
section
variable {X : Cx} {p pos : Pos} {e : Expr} {es : List Expr} {t : TA}
theorem pe_Night {K : PySem.W.Frag} (T : Tx K X.mg) (hr : Room 3 X.A) (hg : Gl X "Night") (ha : PA X (e :: es) t) (he : starEach (e :: es) X.env = (false, eval e X.env) :: starEach es X.env := by rfl) (hpl : (backTo pos (starEach es X.env)).any (·.1) = false := by rfl) (hK : K = X.K := by rfl) :
    PE X (.Call (.Name "Night" p) (e :: es) [] pos) (tMake (He.ga K "Night") (spInit K) [] E0 t) := by
  subst hK
  obtain ⟨fd, G, b⟩ := ok_Night___init__ (P := X.prog) (w := X.w) (base := X.base) T
  exact pe_make T.mkr G hr hg T.g_Night b .nil passL ha (by decide) he hpl
end
section
variable {K : PySem.W.Frag} {σ : L2.St} {H H1 : Hp} {tr : TA} {ta : TE} {C : Addr} {n : Nt} {v : V} {i : Nat} {D : Ends} {tz : TS}
/-- what a new object and its own dict leave -/
theorem ex_made {x dx : Addr} (nx : H x = none) (ndx : H dx = none) : Ex H (upd (upd H dx (.own x)) x (.ins C dx [])) := fun b o e => by
  rw [upd_ne (ne_of_none e nx), upd_ne (ne_of_none e ndx)]
  exact e
theorem ev_night (h : EvDs K tr σ H [.list (n.things.map eT), .int n.room, .list (n.quarrels.map eQ)]) (ok : n.ok = true) (H1 : Hp) (x1 : Ex H H1) (Q : VK) (q : ∀ v H2, Ex H1 H2 → NightI K H1 H2 v n → Q v H2) :
    tMake (He.ga K "Night") (spInit K) [] E0 tr σ H1 Q := h H1 x1 _ fun vs H2 x2 hvs => by
  obtain ⟨t, u, s, rfl, ht, hu, hs⟩ : ∃ t u s, vs = [t, u, s] ∧ Dp K H2 t (.list (n.things.map eT)) ∧ Dp K H2 u (.int n.room) ∧ Dp K H2 s (.list (n.quarrels.map eQ)) := by
    cases hvs with
    | cons a b => cases b with
      | cons b c => cases c with
        | cons c d => cases d; exact ⟨_, _, _, rfl, a, b, c⟩
  cases dp_int.mp hu
  intro x dx nx ndx nex
  have e0 := ex_made (C := He.ga K "Night") nx ndx
  have okT : thingsOk n.things = true := by unfold Nt.ok at ok; simp only [Bool.and_eq_true] at ok; exact ok.1
  have okR : roomOk n.room = true := by unfold Nt.ok at ok; simp only [Bool.and_eq_true] at ok; exact ok.2.1
  have okQ : quarrelsOk n.things.length n.quarrels = true := by unfold Nt.ok at ok; simp only [Bool.and_eq_true] at ok; exact ok.2.2
  refine ⟨x, dx, t, s, n, rfl, upd_same, dp_mono e0 _ _ ht, dp_mono e0 _ _ hs, fun H' _ kp hN => ⟨rfl, q _ H' (fun b o e => ?_) ?_⟩, fun H' c => ?_, fun H' _ c => ?_, fun H' _ _ c => ?_⟩
  · have e2 := x2 b o e
    exact kp b o (e0 b o e2) (ne_of_none e2 nx)
  · exact hN.back (x2.trans e0)
  · rw [okT] at c; cases c
  · rw [okR] at c; cases c
  · rw [okQ] at c; cases c
theorem w_asgNight {i : Nat} (h : EvDs K tr σ H [.list (n.things.map eT), .int n.room, .list (n.quarrels.map eQ)]) (ok : n.ok = true) (k : ∀ v H2, Ex H H2 → NightI K H H2 v n → tz D (σ.set i (some v)) H2) :
    tSeq (tAsg (tMake (He.ga K "Night") (spInit K) [] E0 tr) (gName i)) tz D σ H := ev_night h ok H (Evl.Ex.refl H) _ fun v H2 x hv => k v H2 x hv
/-- the receiver of a method: a night in a slot -/
theorem en_things (hi : σ[i]? = some (some v)) (hN : NightAt K H v n) : EvN K (tMeth (He.ga K "Night") "things" (spNThings K) [] E0 (tVar i) tNil) σ H (n.things.map eT) := fun H1 x Q q => by
  have N1 := hN.mono x
  obtain ⟨p, dx, a, b, ts, qs, rfl, h1, _⟩ := N1.at_
  exact ⟨_, hi, p, dx, _, rfl, h1, nf_no _ _ _ (by decide +kernel) (by decide +kernel) (by decide +kernel), _, n, rfl, N1, q⟩
theorem en_quarrels (hi : σ[i]? = some (some v)) (hN : NightAt K H v n) : EvN K (tMeth (He.ga K "Night") "quarrels" (spNQuarrels K) [] E0 (tVar i) tNil) σ H (n.quarrels.map eQ) := fun H1 x Q q => by
  have N1 := hN.mono x
  obtain ⟨p, dx, a, b, ts, qs, rfl, h1, _⟩ := N1.at_
  exact ⟨_, hi, p, dx, _, rfl, h1, nf_no _ _ _ (by decide +kernel) (by decide +kernel) (by decide +kernel), _, n, rfl, N1, q⟩
theorem ed_room (hi : σ[i]? = some (some v)) (hN : NightAt K H v n) : EvD K (tMeth (He.ga K "Night") "room" (spNRoom K) [] E0 (tVar i) tNil) σ H (.int n.room) := fun H1 x Q q => by
  have N1 := hN.mono x
  obtain ⟨p, dx, a, b, ts, qs, rfl, h1, _⟩ := N1.at_
  exact ⟨_, hi, p, dx, _, rfl, h1, nf_no _ _ _ (by decide +kernel) (by decide +kernel) (by decide +kernel), _, n, rfl, N1, fun H2 x2 => q _ H2 x2 (.int _)⟩
theorem ed_begins (hi : σ[i]? = some (some v)) (hN : NightAt K H v n) (hl : n.things.length ≤ 1000) : EvD K (tMeth (He.ga K "Night") "begins" (spNBegins K) [] E0 (tVar i) tNil) σ H (eS (rng n.things.length, 0)) := fun H1 x Q q => by
  have N1 := hN.mono x
  obtain ⟨p, dx, a, b, ts, qs, rfl, h1, _⟩ := N1.at_
  exact ⟨_, hi, p, dx, _, rfl, h1, nf_no _ _ _ (by decide +kernel) (by decide +kernel) (by decide +kernel), _, n, rfl, N1, hl, q⟩
theorem ed_ends (hi : σ[i]? = some (some v)) (hN : NightAt K H v n) : EvD K (tMeth (He.ga K "Night") "ends" (spNEnds K) [] E0 (tVar i) tNil) σ H (eS ([], 1)) := fun H1 x Q q => by
  have N1 := hN.mono x
  obtain ⟨p, dx, a, b, ts, qs, rfl, h1, _⟩ := N1.at_
  exact ⟨_, hi, p, dx, _, rfl, h1, nf_no _ _ _ (by decide +kernel) (by decide +kernel) (by decide +kernel), _, n, rfl, N1, q⟩
theorem ed_npeace {g : List Int} (hi : σ[i]? = some (some v)) (hN : NightAt K H v n) (hg : EvD K ta σ H (eI g)) : EvD K (tMeth (He.ga K "Night") "peace" (spNPeace K) [] E0 (tVar i) (tCons ta tNil)) σ H (.bool (peace n.quarrels g)) := fun H1 x Q q => by
  have N1 := hN.mono x
  obtain ⟨p, dx, a, b, ts, qs, rfl, h1, _⟩ := N1.at_
  refine ⟨_, hi, p, dx, _, rfl, h1, nf_no _ _ _ (by decide +kernel) (by decide +kernel) (by decide +kernel), hg H1 x _ fun u H2 x2 h2 => ?_⟩
  exact ⟨_, n, u, g, rfl, N1.mono x2, h2, fun H3 x3 => q _ H3 (x2.trans x3) (.bl _)⟩
theorem ed_nover {g : List Int} (hi : σ[i]? = some (some v)) (hN : NightAt K H v n) (hl : n.things.length ≤ 1000) (hg : EvD K ta σ H (eI g)) : EvD K (tMeth (He.ga K "Night") "over_there" (spNOver K) [] E0 (tVar i) (tCons ta tNil)) σ H (eI (restOf g n.things.length)) := fun H1 x Q q => by
  have N1 := hN.mono x
  obtain ⟨p, dx, a, b, ts, qs, rfl, h1, _⟩ := N1.at_
  refine ⟨_, hi, p, dx, _, rfl, h1, nf_no _ _ _ (by decide +kernel) (by decide +kernel) (by decide +kernel), hg H1 x _ fun u H2 x2 h2 => ?_⟩
  exact ⟨_, n, u, g, rfl, N1.mono x2, h2, hl, fun v3 H3 x3 h3 => q v3 H3 (x2.trans x3) h3⟩
variable {d : PyData} {sp : Sp} {ms : Str} {ds : List PyData}
theorem i_Things {K' : PySem.W.Frag} (h : EvD K (tMeth C ms (spNThings K') [] E0 ta tr) σ H d) : EvD K (tMeth C ms (spNThings K') [] E0 ta tr) σ H d := h
theorem i_Quarrels {K' : PySem.W.Frag} (h : EvD K (tMeth C ms (spNQuarrels K') [] E0 ta tr) σ H d) : EvD K (tMeth C ms (spNQuarrels K') [] E0 ta tr) σ H d := h
theorem i_Room {K' : PySem.W.Frag} (h : EvD K (tMeth C ms (spNRoom K') [] E0 ta tr) σ H d) : EvD K (tMeth C ms (spNRoom K') [] E0 ta tr) σ H d := h
theorem i_Begins {K' : PySem.W.Frag} (h : EvD K (tMeth C ms (spNBegins K') [] E0 ta tr) σ H d) : EvD K (tMeth C ms (spNBegins K') [] E0 ta tr) σ H d := h
theorem i_Ends {K' : PySem.W.Frag} (h : EvD K (tMeth C ms (spNEnds K') [] E0 ta tr) σ H d) : EvD K (tMeth C ms (spNEnds K') [] E0 ta tr) σ H d := h
theorem i_Peace {K' : PySem.W.Frag} (h : EvD K (tMeth C ms (spNPeace K') [] E0 ta tr) σ H d) : EvD K (tMeth C ms (spNPeace K') [] E0 ta tr) σ H d := h
theorem i_Over {K' : PySem.W.Frag} (h : EvD K (tMeth C ms (spNOver K') [] E0 ta tr) σ H d) : EvD K (tMeth C ms (spNOver K') [] E0 ta tr) σ H d := h
end
section
variable {K : PySem.W.Frag} {σ : L2.St} {H : Hp} {ta tb : TE} {D : Ends} {t tz : TS}
/-- tuple(range(n)) -/
theorem ed_tupRg {n : Nat} (h : EvD K ta σ H (.int (n : Int))) (hn : n ≤ 1000) : EvD K (tTupRg (tRg1 ta)) σ H (eI (rng n)) := fun H1 x Q q => h H1 x _ fun v H2 x2 h2 =>
  ⟨(n : Int), dp_int.mp h2, RgOk.of_le (by omega) (by omega) (by omega) (by omega), fun p hp => q _ _ (x2.trans (Evl.Ex.new hp)) (dp_eI.mpr ⟨p, rfl, SqT.of (by rw [upd_same, rgV_eq])⟩)⟩
theorem i_TupRg {d : PyData} {u : L2.St → Hp → (Int → Int → Hp → Prop) → Prop} (h : EvD K (tTupRg u) σ H d) : EvD K (tTupRg u) σ H d := h
/-- the ways ahead of tz come together in R -/
theorem w_join (R : L2.St → Hp → Prop) (go : ∀ σ' H', R σ' H' → tz D σ' H') (m : (∀ σ' H', R σ' H' → tz D σ' H') → tSeq t tz D σ H) : tSeq t tz D σ H := m go
end
section
variable {K : PySem.W.Frag} {σ : L2.St} {H : Hp} {te : TE} {D : Ends} {tz : TS}
/-- a term that gives what R tells -/
def EvX (te : TE) (σ : L2.St) (H : Hp) (R : Hp → V → Hp → Prop) : Prop := ∀ H1, Ex H H1 → ∀ Q : VK, (∀ v H2, Ex H1 H2 → R H1 v H2 → Q v H2) → te σ H1 Q
theorem w_asgX {R : Hp → V → Hp → Prop} {i : Nat} (h : EvX te σ H R) (k : ∀ v H1, Ex H H1 → R H v H1 → tz D (σ.set i (some v)) H1) : tSeq (tAsg te (gName i)) tz D σ H := h H (Evl.Ex.refl H) _ fun v H1 x hv => k v H1 x hv
theorem w_asgAt {d : PyData} {g : TG} (h : EvD K te σ H d) (k : ∀ v H1, Ex H H1 → Dp K H1 v d → g v σ H1 (fun σ2 H2 => tz D σ2 H2)) : tSeq (tAsg te g) tz D σ H := h H (Evl.Ex.refl H) _ fun v H1 x hv => k v H1 x hv
/-- a term that gives the address l -/
def EvA1 (te : TE) (σ : L2.St) (H : Hp) (l : Addr) : Prop := ∀ H1, Ex H H1 → ∀ Q : VK, (∀ H2, Ex H1 H2 → Q (.ref l) H2) → te σ H1 Q
theorem ea_var {i : Nat} {l : Addr} (h : σ[i]? = some (some (.ref l))) : EvA1 (tVar i) σ H l := fun H1 x _ q => ⟨_, h, q H1 (Evl.Ex.refl H1)⟩
theorem ea_ixL {ta tb : TE} {l p : Addr} {i : Int} {xs : List V} (h : EvA1 ta σ H l) (hi : EvD K tb σ H (.int i)) (hs : SqL K H l xs) (hx : atI xs i = some (.ref p)) : EvA1 (tOp (rIxL K) ta tb) σ H p := fun H1 x _ q =>
  h H1 x _ fun H2 x2 => hi H2 (x.trans x2) _ fun v H3 x3 h3 => ⟨l, xs, i, .ref p, rfl, dp_int.mp h3, Evl.ex_l ((x.trans x2).trans x3) hs, hx, q H3 (x2.trans x3)⟩
theorem w_app {to : TE} {d : PyData} {l : Addr} {xs : List V} (h : EvA1 to σ H l) (he : EvD K te σ H d) (hx : H l = some (.lst xs)) (hl : xs.length < 100000) (k : ∀ u H1, Ex H H1 → Dp K H1 u d → H1 l = some (.lst xs) → tz D σ (upd H1 l (.lst (xs ++ [u])))) : tSeq (tDrop (tBM K "list" rAppend to (tCons te tNil))) tz D σ H :=
  h H (Evl.Ex.refl H) _ fun H1 x => ⟨.inl ⟨rfl, _, SqL.of (x _ _ hx)⟩, he H1 x _ fun u H2 x2 h3 => ⟨l, xs, u, rfl, rfl, x2 _ _ (x _ _ hx), Evl.sz_lt hl, k u H2 (x.trans x2) h3 (x2 _ _ (x _ _ hx))⟩⟩
theorem w_app1 {to : TE} {d : PyData} {l : Addr} {xs : List V} (h : EvA1 to σ H l) (he : EvD K te σ H d) (hx : H l = some (.lst xs)) (hl : xs.length < 100000) (k : ∀ u H1, Ex H H1 → Dp K H1 u d → H1 l = some (.lst xs) → D.nx σ (upd H1 l (.lst (xs ++ [u])))) : tDrop (tBM K "list" rAppend to (tCons te tNil)) D σ H :=
  h H (Evl.Ex.refl H) _ fun H1 x => ⟨.inl ⟨rfl, _, SqL.of (x _ _ hx)⟩, he H1 x _ fun u H2 x2 h3 => ⟨l, xs, u, rfl, rfl, x2 _ _ (x _ _ hx), Evl.sz_lt hl, k u H2 (x.trans x2) h3 (x2 _ _ (x _ _ hx))⟩⟩
/-- a fresh list's change is seen by nobody -/
theorem w_appN {to : TE} {ds : List PyData} {d : PyData} (h : EvN K to σ H ds) (he : EvD K te σ H d) (hl : ds.length < 100000) (k : ∀ H1, Ex H H1 → tz D σ H1) : tSeq (tDrop (tBM K "list" rAppend to (tCons te tNil))) tz D σ H :=
  h H (Evl.Ex.refl H) _ fun v H1 x hv => by
    obtain ⟨p, xs, rfl, n, h1, h2⟩ := hv
    refine ⟨.inl ⟨rfl, _, SqL.of h1⟩, he H1 x _ fun u H2 x2 h3 => ⟨p, xs, u, rfl, rfl, x2 _ _ h1, Evl.sz_lt (by rw [dpa_len h2]; exact hl), k _ ((x.trans x2).mut n)⟩⟩
theorem w_clrN {to : TE} {ds : List PyData} (h : EvN K to σ H ds) (k : ∀ H1, Ex H H1 → D.nx σ H1) : tDrop (tBM0 K "list" rClear to) D σ H :=
  h H (Evl.Ex.refl H) _ fun v H1 x hv => by
    obtain ⟨p, xs, rfl, n, h1, h2⟩ := hv
    exact ⟨.inl ⟨rfl, _, SqL.of h1⟩, p, xs, rfl, rfl, h1, k _ (x.mut n)⟩
theorem EvX.ret {R : Hp → V → Hp → Prop} (h : EvX te σ H R) (k : ∀ v H1, Ex H H1 → R H v H1 → D.rt v H1) : tRet te D σ H := h H (Evl.Ex.refl H) _ fun v H1 x hv => k v H1 x hv
/-- a list of two lists of its own -/
def Pair2 (K : PySem.W.Frag) (ds es : List PyData) (H0 : Hp) (v : V) (H : Hp) : Prop := ∃ p l k xs ys, v = .ref p ∧ H0 p = none ∧ H p = some (.lst [.ref l, .ref k]) ∧ H0 l = none ∧ H l = some (.lst xs) ∧ DpAll K H xs ds ∧ H0 k = none ∧ H k = some (.lst ys) ∧ DpAll K H ys es ∧ l ≠ k ∧ p ≠ l ∧ p ≠ k
theorem ex_pair2 {ta tb : TE} {ds es : List PyData} (h1 : EvN K ta σ H ds) (h2 : EvN K tb σ H es) : EvX (tLst (tCons ta (tCons tb tNil))) σ H (Pair2 K ds es) := fun H1 x Q q =>
  h1 H1 x _ fun v H2 x2 h4 => h2 H2 (x.trans x2) _ fun u H3 x3 h5 => ⟨by show 2 ≤ sizeLine; decide, fun p hp => by
    obtain ⟨l, xs, rfl, n1, e1, d1⟩ := h4
    obtain ⟨k, ys, rfl, n2, e2, d2⟩ := h5
    have x4 := Evl.Ex.new (o := HO.lst [.ref l, .ref k]) hp
    exact q _ _ ((x2.trans x3).trans x4) ⟨p, l, k, xs, ys, rfl, Evl.fresh_back (x2.trans x3) hp, upd_same, n1, x4 _ _ (x3 _ _ e1), dpa_mono (x3.trans x4) _ _ d1, Evl.fresh_back x2 n2, x4 _ _ e2, dpa_mono x4 _ _ d2,
      ne_of_none e1 n2, (ne_of_none (x3 _ _ e1) hp).symm, (ne_of_none e2 hp).symm⟩⟩
end

end Fy

namespace Fy
open PySem PySem.Spec PyProof.Rows L2
/-! ### sorted: tuples of whole numbers of any length, the empty one first -/
section
open PySem.W PySem.Calls PySem.SeqAt
theorem map_each {M : Model} {A : Around} {E : Value → Shared → Prop} {s : Shared} {α β : Type} {f : α → Sem β} (g : α → β) : ∀ (l : List α) {Q : List β → Shared → Prop}, (∀ v ∈ l, ∀ (Q' : β → Shared → Prop), Q' (g v) s → wpAny M A (f v) Q' E s) → Q (l.map g) s → wpAny M A (l.mapM f) Q E s
  | [], _, _, h => by rw [List.mapM_nil]; exact wpAny_pure h
  | x :: l, Q, hf, h => by
    rw [List.mapM_cons]
    exact wpAny_bind (hf x (.head _) _ (wpAny_bind (map_each g l (Q := fun bs s' => wpAny M A (pure (g x :: bs)) Q E s') (fun v hv => hf v (.tail _ hv)) (wpAny_pure h))))
def headOf (h : Heap) : Value → Option Value
  | .ref a => (h.get? a).bind fun o => match o.data with
    | .seq xs _ => xs[0]?
    | _ => none
  | _ => none
variable {prog : Program} {w : World} {A : Around} {s : Shared}
/-- one tuple against another, as keys of one kind -/
theorem tup_oneLt {xs ys : List PyData} {a b : Value} {as bs : List Addr} {E : Value → Shared → Prop} {Q : Bool → Shared → Prop} (ra : Reads s.heap a (.tuple xs) as) (rb : Reads s.heap b (.tuple ys) bs) (hal : alikeAll xs ys = true)
    (hu : A.units + min (PyData.tuple xs).depth (PyData.tuple ys).depth < cLine) (hq : Q (dataLt (.tuple xs) (.tuple ys)) s) : wpAny (model prog w) A (oneLt' true a b) Q E s := by
  cases ra with
  | @tuple l o vs n _ as₁ h1 h2 h3 h4 =>
    cases rb with
    | @tuple l' o' vs' n' _ bs₁ k1 k2 k3 k4 =>
      have n1 : vs.size = xs.length := by simpa using ReadsAll.length _ _ _ h4
      have n2 : vs'.size = ys.length := by simpa using ReadsAll.length _ _ _ k4
      rw [dataLt_tuple, ← firstLt_toks xs ys hal, ← n1, ← n2] at hq
      rw [oneLt'_eq]
      simp only [if_true]
      refine wpAny_bind (wpAny_cRoomFor (room_here hu) ?_)
      obtain ⟨cls, dd, data, sl⟩ := o
      obtain ⟨cls2, dd2, data2, sl2⟩ := o'
      simp only at h2 h3 k2 k3
      subst h2 h3 k2 k3
      refine wpAny_bind (wpAny_callSpecialIfBound?_slot (T := "tuple") ⟨_, h1, rfl⟩ F.slot_tuple_lt (call_meets F.slot_tuple_lt ⟨_, h1, rfl⟩ F.entry_tuple_lt (F.args_tuple_lt_2 _ _)
        (SeqAt.tuple_ltAt l l' vs vs' n n' dd dd2 sl sl2 (pairEq xs ys) (fun j => dataLt (xs.getD j .none) (ys.getD j .none))) ⟨h1, k1, fun j j1 j2 => ?_, fun j j1 j2 hj => ?_, ?_⟩))
      · have := eqAt_alikeAll xs ys A.in1 s vs.toList vs'.toList _ _ h4 k4 hal (room_in hu) j (by simpa using j1) (by simpa using j2)
        simpa using this
      · have := rcLt_alikeAll xs ys A.in1 s vs.toList vs'.toList _ _ h4 k4 hal (room_in hu) j (by simpa using j1) (by simpa using j2) hj
        simpa using this
      · exact wpAny_truthy_bool hq
/-- tuples, the first of them empty, can be sorted -/
theorem sortsAt_empty {vs : List Value} {ds : List PyData} (e : EachIs (fun v d => ∃ as, Reads s.heap v d as) vs (.tuple [] :: ds)) (hal : AllAlike (.tuple [] :: ds)) (ht : ∀ d, d ∈ ds → ∃ xs, d = .tuple xs) (hu : ∀ d, d ∈ (.tuple [] :: ds : List PyData) → A.units + d.depth < cLine) : SortsAt prog w A s (dataKind s.heap (.tuple [] :: ds)) vs := by
  have ht' : ∀ d, d ∈ (.tuple [] :: ds : List PyData) → ∃ xs, d = .tuple xs := fun d hd => by
    rcases List.mem_cons.mp hd with rfl | hd
    · exact ⟨_, rfl⟩
    · exact ht d hd
  refine ⟨fun v hv => ?_, oneType', ?_, fun h2 E Q hq => ?_⟩
  · obtain ⟨d, hd, as, r⟩ := e.left v hv
    exact ⟨_, dataKind_some hal hd r⟩
  · intro E x y a b Q ha hb hq
    obtain ⟨d, as, hd, ra, rfl⟩ := dataKind_inv ha
    obtain ⟨d', as', hd', rb, rfl⟩ := dataKind_inv hb
    obtain ⟨xs, rfl⟩ := ht' d hd
    obtain ⟨ys, rfl⟩ := ht' d' hd'
    rw [keyLt'_oneType]
    have q := hal _ hd _ hd'
    exact tup_oneLt ra rb (by simpa [alike] using q) (Nat.lt_of_le_of_lt (Nat.add_le_add_left (Nat.min_le_left _ _) _) (hu _ hd)) hq
  · cases e with
    | @cons v0 _ vr _ h0 t =>
      obtain ⟨as0, r0⟩ := h0
      have each : ∀ v ∈ v0 :: vr, ∃ xs as, Reads s.heap v (.tuple xs) as := fun v hv => by
        rcases List.mem_cons.mp hv with rfl | hv
        · exact ⟨_, _, r0⟩
        · obtain ⟨d, hd, as, r⟩ := t.left v hv
          obtain ⟨xs, rfl⟩ := ht d hd
          exact ⟨_, _, r⟩
      have hh0 : headOf s.heap v0 = none := by
        cases r0 with
        | @tuple l o vs n _ as₁ h1 h2 h3 h4 =>
          cases h : vs.toList with
          | nil => simp only [headOf, h1, Option.bind_some, h3]; rw [← Array.getElem?_toList, h]; rfl
          | cons a r => rw [h] at h4; cases h4
      rw [keyKind'_eq, List.mapM_toArray, map_eq_pure_bind]
      refine wpAny_bind (wpAny_bind (map_each (headOf s.heap) _ (fun v hv Q' hq' => ?_) (wpAny_pure ?_)))
      · obtain ⟨xs, as, r⟩ := each v hv
        cases r with
        | @tuple l o vs n _ as₁ h1 h2 h3 h4 =>
          rw [kas_first_eq]
          refine wpAny_bind (Looks.here (show Looks (model prog w) s.heap (typeOf (.ref l)) o.cls from (Looks.ld h1).andThen .now) ?_)
          rw [h2, if_neg (by first | decide | simp)]
          refine wpAny_bind (listItems_at h1 h3 (wpAny_pure ?_))
          have e2 : headOf s.heap (.ref l) = vs[0]? := by simp only [headOf, h1, Option.bind_some, h3]
          rw [e2] at hq'
          exact hq'
      · have z1 : ¬ ((List.map (headOf s.heap) (v0 :: vr)).toArray.all fun x => x.isSome) = true := by
          rw [List.map_cons, hh0]; simp
        have z2 : ¬ (((List.map (headOf s.heap) (v0 :: vr)).toArray[0]?).bind id).isSome = true := by
          rw [List.map_cons, hh0]; simp
        rw [if_neg z1, if_neg z2, oneTypeOnly'_eq, List.mapM_toArray, map_eq_pure_bind]
        refine wpAny_bind (wpAny_bind (wpAny_bind (kas_mapM (r := Value.type "tuple") _ (fun v hv Q' hq' => ?_) (wpAny_pure ?_))))
        · obtain ⟨xs, as, r⟩ := each v hv
          exact Looks.here (looks_reads r) hq'
        · have hall : ((List.map (fun _ => Value.type "tuple") (v0 :: vr)).toArray.all fun x => x == Value.type "tuple") = true := by
            simp only [List.all_toArray, List.all_map, List.all_eq_true]
            intro _ _
            rfl
          have h0 : (List.map (fun _ => Value.type "tuple") (v0 :: vr)).toArray[0]? = some (Value.type "tuple") := by simp
          rw [h0]
          simp only [hall, if_true]
          exact wpAny_pure (wpAny_pure hq)
end
/-- the order -/
abbrev leI : List Int → List Int → Bool := PySem.W.dataLe false eI
/-- what can be sorted: none is empty, or the first one is -/
def SortI (L : List (List Int)) : Prop := (∀ g ∈ L, g ≠ []) ∨ ∃ L', L = [] :: L'
def rSortTI (K : PySem.W.Frag) : List V → Hp → VK → Prop := fun vs H Q => ∃ (a : Addr) (xs : List V) (L : List (List Int)), vs = [V.ref a] ∧ SqL K H a xs ∧ DpAll K H xs (L.map eI) ∧ SortI L ∧
  ∀ zs p, DpAll K H zs ((L.mergeSort leI).map eI) → H p = none → Q (.ref p) (upd H p (.lst zs))
section
open PySem.W PySem.Calls PySem.SeqAt
theorem alike_eI (g k : List Int) : alike (eI g) (eI k) = true := by
  show alike (.tuple (g.map .int)) (.tuple (k.map .int)) = true
  simp only [alike]
  exact alike_ints g k
theorem depth_eI (g : List Int) : (eI g).depth = 1 := by
  simp only [eI, PyData.depth]
  rw [depth_ints]
theorem each_of_dp {X : Cx} {pins : List (Addr × Obj)} {σ : L2.St} {H : Hp} {s : Shared} (I : Inv X pins σ H s) : ∀ (L : List (List Int)) (xs : List V) (us : List Value), DpAll X.K H xs (L.map eI) → Vals xs us →
    EachIs (fun v g => ∃ x, RelV x v ∧ Dp X.K H x (eI g)) us L ∧ EachIs (fun v g => ∃ as, Reads s.heap v (eI g) as) us L
  | [], _, _, h, r => by cases h; cases r; exact ⟨.nil, .nil⟩
  | g :: L, _, _, h, r => by
    cases h with
    | cons h1 h2 => cases r with
      | cons r1 r2 =>
        obtain ⟨a, b⟩ := each_of_dp I L _ _ h2 r2
        exact ⟨.cons ⟨_, r1, h1⟩ a, .cons (Dp.reads I _ _ _ h1 r1) b⟩
theorem dp_of_each {K : PySem.W.Frag} {H : Hp} : ∀ (L : List (List Int)) (us : List Value), EachIs (fun v g => ∃ x, RelV x v ∧ Dp K H x (eI g)) us L → ∃ xs, Vals xs us ∧ DpAll K H xs (L.map eI)
  | _, _, .nil => ⟨[], .nil, .nil⟩
  | _, _, .cons ⟨x, r, d⟩ t => by
    obtain ⟨xs, a, b⟩ := dp_of_each _ _ t
    exact ⟨x :: xs, .cons r a, .cons d b⟩
theorem each_map' {h : Heap} : ∀ {vs : List Value} {L : List (List Int)}, EachIs (fun v g => ∃ as, Reads h v (eI g) as) vs L → EachIs (fun v d => ∃ as, Reads h v d as) vs (L.map eI)
  | _, _, .nil => .nil
  | _, _, .cons h t => .cons h (each_map' t)
theorem cr_sortTI {X : Cx} (hu : X.A.units + 64 < cLine) : CallR X (.builtin "sorted") (rSortTI X.K) := by
  intro pins s σ H vs us Q I r h
  obtain ⟨a, xs, L, rfl, hs, hd, hk, q⟩ := h
  obtain ⟨its, rv, hl, hz⟩ := I.list hs
  rw [Vals.ref1 r]
  obtain ⟨e, er⟩ := each_of_dp I L xs its hd rv
  have hal : AllAlike (L.map eI) := AllAlike.of alike_eI
  have hlen : its.length ≤ sizeLine := by rw [← rv.length]; exact hz
  have units : X.A.in1.in1.units + 1 < cLine := by
    have e1 : X.A.in1.in1.units = X.A.units + 2 := rfl
    omega
  have fin : ∀ (Q' : Value → Shared → Prop), (∀ out, EachIs (fun v g => ∃ x, RelV x v ∧ Dp X.K H x (eI g)) out (L.mergeSort leI) → Q' (.ref (s.heap.objs.size + 1)) { s with heap := sortedAll s.heap its (List.toArray out) }) → wpAny (model X.prog X.w) X.A (call (.builtin "sorted") [.ref a]) Q' X.xe s := by
    intro Q' k
    have er' : EachIs (fun v g => ∃ as, Reads (sortingHeap (copyHeap s.heap its) (s.heap.objs.size + 1) its) v (eI g) as) its L := er.mono fun _ _ ⟨as, r⟩ => ⟨as, PyProof.Rows.Reads.keeps (fun _ _ => sorting_copy_old) r⟩
    have hub : ∀ d, d ∈ L.map eI → X.A.in1.in1.units + d.depth < cLine := fun d hd => by
      obtain ⟨g, _, rfl⟩ := List.mem_map.mp hd
      rw [depth_eI]
      exact units
    have S : SortsAt X.prog X.w X.A.in1.in1 { s with heap := sortingHeap (copyHeap s.heap its) (s.heap.objs.size + 1) its } (dataKind (sortingHeap (copyHeap s.heap its) (s.heap.objs.size + 1) its) (L.map eI)) its := by
      rcases hk with hn | ⟨L', rfl⟩
      · refine SortsAt.data (s := { s with heap := sortingHeap (copyHeap s.heap its) (s.heap.objs.size + 1) its }) (each_map' er') hal (.inl fun d hd => ?_) hub
        obtain ⟨g, hg, rfl⟩ := List.mem_map.mp hd
        cases g with
        | nil => exact absurd rfl (hn _ hg)
        | cons i g => exact ⟨.int i, g.map .int, rfl⟩
      · refine sortsAt_empty (s := { s with heap := sortingHeap (copyHeap s.heap its) (s.heap.objs.size + 1) its }) (ds := L'.map eI) (each_map' er') hal (fun d hd => ?_) hub
        obtain ⟨g, hg, rfl⟩ := List.mem_map.mp hd
        exact ⟨_, rfl⟩
    exact sorted_vals hl.isList S hlen (k _ (sortVals_data false e er' hal))
  refine fin _ fun out ho => ?_
  obtain ⟨zs, z1, z2⟩ := dp_of_each _ _ ho
  obtain ⟨ep, he'⟩ := PyProof.Rows.sortedAll_at s.heap its out.toArray
  have hzl : zs.length ≤ sizeLine := by
    rw [z1.length, ho.length, List.length_mergeSort, ← e.length]
    exact hlen
  exact ⟨.ref _, upd H (s.heap.objs.size + 1) (.lst zs), I.laid (t' := s.toks) (fun _ _ => PyProof.Rows.sortedAll_old) (Nat.le_succ _) ⟨hzl, out, ep, z1, he'⟩, rfl, q _ _ z2 (I.hok.fresh (Nat.le_succ _))⟩
end
section
open PySem.W PySem.Calls PySem.SeqAt
variable {prog : Program} {w : World} {A : Around} {E : Value → Shared → Prop} {s : Shared}
/-- what sorted gathers of a tuple -/
theorem gather_tup {tp : Addr} {us : List Value} {Q : List Value → Shared → Prop} (ht0 : IsTup s.heap tp us.toArray) (hz : us.length ≤ sizeLine)
    (k : Q us { s with heap := (s.heap.push (seqObj "list" #[] 0)).update s.heap.objs.size (Obj.mapSeq (· ++ us.toArray)) }) : wpAny (model prog w) A (collect (.ref tp)) Q E s := by
  obtain ⟨ob, hob, hcl, cnt, hdt⟩ := ht0
  unfold collect
  refine wpAny_bind (wpAny_runValue (codeAny_builtin entry_proto_collect' (?_ : wpAny _ _ (do again (.builtin "list.__iadd__" ⟨[← newList [], .ref tp], []⟩)) _ _ s)))
  refine wpAny_bind (wpAny_newList (wpAny_pure ⟨Code.quiet_builtin _ (by decide +kernel), codeAny_builtin entry_list_iadd' (?_ : wpAny _ _ (Builtin.List.listExtendWith (.ref s.heap.objs.size) (.ref tp) (.ref s.heap.objs.size)) _ _ { s with heap := s.heap.push (seqObj "list" #[] 0) })⟩))
  unfold Builtin.List.listExtendWith
  have hob2 : (s.heap.push (seqObj "list" #[] 0)).get? tp = some ob := Heap.get?_push_of_some _ hob
  have fresh2 : (s.heap.push (seqObj "list" #[] 0)).get? s.heap.objs.size = some (seqObj "list" #[] 0) := Heap.get?_push_size _ rfl
  refine wpAny_bind (wpAny_typeOf (T := "tuple") ⟨ob, hob2, hcl⟩ ?_)
  have same : (Value.type "tuple" == Value.type "tuple") = true := by rfl
  rw [if_pos (by rw [same]; simp)]
  refine wpAny_bind (listItems_at hob2 hdt (wpAny_bind (listItems_at (xs := #[]) (n := 0) fresh2 rfl ?_)))
  rw [if_neg (by simp)]
  have hsz2 : ((#[] : Array Value) ++ us.toArray).size ≤ sizeLine + 1 := by simp only [Array.size_append, List.size_toArray, List.length_nil]; omega
  refine wpAny_bind (listUpdate_at (xs := #[]) (n := 0) fresh2 rfl ?_ (Nat.zero_le _) (by show (#[] ++ us.toArray).size ≤ sizeLine + 1; exact hsz2))
  refine wpAny_pure (?_ : wpAny (model prog w) A (do
      let ob ← load s.heap.objs.size
      match ob.data with
      | .seq xs _ => pure xs.toList
      | _ => unsupported "internal:collect") Q E { s with heap := (s.heap.push (seqObj "list" #[] 0)).update s.heap.objs.size (Obj.mapSeq (· ++ us.toArray)) })
  refine wpAny_bind (wpAny_load (get?_update_seq fresh2 _) (?_ : wpAny _ _ (pure ((#[] : Array Value) ++ us.toArray).toList) Q E _))
  rw [show ((#[] : Array Value) ++ us.toArray).toList = us by simp]
  exact wpAny_pure k
/-- sorted of a tuple -/
theorem sorted_tupV {tp : Addr} {us : List Value} {Q : Value → Shared → Prop} {κ : PyProof.Rows.KeyKind} (ht0 : IsTup s.heap tp us.toArray) (hz : us.length ≤ sizeLine) (S : SortsAt prog w A.in1.in1 { s with heap := sortingHeap (copyHeap s.heap us) (s.heap.objs.size + 1) us } κ us)
    (k : Q (.ref (s.heap.objs.size + 1)) { s with heap := sortedAll s.heap us (sortVals κ false us us).toArray }) : wpAny (model prog w) A (call (.builtin "sorted") [.ref tp]) Q E s := by
  refine call_function_entry_kw kind_sorted plain_sorted entry_sorted (args_sorted1 _) ?_
  unfold Builtin.«sorted»
  refine wpAny_bind (m := checkCount "sorted" 1 1 _) (wpAny_pure (wpAny_bind (gather_tup ht0 hz (wpAny_bind (wpAny_newList (?_ : wpAny _ _ _ _ _ { s with heap := copyHeap s.heap us }) hz)))))
  have sz : ((s.heap.push (seqObj "list" #[] 0)).update s.heap.objs.size (Obj.mapSeq (· ++ us.toArray))).objs.size = s.heap.objs.size + 1 := by rw [Heap.size_update, size_push']
  rw [sz]
  refine wpAny_bind (wpAny_holding (wpAny_call_entry_kw slot_list_sort ⟨_, copyHeap_at s.heap us, rfl⟩ entry_list_sort (?bd : wpAny (model prog w) A.in1.in1 (Builtin.«list.sort» ⟨[.ref (s.heap.objs.size + 1)], []⟩) _ _ _) (args_list_sort _)))
  case bd =>
    refine wpAny_mono (list_sort_vals (P := fun f s' => f = .done (.ret .none) ∧ Q (.ref (s.heap.objs.size + 1)) s') (s := { s with heap := copyHeap s.heap us }) (copyHeap_at s.heap us) S hz ⟨rfl, k⟩) (fun f s' hf => ?_) fun _ _ e => e
    obtain ⟨rfl, hq⟩ := hf
    exact ⟨_, rfl, wpAny_pure ⟨_, rfl, hq⟩⟩
end
/-- the order of whole numbers -/
abbrev leZ : Int → Int → Bool := fun a b => decide (a ≤ b)
def rSortTup (K : PySem.W.Frag) : List V → Hp → VK → Prop := fun vs H Q => ∃ (a : Addr) (ns : List Int), vs = [V.ref a] ∧ SqT K H a (ns.map V.int) ∧ ∀ p, H p = none → Q (.ref p) (upd H p (.lst ((ns.mergeSort leZ).map V.int)))
section
open PySem.W PySem.Calls PySem.SeqAt
theorem each_ints {h : Heap} : ∀ (ns : List Int) (us : List Value), Vals (ns.map V.int) us → EachIs (fun v i => RelV (.int i) v) us ns ∧ EachIs (fun v d => ∃ as, Reads h v d as) us (ns.map PyData.int)
  | [], _, r => by cases r; exact ⟨.nil, .nil⟩
  | i :: ns, _, r => by
    cases r with
    | cons r1 r2 =>
      obtain ⟨a, b⟩ := each_ints ns _ r2
      obtain ⟨t, rfl⟩ := r1
      exact ⟨.cons ⟨t, rfl⟩ a, .cons ⟨_, .int _ _⟩ b⟩
theorem vals_each : ∀ (ns : List Int) (us : List Value), EachIs (fun v i => RelV (.int i) v) us ns → Vals (ns.map V.int) us
  | _, _, .nil => .nil
  | _, _, .cons r t => .cons r (vals_each _ _ t)
theorem each_ints' {h : Heap} : ∀ {us : List Value} {ns : List Int}, EachIs (fun v i => RelV (.int i) v) us ns → EachIs (fun v i => ∃ as, Reads h v (PyData.int i) as) us ns
  | _, _, .nil => .nil
  | _, _, .cons r t => by obtain ⟨u, rfl⟩ := r; exact .cons ⟨_, .int _ _⟩ (each_ints' t)
theorem cr_sortTup {X : Cx} (hu : X.A.units + 64 < cLine) : CallR X (.builtin "sorted") (rSortTup X.K) := by
  intro pins s σ H vs us Q I r h
  obtain ⟨a, ns, rfl, hs, q⟩ := h
  obtain ⟨its, rv, ht, hz⟩ := I.tuple hs
  rw [Vals.ref1 r]
  have hlen : its.length ≤ sizeLine := by rw [← rv.length]; exact hz
  obtain ⟨e, _⟩ := each_ints (h := s.heap) ns its rv
  have er : EachIs (fun v d => ∃ as, Reads (sortingHeap (copyHeap s.heap its) (s.heap.objs.size + 1) its) v d as) its (ns.map PyData.int) := (each_ints ns its rv).2
  have hal : AllAlike (ns.map PyData.int) := AllAlike.of fun _ _ => rfl
  have hub : ∀ d, d ∈ ns.map PyData.int → X.A.in1.in1.units + d.depth < cLine := fun d hd => by
    obtain ⟨g, _, rfl⟩ := List.mem_map.mp hd
    have e1 : X.A.in1.in1.units = X.A.units + 2 := rfl
    rw [show (PyData.int g).depth = 0 by simp [PyData.depth]]
    omega
  have S := SortsAt.data (prog := X.prog) (w := X.w) (A := X.A.in1.in1) (s := { s with heap := sortingHeap (copyHeap s.heap its) (s.heap.objs.size + 1) its }) er hal (.inr fun d hd => by obtain ⟨g, _, rfl⟩ := List.mem_map.mp hd; exact ⟨nofun, nofun⟩) hub
  have out := sortVals_data false (enc := PyData.int) e (each_ints' (h := sortingHeap (copyHeap s.heap its) (s.heap.objs.size + 1) its) e) hal
  rw [show PySem.W.dataLe false PyData.int = leZ from dataLe_int (fun b : Int => b)] at out
  refine sorted_tupV ht hlen S ?_
  obtain ⟨ep, he'⟩ := PyProof.Rows.sortedAll_at s.heap its (sortVals (dataKind (sortingHeap (copyHeap s.heap its) (s.heap.objs.size + 1) its) (ns.map PyData.int)) false its its).toArray
  have z1 := vals_each _ _ out
  have hzl : ((ns.mergeSort leZ).map V.int).length ≤ sizeLine := by
    rw [z1.length, out.length, List.length_mergeSort, ← e.length]
    exact hlen
  exact ⟨.ref _, upd H (s.heap.objs.size + 1) (.lst ((ns.mergeSort leZ).map V.int)), I.laid (t' := s.toks) (fun _ _ => PyProof.Rows.sortedAll_old) (Nat.le_succ _) ⟨hzl, _, ep, z1, he'⟩, rfl, q _ (I.hok.fresh (Nat.le_succ _))⟩
end

end Fy

namespace Fy
open PySem PySem.Spec PyProof.Rows L2
/-! ### sorting, joining, cutting; loops that lay items into one list -/
section
variable {K : PySem.W.Frag} {σ : L2.St} {H H' : Hp} {ta tb te tl : TE} {d e z : PyData} {ds : List PyData} {D : Ends} {tu tz : TS} {g : TG}
theorem cn_sortTI {L : List (List Int)} (hk : SortI L) : CN K (rSortTI K) [.list (L.map eI)] ((L.mergeSort leI).map eI) := fun H vs h Q q => by
  cases h with
  | cons h1 h2 =>
    cases h2
    obtain ⟨a, xs, rfl, h3, h4⟩ := dp_lst.mp h1
    exact ⟨a, xs, L, rfl, h3, h4, hk, fun zs p hz hp => q _ _ (Evl.Ex.new hp) ⟨p, zs, rfl, hp, upd_same, dpa_mono (Evl.Ex.new hp) _ _ hz⟩⟩
theorem cn_sortTup {ns : List Int} : CN K (rSortTup K) [eI ns] ((ns.mergeSort leZ).map .int) := fun H vs h Q q => by
  cases h with
  | cons h1 h2 =>
    cases h2
    obtain ⟨a, rfl, h3⟩ := dp_eI.mp h1
    exact ⟨a, ns, rfl, h3, fun p hp => q _ _ (Evl.Ex.new hp) ⟨p, _, rfl, hp, upd_same, dpa_ints.mpr rfl⟩⟩
theorem rd_catA {ns ms : List Int} (hl : ns.length + ms.length ≤ 100000) : RD K (rCatA K) (eI ns) (eI ms) (eI (ns ++ ms)) := fun H x y hx hy Q q => by
  obtain ⟨a, rfl, h1⟩ := dp_eI.mp hx
  obtain ⟨b, rfl, h2⟩ := dp_eI.mp hy
  refine ⟨a, b, _, _, rfl, rfl, h1, h2, Evl.sz_of (by rw [List.length_map, List.length_map]; exact hl), fun e => ?_, fun _ e => ?_, fun _ _ p hp => ?_⟩
  · have e' : ns = [] := List.map_eq_nil_iff.mp e
    subst e'
    exact q _ H (Evl.Ex.refl H) hy
  · have e' : ms = [] := List.map_eq_nil_iff.mp e
    subst e'
    rw [List.append_nil] at q
    exact q _ H (Evl.Ex.refl H) hx
  · exact q _ _ (Evl.Ex.new hp) (dp_eI.mpr ⟨p, rfl, SqT.of (by rw [upd_same, List.map_append])⟩)
/-- the part of a list, as data -/
def cutD (ds : List PyData) (lo hi : Option Int) : List PyData := (ds.drop (HT.sIx ds.length 0 lo)).take (HT.sIx ds.length ds.length hi - HT.sIx ds.length 0 lo)
theorem cut_dp {xs : List V} {lo hi : Option Int} (h : DpAll K H xs ds) : DpAll K H (cutV xs lo hi) (cutD ds lo hi) := by
  unfold cutV cutD
  rw [dpa_len h]
  exact dpa_take _ (dpa_drop _ h)
/-- a bound of a slice -/
def EvO (K : PySem.W.Frag) (to : TO) (σ : L2.St) (H : Hp) (o : Option Int) : Prop := ∀ H1, Ex H H1 → ∀ Q : Option Int → Hp → Prop, (∀ H2, Ex H1 H2 → Q o H2) → to σ H1 Q
theorem eo_none : EvO K tNoPart σ H none := fun H1 _ _ q => q H1 (Evl.Ex.refl H1)
theorem eo_some {i : Int} (h : EvD K te σ H (.int i)) : EvO K (tPart te) σ H (some i) := fun H1 x _ q => h H1 x _ fun v H2 x2 h2 => ⟨i, dp_int.mp h2, q H2 x2⟩
theorem en_slL {to th : TO} {lo hi : Option Int} (h : EvD K te σ H (.list ds)) (h1 : EvO K to σ H lo) (h2 : EvO K th σ H hi) : EvN K (tSl (rSlL K) te to th) σ H (cutD ds lo hi) := fun H1 x Q q =>
  h H1 x _ fun v H2 x2 hv => h1 H2 (x.trans x2) _ fun H3 x3 => h2 H3 ((x.trans x2).trans x3) _ fun H4 x4 => by
    obtain ⟨a, xs, rfl, h3, h4⟩ := dp_lst.mp hv
    have x24 := x3.trans x4
    refine ⟨a, xs, rfl, Evl.ex_l x24 h3, fun p hp => q _ _ ((x2.trans x24).trans (Evl.Ex.new hp)) ⟨p, _, rfl, Evl.fresh_back (x2.trans x24) hp, upd_same, cut_dp (dpa_mono (x24.trans (Evl.Ex.new hp)) _ _ h4)⟩⟩
theorem cutD_from (ds : List PyData) (n : Nat) : cutD ds (some (n : Int)) none = ds.drop n := by
  unfold cutD
  rw [HT.sIx_nat, HT.sIx_none]
  by_cases h : n ≤ ds.length
  · rw [Nat.min_eq_left h, List.take_of_length_le (by rw [List.length_drop]; exact Nat.le_refl _)]
  · rw [Nat.min_eq_right (by omega), List.drop_of_length_le (Nat.le_refl _), List.drop_of_length_le (by omega), List.take_nil]
theorem cutD_to (ds : List PyData) (n : Nat) : cutD ds none (some (n : Int)) = ds.take n := by
  unfold cutD
  rw [HT.sIx_nat, HT.sIx_none, List.drop_zero, Nat.sub_zero]
  by_cases h : n ≤ ds.length
  · rw [Nat.min_eq_left h]
  · rw [Nat.min_eq_right (by omega), List.take_of_length_le (Nat.le_refl _), List.take_of_length_le (by omega)]
/-! all but one list stays -/
def ExB (l : Addr) (H H' : Hp) : Prop := ∀ b o, b ≠ l → H b = some o → H' b = some o
theorem ExB.refl (l : Addr) (H : Hp) : ExB l H H := fun _ _ _ h => h
theorem ExB.trans {l : Addr} {H H1 H2 : Hp} (a : ExB l H H1) (b : ExB l H1 H2) : ExB l H H2 := fun c o n h => b c o n (a c o n h)
theorem ExB.ex {l : Addr} {H H1 : Hp} (a : Ex H H1) : ExB l H H1 := fun c o _ h => a c o h
theorem ExB.upd {l : Addr} {H H1 : Hp} {o : HO} (a : Ex H H1) : ExB l H (upd H1 l o) := fun c o n h => by rw [upd_ne n]; exact a c o h
theorem Ex.but {l : Addr} {H0 H H1 : Hp} (a : Ex H0 H) (n : H0 l = none) (b : ExB l H H1) : Ex H0 H1 := fun c o h => b c o (ne_of_none h n) (a c o h)
theorem ExB.up {l : Addr} {H H1 : Hp} {xs : List V} (a : ExB l H H1) (h : H l = some (.lst xs)) : Up H H1 :=
  ⟨fun c ys e => a c _ (fun q => by rw [q, h] at e; cases e) e, fun c o u e => a c _ (fun q => by rw [q, h] at e; cases e) e⟩
theorem ExB.sqT {l a : Addr} {H H1 : Hp} {xs ys : List V} (x : ExB l H H1) (h : H l = some (.lst xs)) (t : SqT K H a ys) : SqT K H1 a ys := (x.up h).sqT t
theorem noL_get : ∀ (es : List PyData) (i : Nat), noLs es = true → es[i]? = some d → noL d = true
  | [], i, _, e => by simp at e
  | c :: r, 0, n, e => by
    have n' : noL c = true ∧ noLs r = true := by simpa [noLs] using n
    simp at e; rw [← e]; exact n'.1
  | c :: r, i + 1, n, e => by
    have n' : noL c = true ∧ noLs r = true := by simpa [noLs] using n
    exact noL_get r i n'.2 (by simpa using e)
/-- what a turn of such a loop leaves -/
def LayS (K : PySem.W.Frag) (l : Addr) (H : Hp) (Pv : L2.St → Prop) (acc : List PyData) : L2.St → Hp → Prop := fun σ3 H3 => Pv σ3 ∧ ExB l H H3 ∧ ∃ ys, H3 l = some (.lst ys) ∧ DpAll K H3 ys acc
/-- over a list that the loop alone holds (made behind l) -/
theorem w_layN {l : Addr} {H0 : Hp} (h : EvN K tl σ H ds) (hn : noLs ds = true) (x0 : Ex H0 H) (l0 : H0 l = none) (acc : Nat → List PyData) (ha : ∀ i, noLs (acc i) = true) (l1 : ∃ ys, H l = some (.lst ys) ∧ DpAll K H ys (acc 0)) (Pv : Nat → L2.St → Prop) (p0 : Pv 0 σ)
    (hs : ∀ i d x σ' H' ys, ds[i]? = some d → Ex H0 H' → Dp K H' x d → Pv i σ' → H' l = some (.lst ys) → DpAll K H' ys (acc i) → g x σ' H' fun σ2 H2 => tu { D with nx := LayS K l H' (Pv (i + 1)) (acc (i + 1)), ct := LayS K l H' (Pv (i + 1)) (acc (i + 1)), bk := tz D } σ2 H2)
    (hd : ∀ σ' H' ys, Ex H0 H' → Pv ds.length σ' → H' l = some (.lst ys) → DpAll K H' ys (acc ds.length) → tz D σ' H') : tSeq (tFor (iList K tl) g tu) tz D σ H :=
  h H (Evl.Ex.refl H) _ fun v H1 x hv => by
    obtain ⟨p, xs, rfl, pn, h1, h2⟩ := hv
    obtain ⟨ys0, l1, d1⟩ := l1
    have pl : p ≠ l := fun e => by rw [e, l1] at pn; cases pn
    have hl := dpa_len h2
    refine ⟨p, rfl, ⟨xs, SqL.of h1⟩, fun i m σ' H' => m = xs.length - i ∧ i ≤ xs.length ∧ Ex H0 H' ∧ Pv i σ' ∧ H' p = some (.lst xs) ∧ DpAll K H' xs ds ∧ ∃ ys, H' l = some (.lst ys) ∧ DpAll K H' ys (acc i), ⟨xs.length, by simp, Nat.zero_le _, x0.trans x, p0, h1, h2, ys0, x _ _ l1, dpa_mono x _ _ d1⟩, ?_⟩
    rintro i m σ' H' ⟨rfl, hi, e0, pv, ep, ed, ys, el, ea⟩
    by_cases hlt : i < xs.length
    · refine .inr ⟨⟨xs, xs[i], SqL.of ep, by simp [hlt]⟩, LayS K l H' (Pv (i + 1)) (acc (i + 1)), fun σ3 H3 p3 => ?_, fun y H2 yy => ?_⟩
      · obtain ⟨p1, p2, p3⟩ := p3
        have u := p2.up el
        exact ⟨xs.length - (i + 1), by omega, rfl, hlt, e0.but l0 p2, p1, p2 _ _ pl ep, dpa_up u _ _ hn ed, p3⟩
      · obtain ⟨e2, yy⟩ := yy
        subst e2
        obtain ⟨d, hd', hdy⟩ := dpa_get ed (yy xs (SqL.of ep))
        exact hs i d y σ' _ ys hd' e0 hdy pv el ea
    · have e2 : i = xs.length := by omega
      subst e2
      rw [hl] at pv ea
      exact .inl ⟨⟨xs, SqL.of ep, Nat.le_refl _⟩, hd σ' H' ys e0 pv el ea⟩
/-- over a tuple -/
theorem w_layT {l : Addr} {H0 : Hp} (h : EvD K tl σ H (.tuple ds)) (hn : noLs ds = true) (x0 : Ex H0 H) (l0 : H0 l = none) (acc : Nat → List PyData) (ha : ∀ i, noLs (acc i) = true) (l1 : ∃ ys, H l = some (.lst ys) ∧ DpAll K H ys (acc 0)) (Pv : Nat → L2.St → Prop) (p0 : Pv 0 σ)
    (hs : ∀ i d x σ' H' ys, ds[i]? = some d → Ex H0 H' → Dp K H' x d → Pv i σ' → H' l = some (.lst ys) → DpAll K H' ys (acc i) → g x σ' H' fun σ2 H2 => tu { D with nx := LayS K l H' (Pv (i + 1)) (acc (i + 1)), ct := LayS K l H' (Pv (i + 1)) (acc (i + 1)), bk := tz D } σ2 H2)
    (hd : ∀ σ' H' ys, Ex H0 H' → Pv ds.length σ' → H' l = some (.lst ys) → DpAll K H' ys (acc ds.length) → tz D σ' H') : tSeq (tFor (iTup K tl) g tu) tz D σ H :=
  h H (Evl.Ex.refl H) _ fun v H1 x hv => by
    obtain ⟨p, xs, rfl, h1, h2⟩ := dp_tup.mp hv
    obtain ⟨ys0, l1, d1⟩ := l1
    have hl := dpa_len h2
    refine ⟨p, rfl, ⟨xs, h1⟩, fun i m σ' H' => m = xs.length - i ∧ i ≤ xs.length ∧ Ex H0 H' ∧ Pv i σ' ∧ SqT K H' p xs ∧ DpAll K H' xs ds ∧ ∃ ys, H' l = some (.lst ys) ∧ DpAll K H' ys (acc i), ⟨xs.length, by simp, Nat.zero_le _, x0.trans x, p0, h1, h2, ys0, x _ _ l1, dpa_mono x _ _ d1⟩, ?_⟩
    rintro i m σ' H' ⟨rfl, hi, e0, pv, ep, ed, ys, el, ea⟩
    by_cases hlt : i < xs.length
    · refine .inr ⟨⟨xs, xs[i], ep, by simp [hlt]⟩, LayS K l H' (Pv (i + 1)) (acc (i + 1)), fun σ3 H3 p3 => ?_, fun y H2 yy => ?_⟩
      · obtain ⟨p1, p2, p3⟩ := p3
        have u := p2.up el
        exact ⟨xs.length - (i + 1), by omega, rfl, hlt, e0.but l0 p2, p1, u.sqT ep, dpa_up u _ _ hn ed, p3⟩
      · obtain ⟨e2, yy⟩ := yy
        subst e2
        obtain ⟨d, hd', hdy⟩ := dpa_get ed (yy xs ep)
        exact hs i d y σ' _ ys hd' e0 hdy pv el ea
    · have e2 : i = xs.length := by omega
      subst e2
      rw [hl] at pv ea
      exact .inl ⟨⟨xs, ep, Nat.le_refl _⟩, hd σ' H' ys e0 pv el ea⟩
/-- l.append(e) at a turn's end -/
theorem w_lay {l : Addr} {i : Nat} {ys : List V} {acc acc' : List PyData} {H0 : Hp} {Pv : L2.St → Prop} (hi : σ[i]? = some (some (.ref l))) (he : EvD K te σ H d) (hb : ExB l H0 H) (hx : H l = some (.lst ys)) (hd : DpAll K H ys acc) (ha : noLs acc = true) (hn : noL d = true) (hl : acc.length < 100000) (e : acc' = acc ++ [d]) (hp : Pv σ) (k : ∀ σ' H', LayS K l H0 Pv acc' σ' H' → D.nx σ' H') : tDrop (tBM K "list" rAppend (tVar i) (tCons te tNil)) D σ H := by
  refine ⟨_, hi, .inl ⟨rfl, _, SqL.of hx⟩, he H (Evl.Ex.refl H) _ fun v H1 x hv => ⟨l, ys, v, rfl, rfl, x _ _ hx, Evl.sz_lt (by rw [dpa_len hd]; exact hl), k _ _ ⟨hp, hb.trans (ExB.upd x), ys ++ [v], upd_same, ?_⟩⟩⟩
  have u : Up H1 (upd H1 l (.lst (ys ++ [v]))) := Up.lst (x _ _ hx)
  rw [e]
  exact dpa_snoc (dpa_up u _ _ ha (dpa_mono x _ _ hd)) (dp_up u _ _ hn hv)
theorem i_SortTI {tr : TA} {K' : PySem.W.Frag} (h : EvD K (tCB (rSortTI K') tr) σ H d) : EvD K (tCB (rSortTI K') tr) σ H d := h
theorem i_SortTup {tr : TA} {K' : PySem.W.Frag} (h : EvD K (tCB (rSortTup K') tr) σ H d) : EvD K (tCB (rSortTup K') tr) σ H d := h
theorem i_CatA {K' : PySem.W.Frag} (h : RD K (rCatA K') d e z) : RD K (rCatA K') d e z := h
end

end Fy

namespace Fy
open PySem PySem.Spec PyProof.Rows L2
/-! ### crossings, in plain Lean -/
def climb (m : Nat) : Int → List Int → Bool
  | _, [] => true
  | last, t :: r => decide (last < t ∧ t < (m : Int)) && climb m t r
def standOk (m : Nat) (s : List Int × Int) : Bool := climb m (-1) s.1 && decide (s.2 = 0 ∨ s.2 = 1)
def bankOf (m : Nat) (s : List Int × Int) : List Int := if s.2 = 0 then s.1 else restOf s.1 m
def ledOver (s : List Int × Int) (c : List Int) : List Int × Int := if s.2 = 0 then (s.1.filter (fun t => !c.contains t), 1) else ((s.1 ++ c).mergeSort leZ, 0)
def stepF (room : Int) (f : List (List Int)) (t : Int) : List (List Int) := f ++ (f.filter fun g => decide ((g.length : Int) < room)).map fun g => g ++ [t]
def growF (room : Int) (bank : List Int) : List (List Int) := bank.foldl (stepF room) [[]]
def groupsOf (bank : List Int) (room : Int) : List (List Int) := ((growF room bank).mergeSort leI).drop 1
def rowsAt (ts : List (Int × Bool)) (t : Int) : Bool := (ts.getD t.toNat (0, false)).2
def paceAt (ts : List (Int × Bool)) (t : Int) : Int := (ts.getD t.toNat (0, false)).1
def canRow (ts : List (Int × Bool)) (c : List Int) : Bool := decide (0 < ((c.filter (rowsAt ts)).length : Int))
def Nt.good (n : Nt) (s : List Int × Int) : Bool := Fy.good n.quarrels s.1 n.things.length
def Nt.lets (n : Nt) (s : List Int × Int) (c : List Int) : Bool := canRow n.things c && n.good (ledOver s c)
def Nt.crews (n : Nt) (s : List Int × Int) : List (List Int) := (groupsOf (bankOf n.things.length s) n.room).filter (n.lets s)
def inThings (m : Nat) (g : List Int) : Prop := ∀ t ∈ g, 0 ≤ t ∧ t < (m : Int)
theorem climb_in {m : Nat} : ∀ {last : Int} {g : List Int}, -1 ≤ last → climb m last g = true → inThings m g
  | _, [], _, _ => fun t h => by cases h
  | last, x :: r, hl, h => by
    unfold climb at h
    simp only [Bool.and_eq_true, decide_eq_true_eq] at h
    intro t ht
    rcases List.mem_cons.mp ht with rfl | ht
    · omega
    · exact climb_in (by omega) h.2 t ht
theorem growF_len {room : Int} : ∀ (bank : List Int) (f : List (List Int)), (bank.foldl (stepF room) f).length ≤ f.length * 2 ^ bank.length
  | [], f => by simp
  | t :: r, f => by
    have h := growF_len (room := room) r (stepF room f t)
    have h2 : (stepF room f t).length ≤ f.length * 2 := by
      unfold stepF
      rw [List.length_append, List.length_map]
      have := List.length_filter_le (fun g : List Int => decide ((g.length : Int) < room)) f
      omega
    rw [List.foldl_cons, List.length_cons, Nat.pow_succ]
    refine Nat.le_trans h ?_
    rw [Nat.mul_comm (2 ^ r.length) 2, ← Nat.mul_assoc]
    exact Nat.mul_le_mul_right _ h2
theorem growF_items {room : Int} {m n : Nat} : ∀ (bank : List Int) (f : List (List Int)), inThings m bank → (∀ g ∈ f, inThings m g ∧ g.length ≤ n) → ∀ g ∈ bank.foldl (stepF room) f, inThings m g ∧ g.length ≤ n + bank.length
  | [], f, _, h => fun g hg => h g hg
  | t :: r, f, hb, h => fun g hg => by
    have q := growF_items (n := n + 1) r (stepF room f t) (fun x hx => hb x (List.mem_cons_of_mem _ hx)) (fun k hk => ?_) g (by simpa using hg)
    · rw [List.length_cons]; exact ⟨q.1, by omega⟩
    · unfold stepF at hk
      rcases List.mem_append.mp hk with hk | hk
      · exact ⟨(h k hk).1, by have := (h k hk).2; omega⟩
      · obtain ⟨k', hk', rfl⟩ := List.mem_map.mp hk
        have q := h k' (List.mem_filter.mp hk').1
        refine ⟨fun x hx => ?_, by rw [List.length_append, List.length_singleton]; omega⟩
        rcases List.mem_append.mp hx with hx | hx
        · exact q.1 x hx
        · rw [List.mem_singleton.mp hx]; exact hb t List.mem_cons_self
/-- the first stays the empty one -/
theorem growF_head {room : Int} : ∀ (bank : List Int) (f : List (List Int)), ∃ r, bank.foldl (stepF room) ([] :: f) = [] :: r
  | [], f => ⟨f, rfl⟩
  | t :: r, f => by
    obtain ⟨r', h⟩ := growF_head r (f ++ (([] :: f).filter fun g => decide ((g.length : Int) < room)).map fun g => g ++ [t])
    exact ⟨r', by rw [List.foldl_cons]; exact h⟩
theorem groupsOf_items {bank : List Int} {room : Int} {m : Nat} (h : inThings m bank) : ∀ c ∈ groupsOf bank room, inThings m c ∧ c.length ≤ bank.length := by
  intro c hc
  have h1 := List.mem_of_mem_drop hc
  have h2 := (List.mergeSort_perm _ _).mem_iff.mp h1
  have := growF_items (n := 0) bank [[]] h (fun g hg => by rw [List.mem_singleton.mp hg]; exact ⟨fun t ht => (nomatch ht), Nat.le_refl _⟩) c h2
  exact ⟨this.1, by have := this.2; omega⟩
theorem groupsOf_len {bank : List Int} {room : Int} : (groupsOf bank room).length ≤ 2 ^ bank.length := by
  unfold groupsOf
  rw [List.length_drop, List.length_mergeSort]
  have := growF_len (room := room) bank [[]]
  simp at this
  unfold growF
  omega
theorem restOf_in {g : List Int} {m : Nat} : inThings m (restOf g m) := fun t ht => by
  have := (List.mem_filter.mp ht).1
  exact mem_rng.mp this
theorem restOf_len {g : List Int} {m : Nat} : (restOf g m).length ≤ m := by
  unfold restOf
  have := List.length_filter_le (fun t => !g.contains t) (rng m)
  rw [rng_len] at this
  exact this
theorem bankOf_in {m : Nat} {s : List Int × Int} (h : inThings m s.1) : inThings m (bankOf m s) := by
  unfold bankOf
  split
  · exact h
  · exact restOf_in
theorem climb_len {m : Nat} : ∀ {last : Int} {g : List Int}, climb m last g = true → g = [] ∨ (g.length : Int) ≤ (m : Int) - 1 - last
  | _, [], _ => .inl rfl
  | last, x :: r, h => by
    unfold climb at h
    simp only [Bool.and_eq_true, decide_eq_true_eq] at h
    right
    rw [List.length_cons]
    rcases climb_len h.2 with rfl | q
    · simp; omega
    · omega
theorem standOk_in {m : Nat} {s : List Int × Int} (h : standOk m s = true) : inThings m s.1 ∧ s.1.length ≤ m := by
  unfold standOk at h
  rw [Bool.and_eq_true] at h
  refine ⟨climb_in (last := -1) (by decide) h.1, ?_⟩
  rcases climb_len h.1 with q | q
  · rw [q]; exact Nat.zero_le _
  · omega
theorem bankOf_len {m : Nat} {s : List Int × Int} (h : s.1.length ≤ m) : (bankOf m s).length ≤ m := by
  unfold bankOf
  split
  · exact h
  · exact restOf_len
theorem growF_il {room : Int} {n : Nat} : ∀ (bank : List Int) (f : List (List Int)), (∀ g ∈ f, g.length ≤ n) → ∀ g ∈ bank.foldl (stepF room) f, g.length ≤ n + bank.length
  | [], f, h => fun g hg => h g hg
  | t :: r, f, h => fun g hg => by
    have q := growF_il (n := n + 1) r (stepF room f t) (fun k hk => ?_) g (by simpa using hg)
    · rw [List.length_cons]; omega
    · unfold stepF at hk
      rcases List.mem_append.mp hk with hk | hk
      · have := h k hk; omega
      · obtain ⟨k', hk', rfl⟩ := List.mem_map.mp hk
        have q := h k' (List.mem_filter.mp hk').1
        rw [List.length_append, List.length_singleton]; omega
theorem growF_snoc {room : Int} {bank : List Int} {i : Nat} {t : Int} (h : bank[i]? = some t) : growF room (bank.take (i + 1)) = stepF room (growF room (bank.take i)) t := by
  unfold growF
  rw [take_snoc h, List.foldl_append]
  rfl

end Fy

namespace Fy
open PySem PySem.Spec PyProof.Rows L2
/-! ### the two ways to the crews are one -/
theorem toks_inj : ∀ {g k : List Int}, PySem.W.keyToksAll (g.map .int) = PySem.W.keyToksAll (k.map .int) → g = k
  | [], [], _ => rfl
  | [], x :: k, h => by rw [List.map_cons, PySem.W.toks_all_cons] at h; simp [PySem.W.keyToksAll] at h
  | x :: g, [], h => by rw [List.map_cons, PySem.W.toks_all_cons] at h; simp [PySem.W.keyToksAll] at h
  | x :: g, y :: k, h => by
    rw [List.map_cons, List.map_cons, PySem.W.toks_all_cons, PySem.W.toks_all_cons] at h
    simp [PySem.W.keyToks] at h
    rw [h.1, toks_inj h.2]
abbrev kO : PyProof.Rows.KeyOrd := PyProof.Rows.listOrd PyProof.Rows.itemOrd
theorem leI_eq (g k : List Int) : leI g k = !kO.blt (PySem.W.keyToks (eI k)) (PySem.W.keyToks (eI g)) := rfl
theorem keyToks_eI (g : List Int) : PySem.W.keyToks (eI g) = PySem.W.keyToksAll (g.map .int) := by simp only [eI, PySem.W.keyToks]
theorem leI_total (g k : List Int) : (leI g k || leI k g) = true := by
  rw [leI_eq, leI_eq]
  cases h : kO.blt (PySem.W.keyToks (eI k)) (PySem.W.keyToks (eI g)) with
  | false => rfl
  | true =>
    cases h2 : kO.blt (PySem.W.keyToks (eI g)) (PySem.W.keyToks (eI k)) with
    | false => rfl
    | true =>
      have := kO.trans _ _ _ h h2
      rw [kO.irrefl] at this
      cases this
theorem leI_trans (a b c : List Int) (h1 : leI a b = true) (h2 : leI b c = true) : leI a c = true := by
  rw [leI_eq, Bool.not_eq_true'] at h1 h2 ⊢
  cases h : kO.blt (PySem.W.keyToks (eI c)) (PySem.W.keyToks (eI a)) with
  | false => rfl
  | true =>
    rcases kO.negTrans _ (PySem.W.keyToks (eI b)) _ h with q | q
    · rw [h2] at q; cases q
    · rw [h1] at q; cases q
theorem leI_anti {a b : List Int} (h1 : leI a b = true) (h2 : leI b a = true) : a = b := by
  rw [leI_eq, Bool.not_eq_true'] at h1 h2
  have := kO.total _ _ h2 h1
  rw [keyToks_eI, keyToks_eI] at this
  exact toks_inj this
theorem leI_nil (g : List Int) : leI [] g = true := by
  rw [leI_eq, keyToks_eI, keyToks_eI, Bool.not_eq_true']
  cases g with
  | nil => exact kO.irrefl _
  | cons x g =>
    have h : kO.blt (PySem.W.keyToksAll ([].map .int)) (PySem.W.keyToksAll ((x :: g).map .int)) = true := by
      show PyProof.Rows.lexLt PyProof.Rows.itemOrd _ _ = true
      rw [List.map_cons, PySem.W.toks_all_cons]
      simp only [List.map_nil, PySem.W.keyToksAll]
      rw [PyProof.Rows.lex_diff (O := PyProof.Rows.itemOrd) (by simp)]
      rfl
    cases h2 : kO.blt (PySem.W.keyToksAll ((x :: g).map .int)) (PySem.W.keyToksAll ([].map .int)) with
    | false => rfl
    | true =>
      have := kO.trans _ _ _ h h2
      rw [kO.irrefl] at this
      cases this
theorem sort_pw (L : List (List Int)) : (L.mergeSort leI).Pairwise (fun a b => leI a b = true) := List.pairwise_mergeSort leI_trans leI_total L
theorem sort_uniq {A B : List (List Int)} (p : A.Perm B) (ha : A.Pairwise (fun a b => leI a b = true)) (hb : B.Pairwise (fun a b => leI a b = true)) : A = B :=
  p.eq_of_pairwise (fun a b _ _ h1 h2 => leI_anti h1 h2) ha hb
theorem sort_perm {A B : List (List Int)} (p : A.Perm B) : A.mergeSort leI = B.mergeSort leI :=
  sort_uniq ((List.mergeSort_perm A leI).trans (p.trans (List.mergeSort_perm B leI).symm)) (sort_pw A) (sort_pw B)
theorem sort_filter (A : List (List Int)) (p : List Int → Bool) : (A.mergeSort leI).filter p = (A.filter p).mergeSort leI :=
  sort_uniq (((List.mergeSort_perm A leI).filter p).trans (List.mergeSort_perm (A.filter p) leI).symm) ((sort_pw A).filter p) (sort_pw _)
theorem sort_nil (r : List (List Int)) : ([] :: r).mergeSort leI = [] :: r.mergeSort leI :=
  sort_uniq ((List.mergeSort_perm ([] :: r) leI).trans (List.Perm.cons _ (List.mergeSort_perm r leI).symm)) (sort_pw _) (List.pairwise_cons.mpr ⟨fun g _ => leI_nil g, sort_pw r⟩)
/-! subsets -/
theorem sub_one {α : Type} {l : List α} {t : α} (h : l.Sublist [t]) : l = [] ∨ l = [t] := by
  cases h with
  | cons _ h => exact .inl (List.sublist_nil.mp h)
  | cons_cons _ h => exact .inr (by rw [List.sublist_nil.mp h])
theorem growF_mem {room : Int} {bank : List Int} {c : List Int} : ∀ i, i ≤ bank.length → (c ∈ growF room (bank.take i) ↔ c.Sublist (bank.take i) ∧ (c = [] ∨ (c.length : Int) ≤ room)) := by
  intro i
  induction i generalizing c with
  | zero =>
    intro _
    rw [List.take_zero]
    constructor
    · intro h
      have : c = [] := List.mem_singleton.mp h
      rw [this]; exact ⟨List.Sublist.refl _, .inl rfl⟩
    · rintro ⟨h, _⟩
      rw [List.sublist_nil.mp h]; exact List.mem_singleton.mpr rfl
  | succ i ih =>
    intro hi
    have ht : bank[i]? = some bank[i] := List.getElem?_eq_getElem (by omega)
    rw [growF_snoc ht, take_snoc ht]
    unfold stepF
    rw [List.mem_append]
    constructor
    · rintro (h | h)
      · obtain ⟨h1, h2⟩ := (ih (by omega)).mp h
        exact ⟨h1.trans (List.sublist_append_left _ _), h2⟩
      · obtain ⟨g, hg, rfl⟩ := List.mem_map.mp h
        obtain ⟨hg, hl⟩ := List.mem_filter.mp hg
        obtain ⟨h1, _⟩ := (ih (by omega)).mp hg
        refine ⟨h1.append (List.Sublist.refl _), .inr ?_⟩
        have := of_decide_eq_true hl
        rw [List.length_append, List.length_singleton]
        omega
    · rintro ⟨h1, h2⟩
      obtain ⟨l1, l2, rfl, h3, h4⟩ := List.sublist_append_iff.mp h1
      rcases sub_one h4 with rfl | rfl
      · left
        rw [List.append_nil] at h2 ⊢
        exact (ih (by omega)).mpr ⟨h3, h2⟩
      · right
        rcases h2 with h2 | h2
        · simp at h2
        · rw [List.length_append, List.length_singleton] at h2
          exact List.mem_map.mpr ⟨l1, List.mem_filter.mpr ⟨(ih (by omega)).mpr ⟨h3, .inr (by omega)⟩, decide_eq_true (by omega)⟩, rfl⟩
theorem growF_iff {room : Int} {bank c : List Int} : c ∈ growF room bank ↔ c.Sublist bank ∧ (c = [] ∨ (c.length : Int) ≤ room) := by
  have := growF_mem (room := room) (bank := bank) (c := c) bank.length (Nat.le_refl _)
  rwa [List.take_length] at this
theorem growF_nodup {room : Int} {bank : List Int} (hn : bank.Nodup) : ∀ i, i ≤ bank.length → (growF room (bank.take i)).Nodup := by
  intro i
  induction i with
  | zero => intro _; rw [List.take_zero]; show [([] : List Int)].Nodup; simp
  | succ i ih =>
    intro hi
    have ht : bank[i]? = some bank[i] := List.getElem?_eq_getElem (by omega)
    rw [growF_snoc ht]
    unfold stepF
    have nd := ih (by omega)
    refine List.nodup_append.mpr ⟨nd, ?_, fun a ha b hb e => ?_⟩
    · rw [List.nodup_iff_pairwise_ne, List.pairwise_map]
      have h2 := (List.nodup_iff_pairwise_ne.mp nd).filter (fun g => decide ((g.length : Int) < room))
      exact h2.imp fun {x y} h e => h (List.append_cancel_right e)
    · subst e
      obtain ⟨g, hg, e⟩ := List.mem_map.mp hb
      have h1 := ((growF_mem i (by omega)).mp ha).1
      have hm : bank[i] ∈ bank.take i := h1.subset (by rw [← e]; simp)
      obtain ⟨j, hj, ej⟩ := List.mem_iff_getElem.mp hm
      rw [List.getElem_take] at ej
      rw [List.length_take] at hj
      have := (List.nodup_iff_pairwise_ne.mp hn)
      have hlt : j < i := by omega
      exact (List.pairwise_iff_getElem.mp this j i (by omega) (by omega) hlt) ej
/-! bits -/
theorem bits_mod {x y : Int} {m : Nat} (h : ∀ i < m, x / 2 ^ i % 2 = y / 2 ^ i % 2) : bitsL x m = bitsL y m := by
  unfold bitsL
  refine List.filter_congr fun t ht => ?_
  have := mem_rng.mp ht
  rw [h t.toNat (by omega)]
theorem pow_add_bit {x : Int} {i m : Nat} (h : i < m) : (x + 2 ^ m) / 2 ^ i % 2 = x / 2 ^ i % 2 := by
  obtain ⟨k, rfl⟩ : ∃ k, m = k + 1 + i := ⟨m - i - 1, by omega⟩
  rw [Int.pow_add, Int.add_mul_ediv_right _ _ (Int.ne_of_gt (Int.pow_pos (by decide))), Int.pow_succ, Int.add_mul_emod_self_right]
theorem groups_mem {m : Nat} {c : List Int} : (∃ x : Nat, x < 2 ^ m ∧ bitsL x m = c) ↔ c.Sublist (rng m) := by
  constructor
  · rintro ⟨x, _, rfl⟩
    exact List.filter_sublist
  · induction m generalizing c with
    | zero =>
      intro h
      have : c = [] := List.sublist_nil.mp h
      exact ⟨0, by decide, by rw [this]; rfl⟩
    | succ m ih =>
      intro h
      rw [rng_succ] at h
      obtain ⟨l1, l2, rfl, h3, h4⟩ := List.sublist_append_iff.mp h
      obtain ⟨x, hx, e⟩ := ih h3
      have hp : ((2 ^ m : Nat) : Int) = (2 : Int) ^ m := by rw [Int.natCast_pow]; rfl
      have hx' : (x : Int) < 2 ^ m := by rw [← hp]; exact Int.ofNat_lt.mpr hx
      have e0 : (x : Int) / 2 ^ m = 0 := Int.ediv_eq_zero_of_lt (Int.natCast_nonneg _) hx'
      rcases sub_one h4 with rfl | rfl
      · refine ⟨x, by rw [Nat.pow_succ]; omega, ?_⟩
        rw [bitsL_succ, e, e0, if_neg (by decide)]
      · refine ⟨x + 2 ^ m, by rw [Nat.pow_succ]; omega, ?_⟩
        have ec : ((x + 2 ^ m : Nat) : Int) = (x : Int) + 2 ^ m := by rw [Int.natCast_add, hp]
        rw [ec, bitsL_succ, bits_mod (y := (x : Int)) (fun i hi => pow_add_bit hi), e]
        have e1 : ((x : Int) + 2 ^ m) / 2 ^ m % 2 = 1 := by
          rw [Int.add_ediv_of_dvd_right (Int.dvd_refl _), e0, Int.ediv_self (Int.ne_of_gt (Int.pow_pos (by decide)))]
          rfl
        rw [if_pos e1]
def decI (c : List Int) : Nat := (c.map fun t => 2 ^ t.toNat).sum
theorem dec_bits (x m : Nat) : decI (bitsL x m) = x % 2 ^ m := by
  induction m with
  | zero => simp [bitsL, rng, decI, Nat.mod_one]
  | succ m ih =>
    have hp : ((2 ^ m : Nat) : Int) = (2 : Int) ^ m := by rw [Int.natCast_pow]; rfl
    have e : ((x : Int) / 2 ^ m % 2 = 1) ↔ x / 2 ^ m % 2 = 1 := by
      rw [← hp]
      omega
    rw [bitsL_succ, Nat.pow_succ, Nat.mod_mul]
    unfold decI at ih ⊢
    rw [List.map_append, List.sum_append, ih]
    congr 1
    by_cases h : x / 2 ^ m % 2 = 1
    · rw [if_pos (e.mpr h), h]; simp
    · rw [if_neg (fun q => h (e.mp q)), show x / 2 ^ m % 2 = 0 by omega]; simp
theorem groups_nodup (m : Nat) : (groups m).Nodup := by
  unfold groups
  rw [List.nodup_iff_pairwise_ne, List.pairwise_map]
  have h := List.nodup_range (n := 2 ^ m)
  rw [List.nodup_iff_pairwise_ne, List.pairwise_iff_getElem] at h
  rw [List.pairwise_iff_getElem]
  intro i j hi hj hij e
  have d := congrArg decI e
  rw [dec_bits, dec_bits] at d
  simp only [List.getElem_range, List.length_range] at d hi hj
  rw [Nat.mod_eq_of_lt hi, Nat.mod_eq_of_lt hj] at d
  omega
theorem groups_iff {m : Nat} {c : List Int} : c ∈ groups m ↔ c.Sublist (rng m) := by
  rw [← groups_mem]
  unfold groups
  rw [List.mem_map]
  constructor
  · rintro ⟨x, hx, e⟩; exact ⟨x, List.mem_range.mp hx, e⟩
  · rintro ⟨x, hx, e⟩; exact ⟨x, List.mem_range.mpr hx, e⟩
/-! a group in order is a part of rng m -/
theorem climb_filter {m : Nat} : ∀ {k : Nat} {last : Int} {g : List Int}, climb m last g = true → -1 ≤ last → (k : Int) = last + 1 → ∀ n, k + n = m → g = ((List.range n).map fun i : Nat => ((k + i : Nat) : Int)).filter fun t => g.contains t := by
  intro k last g h hl hk n
  induction n generalizing k last g with
  | zero =>
    intro hn
    cases g with
    | nil => rfl
    | cons x r =>
      unfold climb at h
      simp only [Bool.and_eq_true, decide_eq_true_eq] at h
      omega
  | succ n ih =>
    intro hn
    have er : ((List.range (n + 1)).map fun i : Nat => ((k + i : Nat) : Int)) = (k : Int) :: ((List.range n).map fun i : Nat => (((k + 1) + i : Nat) : Int)) := by
      rw [List.range_succ_eq_map, List.map_cons, List.map_map]
      congr 1
      exact List.map_congr_left fun i _ => by show ((k + (i + 1) : Nat) : Int) = _; congr 1; omega
    rw [er]
    cases g with
    | nil => simp
    | cons x r =>
      have h' := h
      unfold climb at h
      simp only [Bool.and_eq_true, decide_eq_true_eq] at h
      by_cases hx : x = (k : Int)
      · subst hx
        rw [List.filter_cons, if_pos (by simp)]
        congr 1
        have q := ih (k := k + 1) h.2 (by omega) (by omega) (by omega)
        rw [q]
        refine List.filter_congr fun t ht => ?_
        obtain ⟨i, _, rfl⟩ := List.mem_map.mp ht
        rw [← q, List.contains_cons]
        have : ((((k + 1) + i : Nat) : Int) == (k : Int)) = false := by rw [beq_eq_false_iff_ne]; omega
        rw [this, Bool.false_or]
      · have nk : (x :: r).contains (k : Int) = false := by
          rw [← Bool.not_eq_true, List.contains_iff_mem]
          intro hm
          rcases List.mem_cons.mp hm with e | e
          · exact hx e.symm
          · have : ∀ {l : Int} {q : List Int}, climb m l q = true → ∀ t ∈ q, l < t := by
              intro l q
              induction q generalizing l with
              | nil => intro _ t ht; cases ht
              | cons y q ih =>
                intro hq t ht
                unfold climb at hq
                simp only [Bool.and_eq_true, decide_eq_true_eq] at hq
                rcases List.mem_cons.mp ht with rfl | ht
                · exact hq.1.1
                · have := ih hq.2 t ht; omega
            have := this h.2 _ e
            omega
        rw [List.filter_cons, if_neg (by rw [nk]; exact Bool.false_ne_true)]
        exact ih (k := k + 1) (last := (k : Int)) (by unfold climb; simp only [Bool.and_eq_true, decide_eq_true_eq]; exact ⟨⟨by omega, h.1.2⟩, h.2⟩) (by omega) (by omega) (by omega)
theorem climb_rng {m : Nat} {g : List Int} (h : climb m (-1) g = true) : g = (rng m).filter fun t => g.contains t := by
  have := climb_filter (k := 0) h (by decide) (by decide) m (by omega)
  have e : (List.range m).map (fun i : Nat => ((0 + i : Nat) : Int)) = rng m := List.map_congr_left fun i _ => by rw [Nat.zero_add]
  rw [e] at this
  exact this
theorem climb_sub {m : Nat} {g : List Int} (h : climb m (-1) g = true) : g.Sublist (rng m) := by rw [climb_rng h]; exact List.filter_sublist
theorem rest_sub {m : Nat} {g : List Int} : (restOf g m).Sublist (rng m) := List.filter_sublist
theorem sub_self {m : Nat} {g : List Int} (h : g.Sublist (rng m)) : g = (rng m).filter fun t => g.contains t := by
  have nd := (rng_nodup m)
  have h1 : g.Sublist ((rng m).filter fun t => g.contains t) := by
    have := h.filter (fun t => g.contains t)
    rwa [List.filter_eq_self.mpr (fun a ha => by simpa using ha)] at this
  have h2 : ((rng m).filter fun t => g.contains t).Perm g := (List.perm_ext_iff_of_nodup (nd.filter _) (nd.sublist h)).mpr fun a => by
    rw [List.mem_filter]
    constructor
    · rintro ⟨_, h⟩; simpa using h
    · intro ha; exact ⟨h.subset ha, by simpa using ha⟩
  exact h1.eq_of_length_le (Nat.le_of_eq h2.length_eq)
theorem sub_iff {m : Nat} {c b : List Int} (hb : b.Sublist (rng m)) : c.Sublist b ↔ c.Sublist (rng m) ∧ ∀ t ∈ c, t ∈ b := by
  constructor
  · intro h; exact ⟨h.trans hb, fun t ht => h.subset ht⟩
  · rintro ⟨h1, h2⟩
    have := h1.filter (fun t => b.contains t)
    rw [List.filter_eq_self.mpr (fun a ha => by simpa using h2 a ha), ← sub_self hb] at this
    exact this
/-! what the law reckons -/
def behind (s : List Int × Int) (c : List Int) (m : Nat) : List Int × Int := if s.2 = 0 then (s.1.filter (fun t => !c.contains t), 1) else ((rng m).filter (fun t => s.1.contains t || c.contains t), 0)
def lawBank (m : Nat) (s : List Int × Int) : List Int := if s.2 = 1 then restOf s.1 m else s.1
def Nt.lawLets (n : Nt) (s : List Int × Int) (c : List Int) : Bool :=
  (decide (1 ≤ (c.length : Int)) && decide ((c.length : Int) ≤ n.room)) && decide (((c.filter fun t => !(lawBank n.things.length s).contains t).length : Int) = 0) && (decide (0 < ((c.filter (rowsAt n.things)).length : Int)) && Fy.good n.quarrels (behind s c n.things.length).1 n.things.length)
def Nt.lawCrews (n : Nt) (s : List Int × Int) : List (List Int) := ((groups n.things.length).filter (n.lawLets s)).mergeSort leI
theorem bank_eq {m : Nat} {s : List Int × Int} (h : standOk m s = true) : lawBank m s = bankOf m s := by
  unfold standOk at h
  rw [Bool.and_eq_true] at h
  have h2 := of_decide_eq_true h.2
  unfold lawBank bankOf
  rcases h2 with e | e
  · rw [if_neg (by omega), if_pos e]
  · rw [if_pos e, if_neg (by omega)]
theorem bank_sub {m : Nat} {s : List Int × Int} (h : standOk m s = true) : (bankOf m s).Sublist (rng m) := by
  unfold standOk at h
  rw [Bool.and_eq_true] at h
  unfold bankOf
  split
  · exact climb_sub h.1
  · exact rest_sub
theorem leZ_total (g k : Int) : (leZ g k || leZ k g) = true := by simp [leZ]; omega
theorem leZ_trans (a b c : Int) (h1 : leZ a b = true) (h2 : leZ b c = true) : leZ a c = true := by simp [leZ] at *; omega
theorem rng_pw (m : Nat) : (rng m).Pairwise (fun a b => leZ a b = true) := by
  unfold rng
  rw [List.pairwise_map]
  have : (List.range m).Pairwise (· < ·) := List.pairwise_lt_range
  exact this.imp fun {a b} h => by simp [leZ]; omega
/-- the standing behind a crossing -/
theorem led_eq {m : Nat} {s : List Int × Int} {c : List Int} (h : standOk m s = true) (hc : c.Sublist (bankOf m s)) : ledOver s c = behind s c m := by
  unfold ledOver behind
  by_cases e : s.2 = 0
  · rw [if_pos e, if_pos e]
  · rw [if_neg e, if_neg e]
    have hb : bankOf m s = restOf s.1 m := by unfold bankOf; rw [if_neg e]
    rw [hb] at hc
    have hs : s.1.Sublist (rng m) := by unfold standOk at h; rw [Bool.and_eq_true] at h; exact climb_sub h.1
    have ndr := rng_nodup m
    have hp : (s.1 ++ c).Perm ((rng m).filter fun t => s.1.contains t || c.contains t) := by
      refine (List.perm_ext_iff_of_nodup ?_ (ndr.filter _)).mpr fun a => ?_
      · refine List.nodup_append.mpr ⟨ndr.sublist hs, ndr.sublist (hc.trans rest_sub), fun a ha b hb' e2 => ?_⟩
        subst e2
        have := (List.mem_filter.mp (hc.subset hb')).2
        simp at this
        exact this ha
      · rw [List.mem_append, List.mem_filter]
        simp only [Bool.or_eq_true, List.contains_iff_mem]
        constructor
        · rintro (ha | ha)
          · exact ⟨hs.subset ha, .inl ha⟩
          · exact ⟨rest_sub.subset (hc.subset ha), .inr ha⟩
        · exact fun q => q.2
    have q : (s.1 ++ c).mergeSort leZ = (rng m).filter fun t => s.1.contains t || c.contains t :=
      ((List.mergeSort_perm _ leZ).trans hp).eq_of_pairwise (fun a b _ _ h1 h2 => by simp [leZ] at h1 h2; omega) (List.pairwise_mergeSort leZ_trans leZ_total _) ((rng_pw m).filter _)
    rw [q]
theorem crews_eq {n : Nt} {s : List Int × Int} (h : standOk n.things.length s = true) : n.crews s = n.lawCrews s := by
  have hb := bank_sub h
  have ndb := (rng_nodup n.things.length).sublist hb
  obtain ⟨r, hr⟩ := growF_head (room := n.room) (bankOf n.things.length s) []
  have hr' : growF n.room (bankOf n.things.length s) = [] :: r := hr
  have nd : (growF n.room (bankOf n.things.length s)).Nodup := by
    have := growF_nodup (room := n.room) ndb _ (Nat.le_refl _)
    rwa [List.take_length] at this
  rw [hr', List.nodup_cons] at nd
  unfold Nt.crews Nt.lawCrews groupsOf
  rw [hr', sort_nil, List.drop_one, List.tail_cons, sort_filter]
  refine sort_perm ((List.perm_ext_iff_of_nodup (nd.2.filter _) ((groups_nodup _).filter _)).mpr fun c => ?_)
  rw [List.mem_filter, List.mem_filter, groups_iff]
  have mr : c ∈ r ↔ c ≠ [] ∧ c.Sublist (bankOf n.things.length s) ∧ (c.length : Int) ≤ n.room := by
    have q := growF_iff (room := n.room) (bank := bankOf n.things.length s) (c := c)
    rw [hr', List.mem_cons] at q
    constructor
    · intro hc
      have ne : c ≠ [] := fun e => nd.1 (by rw [← e]; exact hc)
      obtain ⟨q1, q2⟩ := q.mp (.inr hc)
      rcases q2 with q2 | q2
      · exact absurd q2 ne
      · exact ⟨ne, q1, q2⟩
    · rintro ⟨ne, h1, h2⟩
      rcases q.mpr ⟨h1, .inr h2⟩ with e | e
      · exact absurd e ne
      · exact e
  rw [mr, sub_iff hb]
  have ef : (((c.filter fun t => !(lawBank n.things.length s).contains t).length : Int) = 0) ↔ ∀ t ∈ c, t ∈ bankOf n.things.length s := by
    rw [bank_eq h]
    have : ((c.filter fun t => !(bankOf n.things.length s).contains t).length : Int) = 0 ↔ c.filter (fun t => !(bankOf n.things.length s).contains t) = [] := by
      rw [← List.length_eq_zero_iff]; omega
    rw [this, List.filter_eq_nil_iff]
    simp
  have el : (1 ≤ (c.length : Int)) ↔ c ≠ [] := by
    rw [← List.length_pos_iff]; omega
  constructor
  · rintro ⟨⟨h1, ⟨h2, h3⟩, h4⟩, h5⟩
    refine ⟨h2, ?_⟩
    unfold Nt.lets canRow Nt.good at h5
    unfold Nt.lawLets
    rw [led_eq h ((sub_iff hb).mpr ⟨h2, h3⟩)] at h5
    rw [h5, decide_eq_true (el.mpr h1), decide_eq_true h4, decide_eq_true (ef.mpr h3)]
    rfl
  · rintro ⟨h2, h5⟩
    unfold Nt.lawLets at h5
    rw [Bool.and_eq_true, Bool.and_eq_true, Bool.and_eq_true] at h5
    obtain ⟨⟨⟨h1, h4⟩, h3⟩, h6⟩ := h5
    have h3' := ef.mp (of_decide_eq_true h3)
    refine ⟨⟨el.mp (of_decide_eq_true h1), ⟨h2, h3'⟩, of_decide_eq_true h4⟩, ?_⟩
    unfold Nt.lets canRow Nt.good
    rw [led_eq h ((sub_iff hb).mpr ⟨h2, h3'⟩)]
    exact h6

end Fy

namespace Fy
open PySem PySem.Spec PyProof.Rows L2
/-! ### crossings: promises and readings -/
theorem atI_map {α : Type} {f : α → PyData} {xs : List α} {d : α} {t : Int} (h0 : 0 ≤ t) (h1 : t < xs.length) : atI (xs.map f) t = some (f (xs.getD t.toNat d)) := by
  have e : t = ((t.toNat : Nat) : Int) := by omega
  have hk : t.toNat < xs.length := by omega
  rw [e]
  refine atI_nat ?_
  rw [List.getElem?_map, List.getElem?_eq_getElem hk, List.getD_eq_getElem?_getD, show ((t.toNat : Int)).toNat = t.toNat by omega, List.getElem?_eq_getElem hk]
  rfl
/-- a night and a datum -/
def spNS (K : PySem.W.Frag) {β : Type} (enc : β → PyData) (dom : Nt → β → Prop) (out : Nt → β → PyData) : Sp := fun vs H Q _ => ∃ v n u b, vs = [v, u] ∧ NightAt K H v n ∧ Dp K H u (enc b) ∧ dom n b ∧ RetR (fun v H' => Dp K H' v (out n b)) H Q
def few (n : Nt) : Prop := n.things.length ≤ 1000
def spPeaceful (K : PySem.W.Frag) : Sp := spNS K eS (fun n _ => few n) (fun n s => .bool (n.good s))
def spBeside (K : PySem.W.Frag) : Sp := spNS K eS (fun n _ => few n) (fun n s => eI (bankOf n.things.length s))
def spCanRow (K : PySem.W.Frag) : Sp := spNS K eI (fun n c => few n ∧ inThings n.things.length c ∧ c.length ≤ 1000) (fun n c => .bool (canRow n.things c))
def spLed (K : PySem.W.Frag) : Sp := spP K (fun x : (List Int × Int) × List Int => x.1.1.length ≤ 1000 ∧ x.2.length ≤ 1000) (fun x => [eS x.1, eI x.2]) (fun x => eS (ledOver x.1 x.2))
def spGroupsOf (K : PySem.W.Frag) : Sp := spL K (fun x : List Int × Int => x.1.length ≤ 6) (fun x => [eI x.1, .int x.2]) (fun x => (groupsOf x.1 x.2).map eI)
def spLook (K : PySem.W.Frag) : Sp := fun vs H Q E => ∃ v n u s, vs = [v, u] ∧ NightAt K H v n ∧ Dp K H u (eS s) ∧ few n ∧ (standOk n.things.length s = true → ∀ H', Ex H H' → Q .non H') ∧ (standOk n.things.length s = false → ∀ H', Ex H H' → E (.ref (He.ga K "NoStanding")) none H')
def spGoodX (K : PySem.W.Frag) : Sp := fun vs H Q E => ∃ v n u s, vs = [v, u] ∧ NightAt K H v n ∧ Dp K H u (eS s) ∧ few n ∧ (standOk n.things.length s = true → ∀ H', Ex H H' → Q (.bl (n.good s)) H') ∧ (standOk n.things.length s = false → ∀ H', Ex H H' → E (.ref (He.ga K "NoStanding")) none H')
def spStart (K : PySem.W.Frag) : Sp := fun vs H Q E => ∃ v n u s, vs = [v, u] ∧ NightAt K H v n ∧ Dp K H u (eS s) ∧ few n ∧ (standOk n.things.length s = true → n.good s = true → ∀ H', Ex H H' → Q .non H') ∧
  (standOk n.things.length s = false → ∀ H', Ex H H' → E (.ref (He.ga K "NoStanding")) none H') ∧ (standOk n.things.length s = true → n.good s = false → ∀ H', Ex H H' → E (.ref (He.ga K "BadStart")) none H')
def spCrews (K : PySem.W.Frag) : Sp := fun vs H Q E => ∃ v n u s, vs = [v, u] ∧ NightAt K H v n ∧ Dp K H u (eS s) ∧ n.things.length ≤ 6 ∧ (standOk n.things.length s = true → n.good s = true → RetR (fun v H' => NewL K H v H' ((n.crews s).map eI)) H Q) ∧
  (standOk n.things.length s = false → ∀ H', Ex H H' → E (.ref (He.ga K "NoStanding")) none H') ∧ (standOk n.things.length s = true → n.good s = false → ∀ H', Ex H H' → E (.ref (He.ga K "BadStart")) none H')
section
variable {K : PySem.W.Frag} {σ : L2.St} {H : Hp} {ta tb tc : TE} {E : XK} {i j : Nat} {v u : V} {n : Nt} {s : List Int × Int} {c : List Int} {D : Ends} {tz : TS}
theorem ed_ns {β : Type} {enc : β → PyData} {dom : Nt → β → Prop} {out : Nt → β → PyData} {b : β} (hi : σ[i]? = some (some v)) (hN : NightAt K H v n) (hb : EvD K tb σ H (enc b)) (hd : dom n b) : EvD K (tCall (spNS K enc dom out) [] E (tCons (tVar i) (tCons tb tNil))) σ H (out n b) := fun H1 x Q q =>
  ⟨v, hi, hb H1 x _ fun u H2 x2 h2 => ⟨v, n, u, b, rfl, hN.mono (x.trans x2), h2, hd, fun w H3 x3 h3 => q w H3 (x2.trans x3) h3⟩⟩
theorem ed_peaceful (hi : σ[i]? = some (some v)) (hN : NightAt K H v n) (hb : EvD K tb σ H (eS s)) (hd : few n) : EvD K (tCall (spPeaceful K) [] E (tCons (tVar i) (tCons tb tNil))) σ H (.bool (n.good s)) := ed_ns hi hN hb hd
theorem ed_beside (hi : σ[i]? = some (some v)) (hN : NightAt K H v n) (hb : EvD K tb σ H (eS s)) (hd : few n) : EvD K (tCall (spBeside K) [] E (tCons (tVar i) (tCons tb tNil))) σ H (eI (bankOf n.things.length s)) := ed_ns hi hN hb hd
theorem ed_canRow (hi : σ[i]? = some (some v)) (hN : NightAt K H v n) (hb : EvD K tb σ H (eI c)) (hd : few n ∧ inThings n.things.length c ∧ c.length ≤ 1000) : EvD K (tCall (spCanRow K) [] E (tCons (tVar i) (tCons tb tNil))) σ H (.bool (canRow n.things c)) := ed_ns hi hN hb hd
theorem ed_led (h1 : EvD K ta σ H (eS s)) (h2 : EvD K tb σ H (eI c)) (h0 : s.1.length ≤ 1000 ∧ c.length ≤ 1000) : EvD K (tCall (spLed K) [] E (tCons ta (tCons tb tNil))) σ H (eS (ledOver s c)) :=
  ed_call (x := (s, c)) h0 (eds_cons h1 (eds_cons h2 eds_nil))
theorem en_groupsOf {r : Int} (h1 : EvD K ta σ H (eI c)) (h2 : EvD K tb σ H (.int r)) (h0 : c.length ≤ 6) : EvN K (tCall (spGroupsOf K) [] E (tCons ta (tCons tb tNil))) σ H ((groupsOf c r).map eI) :=
  en_call (x := (c, r)) h0 (eds_cons h1 (eds_cons h2 eds_nil))
theorem ed_goodX (hi : σ[i]? = some (some v)) (hN : NightAt K H v n) (hb : EvD K tb σ H (eS s)) (hd : few n) (ok : standOk n.things.length s = true) : EvD K (tCall (spGoodX K) [] E (tCons (tVar i) (tCons tb tNil))) σ H (.bool (n.good s)) := fun H1 x Q q =>
  ⟨v, hi, hb H1 x _ fun u H2 x2 h2 => ⟨v, n, u, s, rfl, hN.mono (x.trans x2), h2, hd, fun _ H3 x3 => q _ H3 (x2.trans x3) (.bl _), fun c => by rw [ok] at c; cases c⟩⟩
theorem en_crews (hi : σ[i]? = some (some v)) (hN : NightAt K H v n) (hb : EvD K tb σ H (eS s)) (hd : n.things.length ≤ 6) (ok : standOk n.things.length s = true) (gd : n.good s = true) : EvN K (tCall (spCrews K) [] E (tCons (tVar i) (tCons tb tNil))) σ H ((n.crews s).map eI) := fun H1 x Q q =>
  ⟨v, hi, hb H1 x _ fun u H2 x2 h2 => ⟨v, n, u, s, rfl, hN.mono (x.trans x2), h2, hd, fun _ _ w H3 x3 h3 => q w H3 (x2.trans x3) (h3.back x2), fun c => absurd (ok.symm.trans c) (by decide), fun _ c => absurd (gd.symm.trans c) (by decide)⟩⟩
theorem w_callSv {sp : Sp} {F : L2.St → XK} (hi : σ[i]? = some (some v)) (hj : σ[j]? = some (some u)) (k : sp [v, u] H (fun _ H2 => tz D σ H2) (F σ)) : tSeq (tDrop (tCallS sp F (tCons (tVar i) (tCons (tVar j) tNil)))) tz D σ H := ⟨v, hi, u, hj, k⟩
variable {tr : TA} {d : PyData} {K' : PySem.W.Frag}
theorem i_Peaceful (h : EvD K (tCall (spPeaceful K') [] E tr) σ H d) : EvD K (tCall (spPeaceful K') [] E tr) σ H d := h
theorem i_Beside (h : EvD K (tCall (spBeside K') [] E tr) σ H d) : EvD K (tCall (spBeside K') [] E tr) σ H d := h
theorem i_CanRow (h : EvD K (tCall (spCanRow K') [] E tr) σ H d) : EvD K (tCall (spCanRow K') [] E tr) σ H d := h
theorem i_Led (h : EvD K (tCall (spLed K') [] E tr) σ H d) : EvD K (tCall (spLed K') [] E tr) σ H d := h
theorem i_GroupsOf (h : EvD K (tCall (spGroupsOf K') [] E tr) σ H d) : EvD K (tCall (spGroupsOf K') [] E tr) σ H d := h
theorem i_GoodX (h : EvD K (tCall (spGoodX K') [] E tr) σ H d) : EvD K (tCall (spGoodX K') [] E tr) σ H d := h
theorem i_Crews (h : EvD K (tCall (spCrews K') [] E tr) σ H d) : EvD K (tCall (spCrews K') [] E tr) σ H d := h
end

end Fy

namespace Fy
open PySem PySem.Spec PyProof.Rows L2
end Fy
local macro_rules | `(tactic| walk_at "na") => `(tactic| first | assumption | (refine Fy.NightAt.mono ?_ (by assumption); walk_at "ex"))
local macro_rules | `(tactic| walk_at "ed") => `(tactic| ((with_reducible refine' Fy.i_Things ?hh); (case hh => exact Fy.EvN.toD (Fy.en_things rfl (by walk_at "na")))))
local macro_rules | `(tactic| walk_at "ed") => `(tactic| ((with_reducible refine' Fy.i_Quarrels ?hh); (case hh => exact Fy.EvN.toD (Fy.en_quarrels rfl (by walk_at "na")))))
local macro_rules | `(tactic| walk_at "ed") => `(tactic| ((with_reducible refine' Fy.i_Room ?hh); (case hh => exact Fy.ed_room rfl (by walk_at "na"))))
local macro_rules | `(tactic| walk_at "ed") => `(tactic| ((with_reducible refine' Fy.i_Begins ?hh); (case hh => exact Fy.ed_begins rfl (by walk_at "na") (by walk_at "side"))))
local macro_rules | `(tactic| walk_at "ed") => `(tactic| ((with_reducible refine' Fy.i_Ends ?hh); (case hh => exact Fy.ed_ends rfl (by walk_at "na"))))
local macro_rules | `(tactic| walk_at "ed") => `(tactic| ((with_reducible refine' Fy.i_Peace ?hh); (case hh => exact Fy.ed_npeace rfl (by walk_at "na") (by walk_at "ed"))))
local macro_rules | `(tactic| walk_at "ed") => `(tactic| ((with_reducible refine' Fy.i_Over ?hh); (case hh => exact Fy.ed_nover rfl (by walk_at "na") (by walk_at "side") (by walk_at "ed"))))
local macro_rules | `(tactic| walk_at "ed") => `(tactic| ((with_reducible refine' Fy.i_TupRg ?hh); (case hh => exact Fy.ed_tupRg (by walk_at "ed") (by walk_at "side"))))


namespace Fy
open PySem PySem.Spec PyProof.Rows L2
end Fy
local macro_rules | `(tactic| walk_at "rd") => `(tactic| ((with_reducible refine' Fy.i_CatA ?hh); (case hh => exact Fy.rd_catA (by walk_at "side"))))
local macro_rules | `(tactic| walk_at "ed") => `(tactic| ((with_reducible refine' Fy.i_SortTup ?hh); (case hh => exact Fy.EvN.toD (Fy.en_cb (by walk_at "eds") Fy.cn_sortTup))))
local macro_rules | `(tactic| walk_at "ed") => `(tactic| ((with_reducible refine' Fy.i_Peaceful ?hh); (case hh => exact Fy.ed_peaceful rfl (by walk_at "na") (by walk_at "ed") (by walk_at "side"))))
local macro_rules | `(tactic| walk_at "ed") => `(tactic| ((with_reducible refine' Fy.i_Beside ?hh); (case hh => exact Fy.ed_beside rfl (by walk_at "na") (by walk_at "ed") (by walk_at "side"))))
local macro_rules | `(tactic| walk_at "ed") => `(tactic| ((with_reducible refine' Fy.i_CanRow ?hh); (case hh => exact Fy.ed_canRow rfl (by walk_at "na") (by walk_at "ed") (by walk_at "side"))))
local macro_rules | `(tactic| walk_at "ed") => `(tactic| ((with_reducible refine' Fy.i_Led ?hh); (case hh => exact Fy.ed_led (by walk_at "ed") (by walk_at "ed") (by walk_at "side"))))
local macro_rules | `(tactic| walk_at "ed") => `(tactic| ((with_reducible refine' Fy.i_GroupsOf ?hh); (case hh => exact Fy.EvN.toD (Fy.en_groupsOf (by walk_at "ed") (by walk_at "ed") (by walk_at "side")))))
local macro_rules | `(tactic| walk_at "ed") => `(tactic| ((with_reducible refine' Fy.i_GoodX ?hh); (case hh => exact Fy.ed_goodX rfl (by walk_at "na") (by walk_at "ed") (by walk_at "side") (by walk_at "side"))))
local macro_rules | `(tactic| walk_at "ed") => `(tactic| ((with_reducible refine' Fy.i_Crews ?hh); (case hh => exact Fy.EvN.toD (Fy.en_crews rfl (by walk_at "na") (by walk_at "ed") (by walk_at "side") (by walk_at "side") (by walk_at "side")))))

namespace Fy
open PySem PySem.Spec PyProof.Rows L2
section
variable {P : Program} {w : World} {K : PySem.W.Frag} {mg : Str → Option Value} {base : Heap}
theorem sc_look_at : FnScope ["night", "standing", "last", "thing"] ["night", "standing"] (defScope s_look_at) := ⟨rfl, rfl, rfl, by decide +kernel, rfl, by decide +kernel, by decide +kernel⟩
theorem ok_look_at (T : Tx K mg) : Has P w K mg base (L2.CX P w) 2 "look_at" ["night", "standing"] (spLook K) := by
  obtain ⟨fd, F⟩ := T.f_look_at
  have N_things := ok_Night_things (P := P) (w := w) (base := base) T
  refine ⟨T.g_look_at, fd, F.ok sc_look_at (fun vs H Q E h => ?_) (fun cdv A outer s H vs Q E hr h => ⟨_, (pss_cons (ps_set (i := 2) sc_look_at.nd rfl (.inl rfl) (pe_un un_neg pe_int))
      (pss_cons (ps_for (passes_of rfl) rfl (pi_tup (pe_ix (r := rIxT K) ix_tup (pv 1) pe_int (fun _ _ => rfl))) (pg_name (i := 3) sc_look_at.nd rfl (.inl rfl)) (pss_cons (ps_if (PW.pt (pw_or (pt_cmpR op_le (pv 3) (pv 2) (nomark _)) (pw_or1 (pt_cmpR op_ge (pv 3) (pe_callB (r := rLenQ K) call_len_seq (by rfl) T.b_len (by decide +kernel) (pa_cons (pe_nm0 (C := He.ga K "Night") (pv 0) N_things (hr.mono (by decide)) pass0) pa_nil)) (nomark _))))) (pss_one (ps_raiseOwn rfl (takes_of rfl rfl rfl rfl) T.x_NoStanding T.g_NoStanding rfl)) pss_nil)
      (pss_one (ps_set (i := 2) sc_look_at.nd rfl (.inl rfl) (pv 3)))))
      (pss_one (ps_if (PW.pt (pw_and (pt_cmpR op_ne (pe_ix (r := rIxT K) ix_tup (pv 1) pe_int (fun _ _ => rfl)) pe_int (nomark _)) (pw_and1 (pt_cmpR op_ne (pe_ix (r := rIxT K) ix_tup (pv 1) pe_int (fun _ _ => rfl)) pe_int (nomark _))))) (pss_one (ps_raiseOwn rfl (takes_of rfl rfl rfl rfl) T.x_NoStanding T.g_NoStanding rfl)) pss_nil)))), ?_⟩), F.bindsN fun _ _ _ _ _ _ us hl => match us, hl with | [_, _], _ => rfl, F.kp⟩
  · obtain ⟨v, n, u, s, rfl, _⟩ := h
    rfl
  · obtain ⟨v, n, u, s, rfl, N, hu, hf, kq, ke⟩ := h
    have hlen : n.things.length ≤ 1000 := hf
    refine' w_asg (K := K) (d := .int (-1)) ?t (fun v1 H1 x1 h1 => ?_)
    case t => walk_at "ed"
    cases dp_int.mp h1
    refine' w_forTx (K := K) (ds := s.1.map .int) ?tl (fun i σ H' => ∃ y l, σ = [some v, some u, some (.int l), y] ∧ climb n.things.length (-1) s.1 = climb n.things.length l (s.1.drop i)) (fun H2 x2 => ⟨none, -1, rfl, by rw [List.drop_zero]⟩) ?_ ?_
    case tl =>
      refine (?tq : EvD K _ _ _ (eI s.1))
      walk_at "ed"
    · rintro i d x σ H' hd x2 hx ⟨y, l, rfl, hc⟩
      obtain ⟨t, ht, rfl⟩ := get_map hd
      cases dp_int.mp hx
      have hdr : s.1.drop i = t :: s.1.drop (i + 1) := by
        obtain ⟨h1, h2⟩ := List.getElem?_eq_some_iff.mp ht
        rw [List.drop_eq_getElem_cons h1, h2]
      rw [hdr] at hc
      have hc' : climb n.things.length (-1) s.1 = (decide (l < t ∧ t < (n.things.length : Int)) && climb n.things.length t (s.1.drop (i + 1))) := hc
      show tSeq _ _ _ _ _
      refine' w_when K (b := decide (t ≤ l) || decide ((((n.things.map eT).length : Nat) : Int) ≤ t)) ?tt (fun hb H3 x3 => ?_) (fun hb H3 x3 => ?_)
      case tt => walk_at "et"
      · refine ke ?_ H3 ((x1.trans x2).trans x3)
        unfold standOk
        rw [hc', decide_eq_false (by rw [List.length_map] at hb; simp at hb; omega)]
        rfl
      · refine' w_asg1 (K := K) (d := .int t) ?ta (fun v4 H4 x4 h4 => ?_)
        case ta => walk_at "ed"
        cases dp_int.mp h4
        refine ⟨x3.trans x4, _, _, rfl, ?_⟩
        rw [hc', decide_eq_true (by rw [List.length_map] at hb; simp at hb; omega), Bool.true_and]
    · rintro σ H' x2 ⟨y, l, rfl, hc⟩
      rw [List.length_map, List.drop_length] at hc
      have hc' : climb n.things.length (-1) s.1 = true := hc
      refine' w_when1 K (b := !decide (s.2 = 0) && !decide (s.2 = 1)) ?tt (fun hb H3 x3 => ?_) (fun hb H3 x3 => ?_)
      case tt => walk_at "et"
      · refine ke ?_ H3 ((x1.trans x2).trans x3)
        unfold standOk
        rw [decide_eq_false (by simp at hb; omega), Bool.and_false]
      · refine kq ?_ H3 ((x1.trans x2).trans x3)
        unfold standOk
        rw [hc', decide_eq_true (by simp at hb; omega)]
        rfl
theorem sc_peaceful : FnScope ["night", "standing"] ["night", "standing"] (defScope s_peaceful) := ⟨rfl, rfl, rfl, by decide +kernel, rfl, by decide +kernel, by decide +kernel⟩
theorem ok_peaceful (T : Tx K mg) : Has P w K mg base CX0 2 "peaceful" ["night", "standing"] (spPeaceful K) := by
  obtain ⟨fd, F⟩ := T.f_peaceful
  have N_peace := ok_Night_peace (P := P) (w := w) (base := base) T
  have N_over_there := ok_Night_over_there (P := P) (w := w) (base := base) T
  refine ⟨T.g_peaceful, fd, F.ok sc_peaceful (fun vs H Q E h => ?_) (fun cdv A outer s H vs Q E hr h => ⟨_, PSs.nox (pss_one (ps_ret (pe_and (pe_nm (C := He.ga K "Night") (pv 0) N_peace (hr.mono (by decide)) pass0 (pa_cons (pe_ix (r := rIxT K) ix_tup (pv 1) pe_int (fun _ _ => rfl)) pa_nil)) (pe_one (pe_nm (C := He.ga K "Night") (pv 0) N_peace (hr.mono (by decide)) pass0 (pa_cons (pe_nm (C := He.ga K "Night") (pv 0) N_over_there (hr.mono (by decide)) pass0 (pa_cons (pe_ix (r := rIxT K) ix_tup (pv 1) pe_int (fun _ _ => rfl)) pa_nil)) pa_nil)))))), ?_⟩), F.bindsN fun _ _ _ _ _ _ us hl => match us, hl with | [_, _], _ => rfl, F.kp⟩
  · obtain ⟨v, n, u, s, rfl, _⟩ := h
    rfl
  · obtain ⟨v, n, u, s, rfl, N, hu, hf, k⟩ := h
    have hlen : n.things.length ≤ 1000 := hf
    refine' w_ret1 (K := K) (d := .bool (n.good s)) ?t (fun v4 H4 x4 h4 => k v4 H4 x4 h4)
    case t =>
      refine (?tq : EvD K _ _ _ (.bool (peace n.quarrels s.1 && peace n.quarrels (restOf s.1 n.things.length))))
      walk_at "ed"
theorem sc_good : FnScope ["night", "standing"] ["night", "standing"] (defScope s_good) := ⟨rfl, rfl, rfl, by decide +kernel, rfl, by decide +kernel, by decide +kernel⟩
theorem ok_good (T : Tx K mg) : Has P w K mg base (L2.CX P w) 3 "good" ["night", "standing"] (spGoodX K) := by
  obtain ⟨fd, F⟩ := T.f_good
  have G_peaceful := ok_peaceful (P := P) (w := w) (base := base) T
  have G_look_at := ok_look_at (P := P) (w := w) (base := base) T
  refine ⟨T.g_good, fd, F.ok sc_good (fun vs H Q E h => ?_) (fun cdv A outer s H vs Q E hr h => ⟨_, (pss_cons (ps_expr (pe_fx G_look_at (hr.mono (by decide)) rfl (takes_of rfl rfl rfl rfl) (pa_cons (pv 0) (pa_cons (pv 1) pa_nil))))
      (pss_one (ps_ret (pe_f G_peaceful (hr.mono (by decide)) rfl (pa_cons (pv 0) (pa_cons (pv 1) pa_nil)))))), ?_⟩), F.bindsN fun _ _ _ _ _ _ us hl => match us, hl with | [_, _], _ => rfl, F.kp⟩
  · obtain ⟨v, n, u, s, rfl, _⟩ := h
    rfl
  · obtain ⟨v, n, u, s, rfl, N, hu, hf, kq, ke⟩ := h
    refine w_callSv rfl rfl ⟨v, n, u, s, rfl, N, hu, hf, fun ok H1 x1 => ?_, fun ok H1 x1 => ke ok H1 x1⟩
    refine' w_ret1 (K := K) (d := .bool (n.good s)) ?t (fun v4 H4 x4 h4 => ?_)
    case t => walk_at "ed"
    cases dp_bl.mp h4
    exact kq ok H4 (x1.trans x4)
theorem sc_look_at_start : FnScope ["night", "standing"] ["night", "standing"] (defScope s_look_at_start) := ⟨rfl, rfl, rfl, by decide +kernel, rfl, by decide +kernel, by decide +kernel⟩
theorem ok_look_at_start (T : Tx K mg) : Has P w K mg base (L2.CX P w) 4 "look_at_start" ["night", "standing"] (spStart K) := by
  obtain ⟨fd, F⟩ := T.f_look_at_start
  have G_good := ok_good (P := P) (w := w) (base := base) T
  refine ⟨T.g_look_at_start, fd, F.ok sc_look_at_start (fun vs H Q E h => ?_) (fun cdv A outer s H vs Q E hr h => ⟨_, (pss_one (ps_if (pt_not (pt_val (pe_fx G_good (hr.mono (by decide)) rfl (takes_of rfl rfl rfl rfl) (pa_cons (pv 0) (pa_cons (pv 1) pa_nil))))) (pss_one (ps_raiseOwn rfl (takes_of rfl rfl rfl rfl) T.x_BadStart T.g_BadStart rfl)) pss_nil)), ?_⟩), F.bindsN fun _ _ _ _ _ _ us hl => match us, hl with | [_, _], _ => rfl, F.kp⟩
  · obtain ⟨v, n, u, s, rfl, _⟩ := h
    rfl
  · obtain ⟨v, n, u, s, rfl, N, hu, hf, kq, ke, kb⟩ := h
    refine ⟨_, rfl, _, rfl, v, n, u, s, rfl, N, hu, hf, fun ok H1 x1 => ⟨_, rfl, ?_⟩, fun ok H1 x1 => ke ok H1 x1⟩
    cases hg : n.good s with
    | true => exact kq ok hg H1 x1
    | false => exact kb ok hg H1 x1
theorem sc_beside_boat : FnScope ["night", "standing"] ["night", "standing"] (defScope s_beside_boat) := ⟨rfl, rfl, rfl, by decide +kernel, rfl, by decide +kernel, by decide +kernel⟩
theorem ok_beside_boat (T : Tx K mg) : Has P w K mg base CX0 2 "beside_boat" ["night", "standing"] (spBeside K) := by
  obtain ⟨fd, F⟩ := T.f_beside_boat
  have N_over_there := ok_Night_over_there (P := P) (w := w) (base := base) T
  refine ⟨T.g_beside_boat, fd, F.ok sc_beside_boat (fun vs H Q E h => ?_) (fun cdv A outer s H vs Q E hr h => ⟨_, PSs.nox (pss_cons (ps_if (pt_cmpR op_eq (pe_ix (r := rIxT K) ix_tup (pv 1) pe_int (fun _ _ => rfl)) pe_int (nomark _)) (pss_one (ps_ret (pe_ix (r := rIxT K) ix_tup (pv 1) pe_int (fun _ _ => rfl)))) pss_nil)
      (pss_one (ps_ret (pe_nm (C := He.ga K "Night") (pv 0) N_over_there (hr.mono (by decide)) pass0 (pa_cons (pe_ix (r := rIxT K) ix_tup (pv 1) pe_int (fun _ _ => rfl)) pa_nil))))), ?_⟩), F.bindsN fun _ _ _ _ _ _ us hl => match us, hl with | [_, _], _ => rfl, F.kp⟩
  · obtain ⟨v, n, u, s, rfl, _⟩ := h
    rfl
  · obtain ⟨v, n, u, s, rfl, N, hu, hf, k⟩ := h
    have hlen : n.things.length ≤ 1000 := hf
    refine' w_when K (b := decide (s.2 = 0)) ?tt (fun hb H3 x3 => ?_) (fun hb H3 x3 => ?_)
    case tt => walk_at "et"
    · refine' w_ret1 (K := K) (d := eI s.1) ?t (fun v4 H4 x4 h4 => k v4 H4 (x3.trans x4) ?_)
      case t => walk_at "ed"
      show Dp K H4 v4 (eI (bankOf n.things.length s))
      unfold bankOf
      rw [if_pos (by simpa using hb)]
      exact h4
    · refine' w_ret1 (K := K) (d := eI (restOf s.1 n.things.length)) ?t (fun v4 H4 x4 h4 => k v4 H4 (x3.trans x4) ?_)
      case t => walk_at "ed"
      show Dp K H4 v4 (eI (bankOf n.things.length s))
      unfold bankOf
      rw [if_neg (by simpa using hb)]
      exact h4
theorem sc_led_over : FnScope ["standing", "crew", "thing"] ["standing", "crew"] (defScope s_led_over) := ⟨rfl, rfl, rfl, by decide +kernel, rfl, by decide +kernel, by decide +kernel⟩
theorem ok_led_over (T : Tx K mg) : Has P w K mg base CX0 2 "led_over" ["standing", "crew"] (spLed K) := by
  obtain ⟨fd, F⟩ := T.f_led_over
  refine ⟨T.g_led_over, fd, F.ok sc_led_over (fun vs H Q E h => ?_) (fun cdv A outer s H vs Q E hr h => ⟨_, PSs.nox (pss_cons (ps_if (pt_cmpR op_eq (pe_ix (r := rIxT K) ix_tup (pv 0) pe_int (fun _ _ => rfl)) pe_int (nomark _)) (pss_one (ps_ret (pe_tup (pa_cons (pe_callTy (r := rTupQ K) call_tuple_of (by rfl) T.b_tuple (by decide +kernel) (pa_cons (pe_lc (own := [("thing", 2)]) (g := gName 2) (by rfl) sc_led_over.nd (pi_tup (pe_ix (r := rIxT K) ix_tup (pv 0) pe_int (fun _ _ => rfl))) (blkOk_by (N := ["standing", "crew", "thing"]) (sc := defScope s_led_over) (by decide +kernel)) (fun _ _ _ _ _ => pg_name (i := 2) sc_led_over.nd rfl (.inl rfl)) (fun _ _ _ _ _ => (pts_one (pt_cmpR (r := rIn K true) op_notIn_seq (pv 2) (pv 1) (by rfl)))) (fun _ _ _ _ _ => (pv 2))) pa_nil)) (pa_cons pe_int pa_nil))))) pss_nil)
      (pss_one (ps_ret (pe_tup (pa_cons (pe_callTy (r := rTupQ K) call_tuple_of (by rfl) T.b_tuple (by decide +kernel) (pa_cons (pe_callB (r := rSortTup K) (cr_sortTup hr.units) (by rfl) T.b_sorted (by decide +kernel) (pa_cons (pe_op (r := rCatA K) op_catA (pe_ix (r := rIxT K) ix_tup (pv 0) pe_int (fun _ _ => rfl)) (pv 1)) pa_nil)) pa_nil)) (pa_cons pe_int pa_nil)))))), ?_⟩), F.bindsN fun _ _ _ _ _ _ us hl => match us, hl with | [_, _], _ => rfl, F.kp⟩
  · exact spP.len (n := 2) (fun _ => rfl) h
  · obtain ⟨⟨s, c⟩, ⟨h1, h2⟩, hv0, q⟩ := h
    dsimp only at h1 h2 hv0 q
    obtain ⟨v, u, rfl, hv, hu⟩ := dpa2 hv0
    refine' w_when K (b := decide (s.2 = 0)) ?tt (fun hb H3 x3 => ?_) (fun hb H3 x3 => ?_)
    case tt => walk_at "et"
    · have e : ledOver s c = (s.1.filter (fun t => !c.contains t), 1) := by unfold ledOver; rw [if_pos (by simpa using hb)]
      refine' w_ret1 (K := K) (d := eS (s.1.filter (fun t => !c.contains t), 1)) (ed_tup (eds_cons (ed_cb (eds_cons (en_fmT .int (xs := s.1) (fun t => !c.contains t) .int (fun _ => rfl) ?tx (by omega) (fun _ => rfl) (fun i a v H1 _ x1 hv => ?tc) (fun i a v H1 _ _ x1 hv => ?te)).toD eds_nil) cd_tupL) (eds_cons ed_int eds_nil)) (show 2 ≤ 100000 by decide)) (fun v4 H4 x4 h4 => q v4 H4 (x3.trans x4) (by rw [e]; exact h4))
      case tx =>
        refine (?tq : EvD K _ _ _ (eI s.1))
        walk_at "ed"
      case tc => walk_at "et"
      case te => walk_at "ed"
    · have e : ledOver s c = ((s.1 ++ c).mergeSort leZ, 0) := by unfold ledOver; rw [if_neg (by simpa using hb)]
      have hl : s.1.length + c.length ≤ 100000 := by omega
      refine' w_ret1 (K := K) (d := eS ((s.1 ++ c).mergeSort leZ, 0)) (ed_tup (eds_cons (ed_cb (eds_cons ?tx eds_nil) cd_tupL) (eds_cons ed_int eds_nil)) (show 2 ≤ 100000 by decide)) (fun v4 H4 x4 h4 => q v4 H4 (x3.trans x4) (by rw [e]; exact h4))
      case tx => walk_at "ed"
theorem sc_groups_of : FnScope ["group", "room", "found", "thing", "some"] ["group", "room"] (defScope s_groups_of) := ⟨rfl, rfl, rfl, by decide +kernel, rfl, by decide +kernel, by decide +kernel⟩
theorem ok_groups_of (T : Tx K mg) : Has P w K mg base CX0 2 "groups_of" ["group", "room"] (spGroupsOf K) := by
  obtain ⟨fd, F⟩ := T.f_groups_of
  refine ⟨T.g_groups_of, fd, F.ok sc_groups_of (fun vs H Q E h => ?_) (fun cdv A outer s H vs Q E hr h => ⟨_, PSs.nox (pss_cons (ps_set (i := 2) sc_groups_of.nd rfl (.inl rfl) (pe_lst (pa_cons (pe_tup pa_nil) pa_nil)))
      (pss_cons (ps_for PassesOwn.never rfl (pi_tup (pv 0)) (pg_name (i := 3) sc_groups_of.nd rfl (.inr rfl)) (pss_one (ps_expr (pe_bm PySem.F.plainAttrs_list PySem.F.slot_list_extend PySem.F.type_list_extend mt_extend (pv 2) (pa_cons (pe_lc (own := [("some", 4)]) (g := gName 4) (by rfl) sc_groups_of.nd (pi_list (pv 2)) (blkOk_by (N := ["group", "room", "found", "thing", "some"]) (sc := defScope s_groups_of) (by decide +kernel)) (fun _ _ _ _ _ => pg_name (i := 4) sc_groups_of.nd rfl (.inl rfl)) (fun _ _ _ _ _ => (pts_one (pt_cmpR op_lt (pe_callB (r := rLenQ K) call_len_seq (by rfl) T.b_len (by decide +kernel) (pa_cons (pv 4) pa_nil)) (pv 1) (nomark _)))) (fun _ _ _ _ _ => (pe_op (r := rCatA K) op_catA (pv 4) (pe_tup (pa_cons (pv 3) pa_nil))))) pa_nil)))))
      (pss_one (ps_ret (pe_slice (r := rSlL K) sl_list (pe_callB (r := rSortTI K) (cr_sortTI hr.units) (by rfl) T.b_sorted (by decide +kernel) (pa_cons (pv 2) pa_nil)) (po_some pe_int) po_none))))), ?_⟩), F.bindsN fun _ _ _ _ _ _ us hl => match us, hl with | [_, _], _ => rfl, F.kp⟩
  · exact spL.len (n := 2) (fun _ => rfl) h
  · obtain ⟨⟨g, room⟩, h1, hv0, q⟩ := h
    dsimp only at h1 hv0 q
    obtain ⟨v, u, rfl, hv, hu⟩ := dpa2 hv0
    cases dp_int.mp hu
    refine' w_asgN (K := K) (ds := [eI []]) (en_lst (eds_cons (ed_tup (ds := []) eds_nil (by decide)) eds_nil) (by decide)) (fun v2 H2 x2 hL => ?_)
    obtain ⟨l, xs, rfl, l0, l1, l2⟩ := hL
    refine' w_layT (K := K) (l := l) (H0 := H) (ds := g.map .int) ?tl (noL_int g) x2 l0 (fun i => (growF room (g.take i)).map eI) (fun i => noLs_map noL_eI _) ⟨xs, l1, l2⟩ (fun i σ => ∃ y, σ = [some v, some (.int room), some (.ref l), y, none]) ⟨none, rfl⟩ ?_ ?_
    case tl =>
      refine (?tq : EvD K _ _ _ (eI g))
      walk_at "ed"
    · rintro i d x σ' H' ys hd x3 hx ⟨y, rfl⟩ hl hD
      obtain ⟨t, ht, rfl⟩ := get_map hd
      cases dp_int.mp hx
      have hF : (growF room (g.take i)).length ≤ 64 := by
        have h2 := growF_len (room := room) (g.take i) [[]]
        have h3 : 2 ^ (g.take i).length ≤ 2 ^ 6 := Nat.pow_le_pow_right (by decide) (by rw [List.length_take]; omega)
        simp only [List.length_singleton, Nat.one_mul] at h2
        unfold growF
        omega
      have hI : ∀ k ∈ growF room (g.take i), k.length ≤ 6 := fun k hk => by
        have := growF_il (n := 0) (g.take i) [[]] (fun g hg => by rw [List.mem_singleton.mp hg]; exact Nat.le_refl _) k hk
        rw [List.length_take] at this
        omega
      have hdl : Dp K H' (.ref l) (.list ((growF room (g.take i)).map eI)) := dp_lst.mpr ⟨l, ys, rfl, SqL.of hl, hD⟩
      have comp : EvN K (tLc (iList K (tVar 2)) (gName 4) (tTest (tOp (rI0 fun i j => .bl (decide (i < j))) (tCB (rLenQ K) (tCons (tVar 4) tNil)) (tVar 1))) (tOp (rCatA K) (tVar 4) (tTup (tCons (tVar 3) tNil))) [4]) [some v, some (.int room), some (.ref l), some (.int t), none] H'
          (((growF room (g.take i)).filter fun k => decide ((k.length : Int) < room)).map fun k => eI (k ++ [t])) := by
        refine' en_fmL eI (fun k => decide ((k.length : Int) < room)) (fun k => eI (k ++ [t])) (fun _ => noL_eI _) ?a (by omega) (fun _ => rfl) (fun i a v H1 ha x1 hv => ?b) (fun i a v H1 ha _ x1 hv => ?c)
        case a => walk_at "ed"
        case b => walk_at "et"
        case c =>
          have hk := hI a (List.mem_of_getElem? ha)
          have hk2 : a.length + [t].length ≤ 100000 := by rw [List.length_singleton]; omega
          refine ed_op (d := eI a) (e := eI [t]) ?d1 ?d2 (rd_catA hk2)
          case d1 => walk_at "ed"
          case d2 =>
            refine (?tq2 : EvD K _ _ _ (.tuple [.int t]))
            walk_at "ed"
      refine ⟨_, rfl, .inl ⟨rfl, _, SqL.of hl⟩, comp H' (Evl.Ex.refl H') _ fun v3 H3 x4 hv3 => ?_⟩
      obtain ⟨b, zs, rfl, b0, b1, b2⟩ := hv3
      have hz : zs.length ≤ 64 := by
        have := dpa_len b2
        rw [List.length_map] at this
        have h4 := List.length_filter_le (fun k : List Int => decide ((k.length : Int) < room)) (growF room (g.take i))
        omega
      have hy : ys.length ≤ 64 := by have := dpa_len hD; rw [List.length_map] at this; omega
      refine ⟨l, b, ys, zs, rfl, rfl, x4 _ _ hl, b1, Evl.sz_of (by omega), ⟨_, rfl⟩, ExB.upd x4, _, upd_same, ?_⟩
      have u : Up H3 (upd H3 l (.lst (ys ++ zs))) := Up.lst (x4 _ _ hl)
      show DpAll K _ _ ((growF room (g.take (i + 1))).map eI)
      rw [growF_snoc ht]
      unfold stepF
      rw [List.map_append, List.map_map]
      exact dpa_app (dpa_up u _ _ (noLs_map noL_eI _) (dpa_mono x4 _ _ hD)) (dpa_up u _ _ (noLs_map (fun _ => noL_eI _) _) b2)
    · rintro σ' H' ys x3 ⟨y, rfl⟩ hl hD
      rw [List.length_map, List.take_length] at hD
      have hk : SortI (growF room g) := by
        obtain ⟨r, hr⟩ := growF_head (room := room) g []
        exact .inr ⟨r, hr⟩
      have hdl : Dp K H' (.ref l) (.list ((growF room g).map eI)) := dp_lst.mpr ⟨l, ys, rfl, SqL.of hl, hD⟩
      refine w_retN1 (K := K) (en_slL (en_cb (eds_cons (ed_var rfl hdl) eds_nil) (cn_sortTI hk)).toD (eo_some (i := ((1 : Nat) : Int)) ed_int) eo_none) fun v5 H5 x5 h5 => q v5 H5 (x3.trans x5) ?_
      rw [cutD_from] at h5
      show NewL K H v5 H5 ((groupsOf g room).map eI)
      unfold groupsOf
      rw [List.map_drop]
      exact h5.back x3
theorem sc_can_row : FnScope ["night", "crew", "thing"] ["night", "crew"] (defScope s_can_row) := ⟨rfl, rfl, rfl, by decide +kernel, rfl, by decide +kernel, by decide +kernel⟩
theorem ok_can_row (T : Tx K mg) : Has P w K mg base CX0 2 "can_row" ["night", "crew"] (spCanRow K) := by
  obtain ⟨fd, F⟩ := T.f_can_row
  have N_things := ok_Night_things (P := P) (w := w) (base := base) T
  refine ⟨T.g_can_row, fd, F.ok sc_can_row (fun vs H Q E h => ?_) (fun cdv A outer s H vs Q E hr h => ⟨_, PSs.nox (pss_one (ps_ret (pe_cmpR op_gt (pe_callB (r := rLenQ K) call_len_seq (by rfl) T.b_len (by decide +kernel) (pa_cons (pe_lc (own := [("thing", 2)]) (g := gName 2) (by rfl) sc_can_row.nd (pi_tup (pv 1)) (blkOk_by (N := ["night", "crew", "thing"]) (sc := defScope s_can_row) (by decide +kernel)) (fun _ _ _ _ _ => pg_name (i := 2) sc_can_row.nd rfl (.inl rfl)) (fun _ _ _ _ _ => (pts_one (pt_val (pe_ix (r := rIxT K) ix_tup (pe_ix (r := rIxL K) ix_list (pe_nm0 (C := He.ga K "Night") (pv 0) N_things (hr.mono (by decide)) pass0) (pv 2) (fun _ _ => rfl)) pe_int (fun _ _ => rfl))))) (fun _ _ _ _ _ => (pv 2))) pa_nil)) pe_int (nomark _)))), ?_⟩), F.bindsN fun _ _ _ _ _ _ us hl => match us, hl with | [_, _], _ => rfl, F.kp⟩
  · obtain ⟨v, n, u, s, rfl, _⟩ := h
    rfl
  · obtain ⟨v, n, u, c, rfl, N, hu, ⟨hf, hin, hc⟩, k⟩ := h
    have hlen : n.things.length ≤ 1000 := hf
    have comp : EvN K (tLc (iTup K (tVar 1)) (gName 2) (tB (tOp (rIxT K) (tOp (rIxL K) (tMeth (He.ga K "Night") "things" (spNThings K) [] E0 (tVar 0) tNil) (tVar 2)) (tC (.int 1)))) (tVar 2) [2]) [some v, some u, none] H ((c.filter (rowsAt n.things)).map .int) := by
      refine' en_fmT .int (rowsAt n.things) .int (fun _ => rfl) ?a (by omega) (fun _ => rfl) (fun i a v H1 ha x1 hv => ?b) (fun i a v H1 ha _ x1 hv => ?c)
      case a =>
        refine (?tq : EvD K _ _ _ (eI c))
        walk_at "ed"
      case b =>
        have hm := hin a (List.mem_of_getElem? ha)
        refine eb_dB (ed_op (d := eT (n.things.getD a.toNat (0, false))) (ed_op (d := .list (n.things.map eT)) ?e1 (ed_var rfl hv) (rd_ixL (atI_map hm.1 hm.2))) ed_int (rd_ixT (by rfl)))
        case e1 => walk_at "ed"
      case c => exact ed_var rfl hv
    refine' w_ret1 (K := K) (d := .bool (canRow n.things c)) (ed_op (d := .int ((c.filter (rowsAt n.things)).map PyData.int).length) (ed_cb (eds_cons comp.toD eds_nil) cd_lenL) ed_int (rd_I0 fun _ => ?t)) (fun v4 H4 x4 h4 => k v4 H4 x4 h4)
    case t => rw [List.length_map]; exact .bl _
theorem sc_crews : FnScope ["night", "standing", "found", "crew"] ["night", "standing"] (defScope s_crews) := ⟨rfl, rfl, rfl, by decide +kernel, rfl, by decide +kernel, by decide +kernel⟩
theorem ok_crews (T : Tx K mg) : Has P w K mg base (L2.CX P w) 5 "crews" ["night", "standing"] (spCrews K) := by
  obtain ⟨fd, F⟩ := T.f_crews
  have G_groups_of := ok_groups_of (P := P) (w := w) (base := base) T
  have G_beside_boat := ok_beside_boat (P := P) (w := w) (base := base) T
  have G_peaceful := ok_peaceful (P := P) (w := w) (base := base) T
  have G_led_over := ok_led_over (P := P) (w := w) (base := base) T
  have G_can_row := ok_can_row (P := P) (w := w) (base := base) T
  have G_look_at_start := ok_look_at_start (P := P) (w := w) (base := base) T
  have N_room := ok_Night_room (P := P) (w := w) (base := base) T
  refine ⟨T.g_crews, fd, F.ok sc_crews (fun vs H Q E h => ?_) (fun cdv A outer s H vs Q E hr h => ⟨_, (pss_cons (ps_expr (pe_fx G_look_at_start (hr.mono (by decide)) rfl (takes_of rfl rfl rfl rfl) (pa_cons (pv 0) (pa_cons (pv 1) pa_nil))))
      (pss_cons (ps_set (i := 2) sc_crews.nd rfl (.inl rfl) (pe_lst pa_nil))
      (pss_cons (ps_for (passes_of rfl) rfl (pi_list (pe_f G_groups_of (hr.mono (by decide)) rfl (pa_cons (pe_f G_beside_boat (hr.mono (by decide)) rfl (pa_cons (pv 0) (pa_cons (pv 1) pa_nil))) (pa_cons (pe_nm0 (C := He.ga K "Night") (pv 0) N_room (hr.mono (by decide)) pass0) pa_nil)))) (pg_name (i := 3) sc_crews.nd rfl (.inl rfl)) (pss_one (ps_if (PW.pt (pw_and (pt_val (pe_f G_can_row (hr.mono (by decide)) rfl (pa_cons (pv 0) (pa_cons (pv 3) pa_nil)))) (pw_and1 (pt_val (pe_f G_peaceful (hr.mono (by decide)) rfl (pa_cons (pv 0) (pa_cons (pe_f G_led_over (hr.mono (by decide)) rfl (pa_cons (pv 1) (pa_cons (pv 3) pa_nil))) pa_nil))))))) (pss_one (ps_expr (pe_bm PySem.F.plainAttrs_list PySem.F.slot_list_append PySem.F.type_list_append mt_append (pv 2) (pa_cons (pv 3) pa_nil)))) pss_nil)))
      (pss_one (ps_ret (pv 2)))))), ?_⟩), F.bindsN fun _ _ _ _ _ _ us hl => match us, hl with | [_, _], _ => rfl, F.kp⟩
  · obtain ⟨v, n, u, s, rfl, _⟩ := h
    rfl
  · obtain ⟨v, n, u, s, rfl, N, hu, hlen, kq, ke, kb⟩ := h
    have hf : few n := Nat.le_trans hlen (by decide)
    refine w_callSv rfl rfl ⟨v, n, u, s, rfl, N, hu, hf, fun ok gd H1 x1 => ?_, ke, kb⟩
    obtain ⟨hin, hsl⟩ := standOk_in ok
    have hs6 : s.1.length ≤ 1000 := by omega
    have hbank : (bankOf n.things.length s).length ≤ 6 := Nat.le_trans (bankOf_len hsl) hlen
    refine' w_asgN (K := K) (ds := []) (en_lst eds_nil (by decide)) (fun v2 H2 x2 hL => ?_)
    obtain ⟨l, xs, rfl, l0, l1, l2⟩ := hL
    refine' w_layN (K := K) (l := l) (H0 := H1) (ds := (groupsOf (bankOf n.things.length s) n.room).map eI) (en_groupsOf ?ta ?tb hbank) (noLs_map noL_eI _) x2 l0 (fun i => (((groupsOf (bankOf n.things.length s) n.room).take i).filter (n.lets s)).map eI) (fun i => noLs_map noL_eI _) ⟨xs, l1, by rw [List.take_zero]; exact l2⟩ (fun i σ => ∃ y, σ = [some v, some u, some (.ref l), y]) ⟨none, rfl⟩ ?_ ?_
    case ta => walk_at "ed"
    case tb => walk_at "ed"
    · rintro i d x σ' H' ys hd x3 hx ⟨y, rfl⟩ hl hD
      obtain ⟨c, hc, rfl⟩ := get_map hd
      have hci := groupsOf_items (bankOf_in hin) c (List.mem_of_getElem? hc)
      have hcd : few n ∧ inThings n.things.length c ∧ c.length ≤ 1000 := ⟨hf, hci.1, by omega⟩
      have hled : s.1.length ≤ 1000 ∧ c.length ≤ 1000 := ⟨hs6, by omega⟩
      have hx' : Dp K H' x (eI c) := hx
      have x13 := x1.trans x3
      show tIfS _ _ _ _ _ _
      refine' w_when1 K (b := canRow n.things c && n.good (ledOver s c)) ?tt (fun hb H4 x4 => ?_) (fun hb H4 x4 => ?_)
      case tt => walk_at "et"
      · have hb' : n.lets s c = true := hb
        refine w_lay (acc := (((groupsOf (bankOf n.things.length s) n.room).take i).filter (n.lets s)).map eI) (d := eI c) rfl (ed_var rfl (dp_mono x4 _ _ hx')) (ExB.ex x4) (x4 _ _ hl) (dpa_mono x4 _ _ hD) (noLs_map noL_eI _) (noL_eI _) ?_ ?_ ⟨_, rfl⟩ (fun σ3 H3 h3 => h3)
        · have h2 := List.length_filter_le (n.lets s) ((groupsOf (bankOf n.things.length s) n.room).take i)
          have h3 : (groupsOf (bankOf n.things.length s) n.room).length ≤ 2 ^ 6 := Nat.le_trans groupsOf_len (Nat.pow_le_pow_right (by decide) hbank)
          rw [List.length_take] at h2
          rw [List.length_map]
          omega
        · rw [take_snoc hc, List.filter_append, List.map_append]
          congr 1
          rw [List.filter_cons, if_pos hb']
          rfl
      · have hb' : n.lets s c = false := hb
        refine ⟨⟨_, rfl⟩, ExB.ex x4, ys, x4 _ _ hl, ?_⟩
        show DpAll K _ _ ((((groupsOf (bankOf n.things.length s) n.room).take (i + 1)).filter (n.lets s)).map eI)
        rw [take_snoc hc, List.filter_append, List.filter_cons, if_neg (by rw [hb']; exact Bool.false_ne_true), List.filter_nil, List.append_nil]
        exact dpa_mono x4 _ _ hD
    · rintro σ' H' ys x3 ⟨y, rfl⟩ hl hD
      rw [List.length_map, List.take_length] at hD
      exact ⟨_, rfl, kq ok gd _ H' (x1.trans x3) ⟨l, ys, rfl, Evl.fresh_back x1 l0, hl, hD⟩⟩
end

end Fy

namespace Fy
open PySem PySem.Spec PyProof.Rows L2
/-! ### the laws' own crossings: promises and readings -/
theorem exc_true (b : Bool) : (b = true) ∨ (b = false) := by cases b <;> simp
/-- isinstance(e, c) of the exception that a suite holds -/
def rIsX (K : PySem.W.Frag) (cls : Value) (dd : Option Addr) (a : Addr) : List V → Hp → VK → Prop := fun xs H Q => ∃ D, cls = .ref D ∧ dd = none ∧ ExcC K D ∧ rIsE K D a xs H Q
theorem call_isX {X : Cx} {a : Addr} {cls : Value} {dd : Option Addr} {oe : Obj} {pn : List (Addr × Obj)} (hz : Zc cls dd oe) (hf : ∃ vs, oe.data = .fields vs) : CallR (X.suite a ((a, oe) :: pn)) (.builtin "isinstance") (rIsX X.K cls dd a) := by
  intro pins s σ H xs us Q I r h
  obtain ⟨D, rfl, rfl, C, h⟩ := h
  exact call_isE C hz hf pins s σ H xs us Q I r h
theorem sub_climb {m : Nat} : ∀ {g : List Int} {last : Int}, g.Pairwise (· < ·) → (∀ t ∈ g, last < t ∧ t < (m : Int)) → climb m last g = true
  | [], _, _, _ => rfl
  | x :: r, last, hp, hb => by
    have h1 := hb x List.mem_cons_self
    have h2 := List.pairwise_cons.mp hp
    unfold climb
    rw [decide_eq_true h1, Bool.true_and]
    exact sub_climb h2.2 fun t ht => ⟨h2.1 t ht, (hb t (List.mem_cons_of_mem _ ht)).2⟩
theorem rng_lt (m : Nat) : (rng m).Pairwise (· < ·) := by
  unfold rng
  rw [List.pairwise_map]
  have : (List.range m).Pairwise (· < ·) := List.pairwise_lt_range
  exact this.imp fun {a b} h => by omega
theorem climb_of_sub {m : Nat} {g : List Int} (h : g.Sublist (rng m)) : climb m (-1) g = true :=
  sub_climb ((rng_lt m).sublist h) fun t ht => by have := mem_rng.mp (h.subset ht); omega
theorem bits_sub {x : Int} {m : Nat} : (bitsL x m).Sublist (rng m) := List.filter_sublist
theorem sub_len {m : Nat} {g : List Int} (h : g.Sublist (rng m)) : g.length ≤ m := by have := h.length_le; rw [rng_len] at this; exact this
theorem sub_in {m : Nat} {g : List Int} (h : g.Sublist (rng m)) : inThings m g := fun t ht => mem_rng.mp (h.subset ht)
def spBehind (K : PySem.W.Frag) : Sp := spP K (fun x : (List Int × Int) × List Int × Nat => x.1.1.length ≤ 1000 ∧ x.2.2 ≤ 1000) (fun x => [eS x.1, eI x.2.1, .int (x.2.2 : Int)]) (fun x => eS (behind x.1 x.2.1 x.2.2))
def spLCrews (K : PySem.W.Frag) : Sp := spL K (fun x : Nt × (List Int × Int) => x.1.things.length ≤ 6 ∧ x.2.1.length ≤ 1000) (fun x => [.list (x.1.things.map eT), .int x.1.room, .list (x.1.quarrels.map eQ), eS x.2]) (fun x => (x.1.lawCrews x.2).map eI)
def spLGroup (K : PySem.W.Frag) : Sp := spP K (fun x : List Int × List Int => x.1.length ≤ 1000) (fun x => [eI x.1, eI x.2]) (fun x => .bool (decide (x.1 = x.2)))
def spRight (K : PySem.W.Frag) : Sp := spP K (fun x : List (List Int) × List (List Int) => (∀ g ∈ x.1, g.length ≤ 1000) ∧ x.2.length ≤ 1000) (fun x => [.list (x.1.map eI), .list (x.2.map eI)]) (fun x => .bool (decide (x.1 = x.2)))
/-- _law_told of crews -/
def dStart : PyData := .tuple [.str "start"]
def spTold2 (K : PySem.W.Frag) : Sp := fun vs H Q _ => ∃ v n u s, vs = [v, u] ∧ NightAt K H v n ∧ Dp K H u (eS s) ∧ n.things.length ≤ 6 ∧ standOk n.things.length s = true ∧
  (n.good s = true → RetR (fun v H' => NewL K H v H' ((n.crews s).map eI)) H Q) ∧ (n.good s = false → RetR (fun v H' => Dp K H' v dStart) H Q)
section
variable {K : PySem.W.Frag} {σ : L2.St} {H : Hp} {ta tb tc td : TE} {E : XK} {n : Nt} {s : List Int × Int} {c g : List Int} {m : Nat}
theorem ed_behind (h1 : EvD K ta σ H (eS s)) (h2 : EvD K tb σ H (eI c)) (h3 : EvD K tc σ H (.int (m : Int))) (h0 : s.1.length ≤ 1000 ∧ m ≤ 1000) : EvD K (tCall (spBehind K) [] E (tCons ta (tCons tb (tCons tc tNil)))) σ H (eS (behind s c m)) :=
  ed_call (x := (s, c, m)) h0 (eds_cons h1 (eds_cons h2 (eds_cons h3 eds_nil)))
theorem en_lcrews (n : Nt) (h1 : EvD K ta σ H (.list (n.things.map eT))) (h2 : EvD K tb σ H (.int n.room)) (h3 : EvD K tc σ H (.list (n.quarrels.map eQ))) (h4 : EvD K td σ H (eS s)) (h0 : n.things.length ≤ 6 ∧ s.1.length ≤ 1000) :
    EvN K (tCall (spLCrews K) [] E (tCons ta (tCons tb (tCons tc (tCons td tNil))))) σ H ((n.lawCrews s).map eI) :=
  en_call (x := (n, s)) h0 (eds_cons h1 (eds_cons h2 (eds_cons h3 (eds_cons h4 eds_nil))))
theorem ed_lgroup (h1 : EvD K ta σ H (eI c)) (h2 : EvD K tb σ H (eI g)) (h0 : c.length ≤ 1000) : EvD K (tCall (spLGroup K) [] E (tCons ta (tCons tb tNil))) σ H (.bool (decide (c = g))) :=
  ed_call (x := (c, g)) h0 (eds_cons h1 (eds_cons h2 eds_nil))
theorem ed_right {F G : List (List Int)} (h1 : EvD K ta σ H (.list (F.map eI))) (h2 : EvD K tb σ H (.list (G.map eI))) (h0 : (∀ g ∈ F, g.length ≤ 1000) ∧ G.length ≤ 1000) : EvD K (tCall (spRight K) [] E (tCons ta (tCons tb tNil))) σ H (.bool (decide (F = G))) :=
  ed_call (x := (F, G)) h0 (eds_cons h1 (eds_cons h2 eds_nil))
variable {tr : TA} {d : PyData} {K' : PySem.W.Frag} {ds es : List PyData}
theorem i_Behind (h : EvD K (tCall (spBehind K') [] E tr) σ H d) : EvD K (tCall (spBehind K') [] E tr) σ H d := h
theorem i_LGroup (h : EvD K (tCall (spLGroup K') [] E tr) σ H d) : EvD K (tCall (spLGroup K') [] E tr) σ H d := h
theorem i_Right (h : EvD K (tCall (spRight K') [] E tr) σ H d) : EvD K (tCall (spRight K') [] E tr) σ H d := h
theorem rd_inB {b : Bool} {bs : List Bool} : RD K (rIn K true) (.bool b) (.list (bs.map .bool)) (.bool (!bs.contains b)) := fun H x y hx hy Q q => by
  obtain ⟨a, xs, rfl, hs, hd⟩ := dp_lst.mp hy
  rw [dpa_bls.mp hd] at hs
  rw [dp_bl.mp hx]
  have fl : ∀ bs : List Bool, (bs.map V.bl).all flatV = true := fun bs => by induction bs with
    | nil => rfl
    | cons c r ih => rw [List.map_cons, List.all_cons, ih]; rfl
  have iv : ∀ bs : List Bool, inV (.bl b) (bs.map V.bl) = bs.contains b := fun bs => by
    induction bs with
    | nil => rfl
    | cons c r ih =>
      unfold inV at ih ⊢
      rw [List.map_cons, List.any_cons, ih, List.contains_cons]
      cases b <;> cases c <;> rfl
  refine ⟨a, _, rfl, .inl hs, rfl, fl bs, ?_⟩
  rw [if_pos rfl, iv]
  exact q _ H (Evl.Ex.refl H) (.bl _)
theorem en_cat {i : Nat} {v : V} {H0 : Hp} (h1 : σ[i]? = some (some v)) (hv : NewL K H0 v H ds) (h2 : EvN K tb σ H es) (hl : ds.length + es.length ≤ 100000) : EvN K (tOp rCat (tVar i) tb) σ H (ds ++ es) := fun H1 x Q q =>
  ⟨v, h1, h2 H1 x _ fun u H2 x2 hu => by
    obtain ⟨p, xs, rfl, _, p1, p2⟩ := hv
    obtain ⟨r, ys, rfl, r0, r1, r2⟩ := hu
    have e1 := dpa_len p2
    have e2 := dpa_len r2
    refine ⟨p, r, xs, ys, rfl, rfl, x2 _ _ (x _ _ p1), r1, Evl.sz_of (by omega), fun z hz => q _ _ (x2.trans (Evl.Ex.new hz)) ⟨z, _, rfl, Evl.fresh_back x2 hz, upd_same, dpa_app (dpa_mono ((x.trans x2).trans (Evl.Ex.new hz)) _ _ p2) (dpa_mono (Evl.Ex.new hz) _ _ r2)⟩⟩⟩
end
section
variable {K : PySem.W.Frag} {σ : L2.St} {H : Hp} {a D C : Addr} {i : Nat} {b : Bool}
theorem named_one {c : Addr} : ∀ u, RelV (.ref c) u → u = .ref c := fun u r => by cases r; rfl
theorem named_ty {T : String} : ∀ u, RelV (.ty T) u → u = .type T := fun u r => by cases r; rfl
theorem ed_isX (hi : σ[i]? = some (some (.ref a))) (c : ExcC K D) (h : PySem.W.kitOne K (.ref D) (.ref C) = some b) : EvD K (tCB (rIsX K (.ref D) none a) (tCons (tVar i) (tCons (tC (.ref C)) tNil))) σ H (.bool b) := fun H1 x Q q =>
  ⟨_, hi, D, rfl, rfl, c, .ref C, .ref C, b, rfl, named_one, h, q _ H1 (Evl.Ex.refl H1) (.bl b)⟩
theorem ed_isV {T : String} (hi : σ[i]? = some (some (.ref a))) (c : ExcC K D) (h : PySem.W.kitOne K (.ref D) (.type T) = some b) : EvD K (tCB (rIsX K (.ref D) none a) (tCons (tVar i) (tCons (tC (.ty T)) tNil))) σ H (.bool b) := fun H1 x Q q =>
  ⟨_, hi, D, rfl, rfl, c, .ty T, .type T, b, rfl, named_ty, h, q _ H1 (Evl.Ex.refl H1) (.bl b)⟩
end
theorem w_clr {K : PySem.W.Frag} {σ : L2.St} {H : Hp} {D : Ends} {tz : TS} {i : Nat} {p : Addr} {xs : List V} (hi : σ[i]? = some (some (.ref p))) (hp : H p = some (.lst xs)) (k : tz D σ (upd H p (.lst []))) : tSeq (tDrop (tBM0 K "list" rClear (tVar i))) tz D σ H :=
  ⟨_, hi, .inl ⟨rfl, _, SqL.of hp⟩, p, xs, rfl, rfl, hp, k⟩

end Fy

namespace Fy
open PySem PySem.Spec PyProof.Rows L2
end Fy
local macro_rules | `(tactic| walk_at "ed") => `(tactic| ((with_reducible refine' Fy.i_Behind ?hh); (case hh => exact Fy.ed_behind (by walk_at "ed") (by walk_at "ed") (by walk_at "ed") (by walk_at "side"))))
local macro_rules | `(tactic| walk_at "ed") => `(tactic| ((with_reducible refine' Fy.i_LGroup ?hh); (case hh => exact Fy.ed_lgroup (by walk_at "ed") (by walk_at "ed") (by walk_at "side"))))
local macro_rules | `(tactic| walk_at "ed") => `(tactic| ((with_reducible refine' Fy.i_Right ?hh); (case hh => exact Fy.ed_right (by walk_at "ed") (by walk_at "ed") (by walk_at "side"))))

namespace Fy
open PySem PySem.Spec PyProof.Rows L2
theorem behind_len {s : List Int × Int} {c : List Int} {m : Nat} (h : s.1.length ≤ 1000) (hm : m ≤ 1000) : (behind s c m).1.length ≤ 1000 := by
  unfold behind
  split
  · exact Nat.le_trans (List.length_filter_le _ _) h
  · refine Nat.le_trans (List.length_filter_le _ _) ?_
    rw [rng_len]; exact hm
theorem rest_len1000 {g : List Int} {m : Nat} (h : m ≤ 1000) : (restOf g m).length ≤ 1000 := Nat.le_trans restOf_len h
theorem groups_len {m : Nat} : (groups m).length = 2 ^ m := by unfold groups; rw [List.length_map, List.length_range]
section
variable {P : Program} {w : World} {K : PySem.W.Frag} {mg : Str → Option Value} {base : Heap}
theorem sc__law_behind : FnScope ["standing", "crew", "many", "thing"] ["standing", "crew", "many"] (defScope s__law_behind) := ⟨rfl, rfl, rfl, by decide +kernel, rfl, by decide +kernel, by decide +kernel⟩
theorem ok__law_behind (T : Tx K mg) : Has P w K mg base CX0 1 "_law_behind" ["standing", "crew", "many"] (spBehind K) := by
  obtain ⟨fd, F⟩ := T.f__law_behind
  refine ⟨T.g__law_behind, fd, F.ok sc__law_behind (fun vs H Q E h => ?_) (fun cdv A outer s H vs Q E hr h => ⟨_, PSs.nox (pss_cons (ps_if (pt_cmpR op_eq (pe_ix (r := rIxT K) ix_tup (pv 0) pe_int (fun _ _ => rfl)) pe_int (nomark _)) (pss_one (ps_ret (pe_tup (pa_cons (pe_callTy (r := rTupQ K) call_tuple_of (by rfl) T.b_tuple (by decide +kernel) (pa_cons (pe_lc (own := [("thing", 3)]) (g := gName 3) (by rfl) sc__law_behind.nd (pi_tup (pe_ix (r := rIxT K) ix_tup (pv 0) pe_int (fun _ _ => rfl))) (blkOk_by (N := ["standing", "crew", "many", "thing"]) (sc := defScope s__law_behind) (by decide +kernel)) (fun _ _ _ _ _ => pg_name (i := 3) sc__law_behind.nd rfl (.inl rfl)) (fun _ _ _ _ _ => (pts_one (pt_cmpR (r := rIn K true) op_notIn_seq (pv 3) (pv 1) (by rfl)))) (fun _ _ _ _ _ => (pv 3))) pa_nil)) (pa_cons pe_int pa_nil))))) pss_nil)
      (pss_one (ps_ret (pe_tup (pa_cons (pe_callTy (r := rTupQ K) call_tuple_of (by rfl) T.b_tuple (by decide +kernel) (pa_cons (pe_lc (own := [("thing", 3)]) (g := gName 3) (by rfl) sc__law_behind.nd (pi_range1 rfl T.b_range (pa_cons (pv 2) pa_nil)) (blkOk_by (N := ["standing", "crew", "many", "thing"]) (sc := defScope s__law_behind) (by decide +kernel)) (fun _ _ _ _ _ => pg_name (i := 3) sc__law_behind.nd rfl (.inl rfl)) (fun _ _ _ _ _ => (pts_one (PW.pt (pw_or (pt_cmpR (r := rIn K false) op_in_seq (pv 3) (pe_ix (r := rIxT K) ix_tup (pv 0) pe_int (fun _ _ => rfl)) (by rfl)) (pw_or1 (pt_cmpR (r := rIn K false) op_in_seq (pv 3) (pv 1) (by rfl))))))) (fun _ _ _ _ _ => (pv 3))) pa_nil)) (pa_cons pe_int pa_nil)))))), ?_⟩), F.bindsN fun _ _ _ _ _ _ us hl => match us, hl with | [_, _, _], _ => rfl, F.kp⟩
  · exact spP.len (n := 3) (fun _ => rfl) h
  · obtain ⟨⟨s, c, m⟩, ⟨h1, h2⟩, hv0, q⟩ := h
    dsimp only at h1 h2 hv0 q
    obtain ⟨v, u, t, rfl, hv, hu, ht⟩ := dpa3 hv0
    cases dp_int.mp ht
    refine' w_when K (b := decide (s.2 = 0)) ?tt (fun hb H3 x3 => ?_) (fun hb H3 x3 => ?_)
    case tt => walk_at "et"
    · have e : behind s c m = (s.1.filter (fun t => !c.contains t), 1) := by unfold behind; rw [if_pos (by simpa using hb)]
      refine' w_ret1 (K := K) (d := eS (s.1.filter (fun t => !c.contains t), 1)) (ed_tup (eds_cons (ed_cb (eds_cons (en_fmT .int (xs := s.1) (fun t => !c.contains t) .int (fun _ => rfl) ?tx (by omega) (fun _ => rfl) (fun i a v H1 _ x1 hv => ?tc) (fun i a v H1 _ _ x1 hv => ?te)).toD eds_nil) cd_tupL) (eds_cons ed_int eds_nil)) (show 2 ≤ 100000 by decide)) (fun v4 H4 x4 h4 => q v4 H4 (x3.trans x4) (by rw [e]; exact h4))
      case tx =>
        refine (?tq : EvD K _ _ _ (eI s.1))
        walk_at "ed"
      case tc => walk_at "et"
      case te => walk_at "ed"
    · have e : behind s c m = ((rng m).filter (fun t => s.1.contains t || c.contains t), 0) := by unfold behind; rw [if_neg (by simpa using hb)]
      refine' w_ret1 (K := K) (d := eS ((rng m).filter (fun t => s.1.contains t || c.contains t), 0)) (ed_tup (eds_cons (ed_cb (eds_cons (en_filR (n := (m : Int)) (fun t => s.1.contains t || c.contains t) ?tx (by omega) (fun _ => rfl) (fun _ => rfl) (fun i hi => ?tc)).toD eds_nil) cd_tupL) (eds_cons ed_int eds_nil)) (show 2 ≤ 100000 by decide)) (fun v4 H4 x4 h4 => q v4 H4 (x3.trans x4) (by rw [e]; exact h4))
      case tx => walk_at "eds"
      case tc => walk_at "et"
theorem sc__law_crews : FnScope ["things", "room", "quarrels", "standing", "many", "bank", "found", "crew", "rowing", "thing"] ["things", "room", "quarrels", "standing"] (defScope s__law_crews) := ⟨rfl, rfl, rfl, by decide +kernel, rfl, by decide +kernel, by decide +kernel⟩
theorem ok__law_crews (T : Tx K mg) : Has P w K mg base CX0 3 "_law_crews" ["things", "room", "quarrels", "standing"] (spLCrews K) := by
  obtain ⟨fd, F⟩ := T.f__law_crews
  have G__law_groups := ok__law_groups (P := P) (w := w) (base := base) T
  have G__law_good := ok__law_good (P := P) (w := w) (base := base) T
  have G__law_behind := ok__law_behind (P := P) (w := w) (base := base) T
  have G__law_rest := ok__law_rest (P := P) (w := w) (base := base) T
  refine ⟨T.g__law_crews, fd, F.ok sc__law_crews (fun vs H Q E h => ?_) (fun cdv A outer s H vs Q E hr h => ⟨_, PSs.nox (pss_cons (ps_set (i := 4) sc__law_crews.nd rfl (.inl rfl) (pe_callB (r := rLenQ K) call_len_seq (by rfl) T.b_len (by decide +kernel) (pa_cons (pv 0) pa_nil)))
      (pss_cons (ps_set (i := 5) sc__law_crews.nd rfl (.inr rfl) (pe_ix (r := rIxT K) ix_tup (pv 3) pe_int (fun _ _ => rfl)))
      (pss_cons (ps_if (pt_cmpR op_eq (pe_ix (r := rIxT K) ix_tup (pv 3) pe_int (fun _ _ => rfl)) pe_int (nomark _)) (pss_one (ps_set (i := 5) sc__law_crews.nd rfl (.inr rfl) (pe_f G__law_rest (hr.mono (by decide)) rfl (pa_cons (pe_ix (r := rIxT K) ix_tup (pv 3) pe_int (fun _ _ => rfl)) (pa_cons (pv 4) pa_nil))))) pss_nil)
      (pss_cons (ps_set (i := 6) sc__law_crews.nd rfl (.inl rfl) (pe_lst pa_nil))
      (pss_cons (ps_for PassesOwn.never rfl (pi_list (pe_f G__law_groups (hr.mono (by decide)) rfl (pa_cons (pv 4) pa_nil))) (pg_name (i := 7) sc__law_crews.nd rfl (.inl rfl)) (pss_one (ps_if (PW.pt (pw_and (pt_chain op_le op_le pe_int (pe_callB (r := rLenQ K) call_len_seq (by rfl) T.b_len (by decide +kernel) (pa_cons (pv 7) pa_nil)) (pv 1)) (pw_and1 (pt_cmpR op_eq (pe_callB (r := rLenQ K) call_len_seq (by rfl) T.b_len (by decide +kernel) (pa_cons (pe_lc (own := [("thing", 9)]) (g := gName 9) (by rfl) sc__law_crews.nd (pi_tup (pv 7)) (blkOk_by (N := ["things", "room", "quarrels", "standing", "many", "bank", "found", "crew", "rowing", "thing"]) (sc := defScope s__law_crews) (by decide +kernel)) (fun _ _ _ _ _ => pg_name (i := 9) sc__law_crews.nd rfl (.inl rfl)) (fun _ _ _ _ _ => (pts_one (pt_cmpR (r := rIn K true) op_notIn_seq (pv 9) (pv 5) (by rfl)))) (fun _ _ _ _ _ => (pv 9))) pa_nil)) pe_int (nomark _))))) (pss_cons (ps_setLc (i := 8) (hy := by rfl) (hyl := by rfl) (hsw := sw_true rfl rfl rfl (by decide +kernel)) (hc := by rfl) (hN := sc__law_crews.nd) (own := [("thing", 9)]) (g := gName 9) (hi := (pi_tup (pv 7))) (ok := blkOk_by (N := ["things", "room", "quarrels", "standing", "many", "bank", "found", "crew", "rowing", "thing"]) (sc := defScope s__law_crews) (by decide +kernel)) (hg := fun _ _ _ _ _ => pg_name (i := 9) sc__law_crews.nd rfl (.inl rfl)) (ht := fun _ _ _ _ _ => (pts_one (pt_val (pe_ix (r := rIxT K) ix_tup (pe_ix (r := rIxL K) ix_list (pv 0) (pv 9) (fun _ _ => rfl)) pe_int (fun _ _ => rfl))))) (he := fun _ _ _ _ _ => (pv 9)))
      (pss_one (ps_if (PW.pt (pw_and (pt_cmpR op_gt (pe_callB (r := rLenQ K) call_len_seq (by rfl) T.b_len (by decide +kernel) (pa_cons (pv 8) pa_nil)) pe_int (nomark _)) (pw_and1 (pt_val (pe_f G__law_good (hr.mono (by decide)) rfl (pa_cons (pv 2) (pa_cons (pe_ix (r := rIxT K) ix_tup (pe_f G__law_behind (hr.mono (by decide)) rfl (pa_cons (pv 3) (pa_cons (pv 7) (pa_cons (pv 4) pa_nil)))) pe_int (fun _ _ => rfl)) (pa_cons (pv 4) pa_nil)))))))) (pss_one (ps_expr (pe_bm PySem.F.plainAttrs_list PySem.F.slot_list_append PySem.F.type_list_append mt_append (pv 6) (pa_cons (pv 7) pa_nil)))) pss_nil))) pss_nil)))
      (pss_one (ps_ret (pe_callB (r := rSortTI K) (cr_sortTI hr.units) (by rfl) T.b_sorted (by decide +kernel) (pa_cons (pv 6) pa_nil))))))))), ?_⟩), F.bindsN fun _ _ _ _ _ _ us hl => match us, hl with | [_, _, _, _], _ => rfl, F.kp⟩
  · exact spL.len (n := 4) (fun _ => rfl) h
  · obtain ⟨⟨n, s⟩, ⟨h1, h2⟩, hv0, q⟩ := h
    dsimp only at h1 h2 hv0 q
    obtain ⟨v0, v1, v2, v3, rfl, hv, hu, ht, hw⟩ : ∃ v u t x, vs = [v, u, t, x] ∧ Dp K H v (.list (n.things.map eT)) ∧ Dp K H u (.int n.room) ∧ Dp K H t (.list (n.quarrels.map eQ)) ∧ Dp K H x (eS s) := by
      cases hv0 with
      | cons a b =>
        obtain ⟨u, t, x, rfl, b1, b2, b3⟩ := dpa3 b
        exact ⟨_, u, t, x, rfl, a, b1, b2, b3⟩
    cases dp_int.mp hu
    have lm : n.things.length ≤ 1000 := by omega
    refine' w_asg (K := K) (d := .int ((n.things.map eT).length : Nat)) ?t1 (fun v4 H1 x1 h4 => ?_)
    case t1 => walk_at "ed"
    rw [List.length_map] at h4
    cases dp_int.mp h4
    refine' w_asg (K := K) (d := eI s.1) ?t2 (fun v5 H2 x2 h5 => ?_)
    case t2 => walk_at "ed"
    have hw2 : Dp K H2 v3 (eS s) := dp_mono (x1.trans x2) _ _ hw
    have x02 := x1.trans x2
    refine' w_join (fun σ' H' => ∃ v5, σ' = [some v0, some (.int n.room), some v2, some v3, some (.int (n.things.length : Nat)), some v5, none, none, none, none] ∧ Ex H2 H' ∧ Dp K H' v5 (eI (lawBank n.things.length s))) ?go (fun go => ?main)
    case main =>
      refine' w_when K (b := decide (s.2 = 1)) ?tt (fun hb H3 x3 => ?_) (fun hb H3 x3 => ?_)
      case tt => walk_at "et"
      · refine' w_asg1 (K := K) (d := eI (restOf s.1 n.things.length)) ?ta (fun v6 H4 x4 h6 => go _ _ ⟨v6, rfl, x3.trans x4, ?_⟩)
        case ta => walk_at "ed"
        unfold lawBank
        rw [if_pos (by simpa using hb)]
        exact h6
      · refine go _ _ ⟨v5, rfl, x3, ?_⟩
        unfold lawBank
        rw [if_neg (by simpa using hb)]
        exact dp_mono x3 _ _ h5
    case go =>
      rintro σ' H3 ⟨v5, rfl, x3, hb5⟩
      have x03 := x02.trans x3
      refine' w_asgN (K := K) (ds := []) (en_lst eds_nil (by decide)) (fun v6 H4 x4 hL => ?_)
      obtain ⟨l, xs, rfl, l0, l1, l2⟩ := hL
      refine' w_layN (K := K) (l := l) (H0 := H3) (ds := (groups n.things.length).map eI) (en_groups (m := n.things.length) ?tg h1) (noLs_map noL_eI _) x4 l0 (fun i => (((groups n.things.length).take i).filter (n.lawLets s)).map eI) (fun i => noLs_map noL_eI _) ⟨xs, l1, by rw [List.take_zero]; exact l2⟩ (fun i σ => ∃ y z, σ = [some v0, some (.int n.room), some v2, some v3, some (.int (n.things.length : Nat)), some v5, some (.ref l), y, z, none]) ⟨none, none, rfl⟩ ?_ ?_
      case tg => walk_at "ed"
      · rintro i d x σ' H' ys hd x5 hx ⟨y, z, rfl⟩ hl hD
        obtain ⟨c, hc, rfl⟩ := get_map hd
        have hsub := groups_iff.mp (List.mem_of_getElem? hc)
        have hci := sub_in hsub
        have hcl := sub_len hsub
        have hx' : Dp K H' x (eI c) := hx
        have x05 := x03.trans x5
        have lng : ((groups n.things.length).take i).length ≤ 64 := by
          rw [List.length_take, groups_len]
          have : 2 ^ n.things.length ≤ 2 ^ 6 := Nat.pow_le_pow_right (by decide) h1
          omega
        have no : n.lawLets s c = false → ∀ σ2 H2, (∃ y z, σ2 = [some v0, some (.int n.room), some v2, some v3, some (.int (n.things.length : Nat)), some v5, some (.ref l), y, z, none]) → Ex H' H2 → LayS K l H' (fun σ => ∃ y z, σ = [some v0, some (.int n.room), some v2, some v3, some (.int (n.things.length : Nat)), some v5, some (.ref l), y, z, none]) ((((groups n.things.length).take (i + 1)).filter (n.lawLets s)).map eI) σ2 H2 := fun e σ2 H2 hσ x6 => by
          refine ⟨hσ, ExB.ex x6, ys, x6 _ _ hl, ?_⟩
          rw [take_snoc hc, List.filter_append, List.filter_cons, if_neg (by rw [e]; exact Bool.false_ne_true), List.filter_nil, List.append_nil]
          exact dpa_mono x6 _ _ hD
        have comp : EvN K (tLc (iTup K (tVar 7)) (gName 9) (tTest (tOp (rIn K true) (tVar 9) (tVar 5))) (tVar 9) [9]) [some v0, some (.int n.room), some v2, some v3, some (.int (n.things.length : Nat)), some v5, some (.ref l), some x, z, none] H' ((c.filter fun t => !(lawBank n.things.length s).contains t).map .int) := by
          refine' en_fmT .int (fun t => !(lawBank n.things.length s).contains t) .int (fun _ => rfl) (ed_var rfl hx') (by omega) (fun _ => rfl) (fun i a v H1 ha x1 hv => ?b) (fun i a v H1 ha _ x1 hv => ed_var rfl hv)
          case b =>
            have hb5' := dp_mono (x5.trans x1) _ _ hb5
            walk_at "et"
        show tIfS _ _ _ _ _ _
        refine' w_when1 K (b := (decide (1 ≤ ((c.map PyData.int).length : Int)) && decide (((c.map PyData.int).length : Int) ≤ n.room)) && decide ((((c.filter fun t => !(lawBank n.things.length s).contains t).map PyData.int).length : Int) = 0)) (eb_and ?ta (fun _ => eb_d (ed_op (ed_cb (eds_cons comp.toD eds_nil) cd_lenL) ed_int rd_eqI))) (fun hb H4 x6 => ?_) (fun hb H4 x6 => ?_)
        case ta =>
          refine eb_d (ed_chain ed_int ?tc ?td)
          case tc => exact ed_cb (eds_cons (ed_var rfl hx') eds_nil) (cd_lenT (ds := c.map .int))
          case td => walk_at "ed"
        · rw [List.length_map, List.length_map] at hb
          have x46 := x5.trans x6
          refine' w_asgN (K := K) (en_fmT .int (rowsAt n.things) .int (fun _ => rfl) (ed_var rfl (dp_mono x6 _ _ hx')) (by omega) (fun _ => rfl) (fun i a v H1 ha x1 hva => ?b2) (fun i a v H1 ha _ x1 hva => ed_var rfl hva)) (fun v8 H5 x7 hR => ?_)
          case b2 =>
            have hm := hci a (List.mem_of_getElem? ha)
            have hv' := dp_mono ((x05.trans x6).trans x1) _ _ hv
            exact eb_dB (ed_op (d := eT (n.things.getD a.toNat (0, false))) (ed_op (ed_var rfl hv') (ed_var rfl hva) (rd_ixL (atI_map hm.1 hm.2))) ed_int (rd_ixT (by rfl)))
          have hRd := hR.dp
          have x47 := x46.trans x7
          have x57 := x6.trans x7
          have x07 := x03.trans x47
          have hx7 := dp_mono x57 _ _ hx'
          have hbl : s.1.length ≤ 1000 ∧ n.things.length ≤ 1000 := ⟨h2, lm⟩
          refine' w_when1 K (b := decide (0 < (((c.filter (rowsAt n.things)).map PyData.int).length : Int)) && Fy.good n.quarrels (behind s c n.things.length).1 n.things.length) (eb_and ?ta (fun _ => eb_dB (ed_good (qs := n.quarrels) ?tb (ed_op (d := eS (behind s c n.things.length)) ?tc ed_int (rd_ixT (by rfl))) ?te lm))) (fun hb2 H6 x8 => ?_) (fun hb2 H6 x8 => ?_)
          case ta => walk_at "et"
          case tb => walk_at "ed"
          case tc => walk_at "ed"
          case te => walk_at "ed"
          · rw [List.length_map] at hb2
            have ht : n.lawLets s c = true := by
              unfold Nt.lawLets
              rw [hb, hb2]
              rfl
            refine w_lay (acc := (((groups n.things.length).take i).filter (n.lawLets s)).map eI) (d := eI c) rfl (ed_var rfl (dp_mono (x57.trans x8) _ _ hx')) (ExB.ex (x57.trans x8)) ((x57.trans x8) _ _ hl) (dpa_mono (x57.trans x8) _ _ hD) (noLs_map noL_eI _) (noL_eI _) ?_ ?_ ⟨_, _, rfl⟩ (fun σ3 H3 h3 => h3)
            · have h2 := List.length_filter_le (n.lawLets s) ((groups n.things.length).take i)
              rw [List.length_map]
              omega
            · rw [take_snoc hc, List.filter_append, List.map_append]
              congr 1
              rw [List.filter_cons, if_pos ht]
              rfl
          · rw [List.length_map] at hb2
            refine no ?_ _ _ ⟨_, _, rfl⟩ (x57.trans x8)
            unfold Nt.lawLets
            rw [hb2, Bool.and_false]
        · rw [List.length_map, List.length_map] at hb
          refine no ?_ _ _ ⟨_, _, rfl⟩ x6
          unfold Nt.lawLets
          rw [hb, Bool.false_and]
      · rintro σ' H' ys x5 ⟨y, z, rfl⟩ hl hD
        rw [List.length_map, List.take_length] at hD
        have hk : SortI ((groups n.things.length).filter (n.lawLets s)) := .inl fun g hg e => by
          have := (List.mem_filter.mp hg).2
          rw [e] at this
          simp [Nt.lawLets] at this
        have hdl : Dp K H' (.ref l) (.list (((groups n.things.length).filter (n.lawLets s)).map eI)) := dp_lst.mpr ⟨l, ys, rfl, SqL.of hl, hD⟩
        exact w_retN1 (K := K) (en_cb (eds_cons (ed_var rfl hdl) eds_nil) (cn_sortTI hk)) fun v9 H9 x9 h9 => q v9 H9 ((x03.trans x5).trans x9) (h9.back (x03.trans x5))
end

end Fy

namespace Fy
open PySem PySem.Spec PyProof.Rows L2
/-! ### one crossing: promises -/
/-- the slowest -/
def maxI (l : List Int) : Int := l.max?.getD 0
theorem maxI_eq {l : List Int} {m : Int} (h1 : m ∈ l) (h2 : ∀ y ∈ l, y ≤ m) : m = maxI l := by
  unfold maxI
  rw [List.max?_eq_some_iff.mpr ⟨h1, h2⟩]
  rfl
def minutesOf (ts : List (Int × Bool)) (c : List Int) : Int := maxI (c.map (paceAt ts))
theorem units65 {k : Nat} {A : Around} (r : Room k A) : A.units + 65 < cLine := by have := r.un; omega
def spMinutes (K : PySem.W.Frag) : Sp := spNS K eI (fun n c => few n ∧ inThings n.things.length c ∧ c.length ≤ 1000 ∧ c ≠ []) (fun n c => .int (minutesOf n.things c))
def spLMinutes (K : PySem.W.Frag) : Sp := spP K (fun x : List (Int × Bool) × List Int => inThings x.1.length x.2 ∧ x.2.length ≤ 1000 ∧ x.2 ≠ []) (fun x => [.list (x.1.map eT), eI x.2]) (fun x => .int (minutesOf x.1 x.2))
def spAfter (K : PySem.W.Frag) : Sp := fun vs H Q E => ∃ v n u s w c, vs = [v, u, w] ∧ NightAt K H v n ∧ Dp K H u (eS s) ∧ Dp K H w (eI c) ∧ n.things.length ≤ 6 ∧
  (standOk n.things.length s = true → n.good s = true → c ∈ n.crews s → RetR (fun v H' => Dp K H' v (eS (ledOver s c))) H Q) ∧
  (standOk n.things.length s = true → n.good s = true → c ∉ n.crews s → ∀ H', Ex H H' → E (.ref (He.ga K "NoCrew")) none H') ∧
  (standOk n.things.length s = false → ∀ H', Ex H H' → E (.ref (He.ga K "NoStanding")) none H') ∧ (standOk n.things.length s = true → n.good s = false → ∀ H', Ex H H' → E (.ref (He.ga K "BadStart")) none H')
theorem go_next {D : Ends} {σ : L2.St} {H : Hp} (h : D.nx σ H) : tNext D σ H := h
theorem ite_t {p q : Prop} (h : q) : if (!true) = true then p else q := h
theorem ite_n {p q : Prop} (h : p) : if (!false) = true then p else q := h
theorem sh_eIs (xs : List (List Int)) : SeqAt.shaped (.list (xs.map eI)) = true := sh_lst lay_eI (fun x => Nat.le_trans (dep_eI x) (by decide)) xs
theorem sh_eSs (xs : List (List Int × Int)) : SeqAt.shaped (.list (xs.map eS)) = true := sh_lst lay_eS (fun x => Nat.le_trans (dep_eS x) (by decide)) xs
theorem any_eI (c : List Int) (L : List (List Int)) : ((L.map eI).any fun z => PyData.eqv z (eI c)) = decide (c ∈ L) := by
  rw [List.any_map]
  have : (fun z => PyData.eqv z (eI c)) ∘ eI = fun g => decide (g = c) := by funext g; exact eqv_eI g c
  rw [this]
  rw [Bool.eq_iff_iff, List.any_eq_true, decide_eq_true_eq]
  constructor
  · rintro ⟨g, hg, e⟩; rw [← of_decide_eq_true e]; exact hg
  · intro h; exact ⟨c, h, by simp⟩
theorem any_eS (c : List Int × Int) (L : List (List Int × Int)) : ((L.map eS).any fun z => PyData.eqv z (eS c)) = decide (c ∈ L) := by
  rw [List.any_map]
  have : (fun z => PyData.eqv z (eS c)) ∘ eS = fun g => decide (g = c) := by funext g; exact eqv_eS g c
  rw [this]
  rw [Bool.eq_iff_iff, List.any_eq_true, decide_eq_true_eq]
  constructor
  · rintro ⟨g, hg, e⟩; rw [← of_decide_eq_true e]; exact hg
  · intro h; exact ⟨c, h, by simp⟩
section
variable {K : PySem.W.Frag} {σ : L2.St} {H : Hp} {ta tb : TE} {E : XK} {i : Nat} {v : V} {n : Nt} {c : List Int} {ts : List (Int × Bool)}
theorem cd_max {ns : List Int} (hn : ns ≠ []) : CD K (rMax K) [.list (ns.map .int)] (.int (maxI ns)) := fun H vs h Q q => by
  obtain ⟨v1, rfl, h1⟩ := dpa1 h
  obtain ⟨a, xs, rfl, hs, hd⟩ := dp_lst.mp h1
  rw [dpa_ints.mp hd] at hs
  refine ⟨a, ns, rfl, hs, List.length_pos_iff.mpr hn, fun m hm hy => ?_⟩
  rw [maxI_eq hm hy]
  exact q _ H (Evl.Ex.refl H) (.int _)
theorem ed_minutes (hi : σ[i]? = some (some v)) (hN : NightAt K H v n) (hb : EvD K tb σ H (eI c)) (hd : few n ∧ inThings n.things.length c ∧ c.length ≤ 1000 ∧ c ≠ []) : EvD K (tCall (spMinutes K) [] E (tCons (tVar i) (tCons tb tNil))) σ H (.int (minutesOf n.things c)) := ed_ns hi hN hb hd
theorem ed_lminutes (ts : List (Int × Bool)) (h1 : EvD K ta σ H (.list (ts.map eT))) (hb : EvD K tb σ H (eI c)) (hd : inThings ts.length c ∧ c.length ≤ 1000 ∧ c ≠ []) : EvD K (tCall (spLMinutes K) [] E (tCons ta (tCons tb tNil))) σ H (.int (minutesOf ts c)) :=
  ed_call (x := (ts, c)) hd (eds_cons h1 (eds_cons hb eds_nil))
variable {tr : TA} {d : PyData} {K' : PySem.W.Frag}
theorem i_Minutes (h : EvD K (tCall (spMinutes K') [] E tr) σ H d) : EvD K (tCall (spMinutes K') [] E tr) σ H d := h
theorem i_LMinutes (h : EvD K (tCall (spLMinutes K') [] E tr) σ H d) : EvD K (tCall (spLMinutes K') [] E tr) σ H d := h
end

end Fy

namespace Fy
open PySem PySem.Spec PyProof.Rows L2
end Fy
local macro_rules | `(tactic| walk_at "ed") => `(tactic| ((with_reducible refine' Fy.i_Minutes ?hh); (case hh => exact Fy.ed_minutes rfl (by walk_at "na") (by walk_at "ed") (by walk_at "side"))))

namespace Fy
open PySem PySem.Spec PyProof.Rows L2
section
variable {P : Program} {w : World} {K : PySem.W.Frag} {mg : Str → Option Value} {base : Heap}
theorem sc_minutes : FnScope ["night", "crew", "thing"] ["night", "crew"] (defScope s_minutes) := ⟨rfl, rfl, rfl, by decide +kernel, rfl, by decide +kernel, by decide +kernel⟩
theorem ok_minutes (T : Tx K mg) : Has P w K mg base CX0 2 "minutes" ["night", "crew"] (spMinutes K) := by
  obtain ⟨fd, F⟩ := T.f_minutes
  have N_things := ok_Night_things (P := P) (w := w) (base := base) T
  refine ⟨T.g_minutes, fd, F.ok sc_minutes (fun vs H Q E h => ?_) (fun cdv A outer s H vs Q E hr h => ⟨_, PSs.nox (pss_one (ps_ret (pe_callB (r := rMax K) (cr_max rfl) (by rfl) T.b_max (by decide +kernel) (pa_cons (pe_lc (own := [("thing", 2)]) (g := gName 2) (by rfl) sc_minutes.nd (pi_tup (pv 1)) (blkOk_by (N := ["night", "crew", "thing"]) (sc := defScope s_minutes) (by decide +kernel)) (fun _ _ _ _ _ => pg_name (i := 2) sc_minutes.nd rfl (.inl rfl)) (fun _ _ _ _ _ => pts_nil) (fun _ _ _ _ _ => (pe_ix (r := rIxT K) ix_tup (pe_ix (r := rIxL K) ix_list (pe_nm0 (C := He.ga K "Night") (pv 0) N_things (hr.mono (by decide)) pass0) (pv 2) (fun _ _ => rfl)) pe_int (fun _ _ => rfl)))) pa_nil)))), ?_⟩), F.bindsN fun _ _ _ _ _ _ us hl => match us, hl with | [_, _], _ => rfl, F.kp⟩
  · obtain ⟨v, n, u, s, rfl, _⟩ := h
    rfl
  · obtain ⟨v, n, u, c, rfl, N, hu, ⟨hf, hin, hc, hne⟩, k⟩ := h
    have comp : EvN K (tLc (iTup K (tVar 1)) (gName 2) tYes (tOp (rIxT K) (tOp (rIxL K) (tMeth (He.ga K "Night") "things" (spNThings K) [] E0 (tVar 0) tNil) (tVar 2)) (tC (.int 0))) [2]) [some v, some u, none] H ((c.map (paceAt n.things)).map .int) := by
      refine' EvN.cast (en_mapT (xs := c) .int (fun t => .int (paceAt n.things t)) (fun _ => rfl) (ed_var rfl hu) (by omega) (fun _ => rfl) (fun i a v H1 ha x1 hva => ?b)) (by rw [List.map_map]; rfl)
      case b =>
        have hm := hin a (List.mem_of_getElem? ha)
        refine ed_op (d := eT (n.things.getD a.toNat (0, false))) (ed_op (d := .list (n.things.map eT)) ?e1 (ed_var rfl hva) (rd_ixL (atI_map hm.1 hm.2))) ed_int (rd_ixT (by rfl))
        case e1 => walk_at "ed"
    exact w_ret1 (K := K) (d := .int (minutesOf n.things c)) (ed_cb (eds_cons comp.toD eds_nil) (cd_max (fun e => hne (List.map_eq_nil_iff.mp e)))) (fun v4 H4 x4 h4 => k v4 H4 x4 h4)
theorem sc__law_minutes : FnScope ["things", "crew", "thing"] ["things", "crew"] (defScope s__law_minutes) := ⟨rfl, rfl, rfl, by decide +kernel, rfl, by decide +kernel, by decide +kernel⟩
theorem ok__law_minutes (T : Tx K mg) : Has P w K mg base CX0 1 "_law_minutes" ["things", "crew"] (spLMinutes K) := by
  obtain ⟨fd, F⟩ := T.f__law_minutes
  refine ⟨T.g__law_minutes, fd, F.ok sc__law_minutes (fun vs H Q E h => ?_) (fun cdv A outer s H vs Q E hr h => ⟨_, PSs.nox (pss_one (ps_ret (pe_callB (r := rMax K) (cr_max rfl) (by rfl) T.b_max (by decide +kernel) (pa_cons (pe_lc (own := [("thing", 2)]) (g := gName 2) (by rfl) sc__law_minutes.nd (pi_tup (pv 1)) (blkOk_by (N := ["things", "crew", "thing"]) (sc := defScope s__law_minutes) (by decide +kernel)) (fun _ _ _ _ _ => pg_name (i := 2) sc__law_minutes.nd rfl (.inl rfl)) (fun _ _ _ _ _ => pts_nil) (fun _ _ _ _ _ => (pe_ix (r := rIxT K) ix_tup (pe_ix (r := rIxL K) ix_list (pv 0) (pv 2) (fun _ _ => rfl)) pe_int (fun _ _ => rfl)))) pa_nil)))), ?_⟩), F.bindsN fun _ _ _ _ _ _ us hl => match us, hl with | [_, _], _ => rfl, F.kp⟩
  · exact spP.len (n := 2) (fun _ => rfl) h
  · obtain ⟨⟨ts, c⟩, ⟨hin, hc, hne⟩, hv0, q⟩ := h
    dsimp only at hin hc hne hv0 q
    obtain ⟨v, u, rfl, hv, hu⟩ := dpa2 hv0
    have comp : EvN K (tLc (iTup K (tVar 1)) (gName 2) tYes (tOp (rIxT K) (tOp (rIxL K) (tVar 0) (tVar 2)) (tC (.int 0))) [2]) [some v, some u, none] H ((c.map (paceAt ts)).map .int) := by
      refine' EvN.cast (en_mapT (xs := c) .int (fun t => .int (paceAt ts t)) (fun _ => rfl) (ed_var rfl hu) (by omega) (fun _ => rfl) (fun i a v H1 ha x1 hva => ?b)) (by rw [List.map_map]; rfl)
      case b =>
        have hm := hin a (List.mem_of_getElem? ha)
        exact ed_op (d := eT (ts.getD a.toNat (0, false))) (ed_op (d := .list (ts.map eT)) (ed_var rfl (dp_mono x1 _ _ hv)) (ed_var rfl hva) (rd_ixL (atI_map hm.1 hm.2))) ed_int (rd_ixT (by rfl))
    exact w_ret1 (K := K) (d := .int (minutesOf ts c)) (ed_cb (eds_cons comp.toD eds_nil) (cd_max (fun e => hne (List.map_eq_nil_iff.mp e)))) (fun v4 H4 x4 h4 => q v4 H4 x4 h4)
end

end Fy

namespace Fy
open PySem PySem.Spec PyProof.Rows L2
/-! ### tuple(reversed(t)), t a tuple -/
section
open PySem.W PySem.Calls PySem.SeqAt RT
theorem rvt_nolen : typeLookup (.type "reversed") "__len__" = pure none := by rw [typeLookup_type, builtinLookup_eq_fast]; kernel_rfl
theorem rvt_slot : Slot "reversed" "__length_hint__" "reversed.__length_hint__" :=
  Slot.of (n := "__length_hint__") (owner := "reversed") (by rw [typeLookup_type, builtinLookup_eq_fast]; kernel_rfl) (by decide +kernel) (by decide +kernel) (by decide +kernel) (by first | exact Or.inl (by decide +kernel) | exact Or.inr (by decide +kernel)) (by rw [isSubtype_type]; kernel_rfl)
theorem rvt_entry : entryFor table "reversed.__length_hint__" = some Builtin.«reversed.__length_hint__» := entryFor_of_tree (by kernel_rfl)
theorem rvt_args (v : Value) : argsOk "reversed.__length_hint__" ⟨[v], []⟩ := by
  unfold argsOk
  rw [signature?_of (id := "reversed.__length_hint__") (n := ['_', '_', 't', 'n', 'i', 'h', '_', 'h', 't', 'g', 'n', 'e', 'l', '_', '_']) (o := ['d', 'e', 's', 'r', 'e', 'v', 'e', 'r']) (by kernel_rfl) owner_rt]
  kernel_rfl
variable {prog : Program} {w : World} {A : Around} {E : Value → Shared → Prop} {s : Shared}
theorem rvt_hint {it t : Addr} {items : Array Value} {Q : Value → Shared → Prop} (hit : IsRt s.heap it t ((items.size : Int) - 1)) (ht : IsTup s.heap t items) (hsz : items.size ≤ sizeLine) (k : ∀ u tk, Q (.int items.size u) { s with toks := tk }) :
    wpAny (model prog w) A (call (.builtin "reversed.__length_hint__") [.ref it]) Q E s := by
  obtain ⟨o, ho, hc, hd⟩ := id hit
  rw [sizeLine_eq] at hsz
  refine wpAny_call_entry rvt_slot hit.typeIs rvt_entry ?_ (rvt_args _)
  unfold Builtin.«reversed.__length_hint__»
  refine wpAny_bind (wpAny_of_eq (a := Value.ref it) rfl ?_)
  try dsimp only
  refine wpAny_bind (wpAny_field ho hd (x := .ref t) rfl ?_)
  try dsimp only
  rw [if_neg (by simp)]
  refine wpAny_bind (len_tuple ht (by omega) ?_)
  refine wpAny_bind (wpAny_pure ?_)
  try dsimp only
  refine wpAny_bind (wpAny_field (s := { s with toks := s.toks + 1 + 1 }) ho hd (x := rawInt ((items.size : Int) - 1)) rfl ?_)
  have e1 : (items.size : Int) - 1 + 1 = items.size := by omega
  refine (?_ : wpAny _ _ (if (items.size : Int) < (items.size : Int) - 1 + 1 then _ else retInt ((items.size : Int) - 1 + 1)) _ _ _)
  rw [if_neg (by omega), e1]
  unfold retInt
  refine wpAny_bind (wpAny_mkInt ?_)
  exact wpAny_pure ⟨_, rfl, k _ _⟩
/-- the walk over reversed(t) -/
theorem rvt_walks (hh : A.handled = none) (I t : Addr) (hne : t ≠ I) (items : Array Value) (hz : items.size ≤ sizeLine) :
    Walks prog w A I [I, t] [I] items.size (fun i v => items[items.size - 1 - i]? = some v) (fun i h => i ≤ items.size ∧ IsRt h I t ((items.size : Int) - 1 - (i : Int)) ∧ IsTup h t items) where
  sub := fun b hb => by simp at hb; simp [hb]
  frame := fun _ h h' x hk => ⟨x.1, x.2.1.at fun o e => hk I (by simp) o e, by
    obtain ⟨o, e, r⟩ := x.2.2
    exact ⟨o, hk t (by simp) o e, r⟩⟩
  item := fun i s Q E hi x hQ => by
    obtain ⟨_, x1, x2⟩ := x
    rw [show (items.size : Int) - 1 - (i : Int) = ((items.size - 1 - i : Nat) : Int) by omega] at x1
    have gx : items[items.size - 1 - i]? = some (items[items.size - 1 - i]'(by omega)) := Array.getElem?_eq_getElem (by omega)
    refine next_rt_item x1 x2 gx hz fun h' x3 sb => ?_
    rw [show ((items.size - 1 - i : Nat) : Int) - 1 = (items.size : Int) - 1 - ((i + 1 : Nat) : Int) by omega] at x3
    obtain ⟨o, e, r⟩ := x2
    exact hQ _ h' _ gx ⟨hi, x3, o, (sb.2 t hne).trans e, r⟩ fun b o hb eo => sb.extBut b o (fun h => hb (by simp [h])) eo
  done := fun s Q E x hQ => by
    obtain ⟨_, x1, x2⟩ := x
    rw [show (items.size : Int) - 1 - (items.size : Int) = -1 by omega] at x1
    exact next_rt_end hh x1 fun h' eb => hQ h' s.toks fun b o hb eo => eb b o (fun h => hb (by simp [h])) eo
  self := fun i s Q E x k => iter_rt x.2.1 k
theorem rvt_long {it t : Addr} {items : Array Value} {Q : Bool → Shared → Prop} (hit : IsRt s.heap it t ((items.size : Int) - 1)) (ht : IsTup s.heap t items) (hsz : items.size ≤ sizeLine) (k : ∀ tk, Q (decide (items.size ≠ 0)) { s with toks := tk }) :
    wpAny (model prog w) A (Builtin.List.listLengthHint (.ref it)) Q E s := by
  have hz := hsz
  rw [sizeLine_eq] at hz
  unfold Builtin.List.listLengthHint
  refine wpAny_bind (wpAny_specialOf hit.typeIs rvt_nolen ?_)
  show wpAny _ A (specialOf (Value.ref it) (Str.ofString "__length_hint__") >>= _) _ _ _
  refine wpAny_bind (wpAny_specialOf hit.typeIs rvt_slot.lookup ?_)
  generalize hid : ("reversed.__length_hint__" : String) = id0
  wp_delta
  rw [show splitId id0 = some ("reversed", "__length_hint__") from by subst hid; decide +kernel]
  subst hid
  refine wpAny_bind (wpAny_isInstance (b := true) hit.typeIs (by rw [isSubtype_type]; kernel_rfl) ?_)
  rw [if_neg (by decide)]
  dsimp only
  rw [if_neg (by decide +kernel)]
  refine wpAny_bind (wpAny_rule ?_)
  rw [rvt_slot.bind]
  refine wpAny_bind (wpAny_pure ?_)
  refine wpAny_bind (wpAny_attempt (rvt_hint hit ht hsz fun u tk => ?_))
  dsimp only
  refine wpAny_bind (m := asInt? (Value.int items.size u)) ?_
  unfold asInt?
  refine wpAny_pure ?_
  dsimp only
  have f0 : Builtin.List.listFitsIndex (items.size : Int) = true := fitsIndex_of (Int.natCast_nonneg _) (by omega)
  have f1 : ¬ (!Builtin.List.listFitsIndex (items.size : Int)) = true := by rw [f0]; exact Bool.false_ne_true
  have f2 : ¬ (items.size : Int) < 0 := by omega
  have f3 : ¬ Builtin.List.listTooLong ((items.size : Int)).toNat = true := by
    rw [Int.toNat_natCast, show Builtin.List.listTooLong items.size = false from notLongL hsz]
    exact Bool.false_ne_true
  rw [if_neg f1, if_neg f2, if_neg f3]
  have e : ((items.size : Int) != 0) = decide (items.size ≠ 0) := by
    by_cases h : items.size = 0
    · rw [h]; rfl
    · rw [decide_eq_true h]; exact bne_iff_ne.mpr (by omega)
  rw [e]
  exact wpAny_pure (k tk)
theorem rvt_gather {it t : Addr} {items : Array Value} {Q : List Value → Shared → Prop} (hh : A.handled = none) (hit : IsRt s.heap it t ((items.size : Int) - 1)) (ht : IsTup s.heap t items) (hne : t ≠ it) (hz : items.size ≤ sizeLine)
    (k : ∀ (h' : Heap) (tk : Nat) (acc : Array Value), (∀ b o, b ≠ it → s.heap.get? b = some o → h'.get? b = some o) → ItemsOf (fun i v => items[items.size - 1 - i]? = some v) acc items.size → Q acc.toList { s with heap := h', toks := tk }) : wpAny (model prog w) A (collect (.ref it)) Q E s := by
  have Wk := (rvt_walks (prog := prog) (w := w) (A := A.in1) hh it t hne items hz).toS
  obtain ⟨oi, hoi, _⟩ := id hit
  obtain ⟨ot, hot, _⟩ := id ht
  have n1 : s.heap.objs.size ≠ it := fun e => Nat.lt_irrefl _ (e ▸ Heap.lt_size hoi)
  have n2 : s.heap.objs.size ≠ t := fun e => Nat.lt_irrefl _ (e ▸ Heap.lt_size hot)
  have n3 : s.heap.objs.size ∉ [it, t] := by simp only [List.mem_cons, List.not_mem_nil, or_false, not_or]; exact ⟨n1, n2⟩
  unfold collect
  refine wpAny_bind (wpAny_runValue (codeAny_builtin F.entry_proto_collect ?_))
  rw [Around.under_plainId F.plain_proto_collect _]
  refine (?_ : wpAny _ A.in1 (newList [] >>= fun nl => again (.builtin "list.__iadd__" ⟨[nl, .ref it], []⟩)) _ _ s)
  refine wpAny_bind (wpAny_newObj_type (wpAny_pure ⟨plainId_quiet F.plain_list_iadd _, codeAny_builtin F.entry_list_iadd ?_⟩))
  rw [Around.under_plainId F.plain_list_iadd _]
  have g0 : (s.heap.push { cls := .type "list", data := .seq ([] : List Value).toArray }).get? s.heap.objs.size = some { cls := .type "list", data := .seq ([] : List Value).toArray } := Heap.get?_push_size _ rfl
  have gk : ∀ b o, s.heap.get? b = some o → (s.heap.push { cls := .type "list", data := .seq ([] : List Value).toArray }).get? b = some o := fun b o e => Heap.get?_push_of_some _ e
  generalize s.heap.push { cls := .type "list", data := .seq ([] : List Value).toArray } = h1 at g0 gk
  have hit1 : IsRt h1 it t ((items.size : Int) - 1) := hit.at fun o e => gk _ _ e
  have ht1 : IsTup h1 t items := by obtain ⟨o, e, r⟩ := ht; exact ⟨o, gk _ _ e, r⟩
  have hT : ({ s with heap := h1 } : Shared).TypeIs (.ref it) "reversed" := IsRt.typeIs (s := { s with heap := h1 }) hit1
  have d1 : Builtin.List.listSameRef (.ref s.heap.objs.size) (.ref it) = false := by simp [Builtin.List.listSameRef, n1]
  refine (?_ : wpAny _ A.in1 (Builtin.List.listExtendWith (.ref s.heap.objs.size) (.ref it) (.ref s.heap.objs.size)) _ _ _)
  unfold Builtin.List.listExtendWith
  refine wpAny_bind (wpAny_typeOf hT ?_)
  rw [if_neg (by rw [d1]; decide)]
  refine wpAny_bind (iter_rt (s := { s with heap := h1 }) hit1 ?_)
  refine wpAny_bind (wpAny_holding (rvt_long (s := { s with heap := h1 }) hit1 ht1 hz fun tk => ?_))
  have go : ∀ (h2 : Heap) (c : Nat), h2.get? s.heap.objs.size = some { cls := .type "list", data := .seq ([] : List Value).toArray c } → (∀ b o, b ≠ s.heap.objs.size → h1.get? b = some o → h2.get? b = some o) → ∀ (R : Result → Shared → Prop),
      (∀ s' acc' c', Moved (s.heap.objs.size :: [it]) (fun a b => b = a) { s with heap := h2, toks := tk } s' → s'.heap.get? s.heap.objs.size = some { cls := .type "list", dict := none, data := .seq acc' c', slots := #[] } → ItemsOf (fun i v => items[items.size - 1 - i]? = some v) acc' items.size → R (.ok (.ret (.ref s.heap.objs.size))) s') →
      codeAny (model prog w) A (.builtin "list.extend.loop" ⟨[.ref s.heap.objs.size, .ref it, .ref s.heap.objs.size], []⟩) R { s with heap := h2, toks := tk } := fun h2 c g2 k2 R hR => by
    have hit2 : IsRt h2 it t ((items.size : Int) - 1 - ((0 : Nat) : Int)) := by
      rw [show (items.size : Int) - 1 - ((0 : Nat) : Int) = (items.size : Int) - 1 by omega]
      exact hit1.at fun o e => k2 _ _ n1.symm e
    have ht2 : IsTup h2 t items := by obtain ⟨o, e, r⟩ := ht1; exact ⟨o, k2 _ _ n2.symm e, r⟩
    exact codeAny_extend_loopS Wk hz _ n3 _ items.size 0 _ _ _ rfl (Nat.zero_le _) ⟨Nat.zero_le _, hit2, ht2⟩ g2 (ItemsOf.nil _) hR
  have fin : ∀ (h2 : Heap), (∀ b o, b ≠ s.heap.objs.size → h1.get? b = some o → h2.get? b = some o) → ∀ (s' : Shared) (acc' : Array Value) (c' : Nat), Moved (s.heap.objs.size :: [it]) (fun a b => b = a) { s with heap := h2, toks := tk } s' → s'.heap.get? s.heap.objs.size = some { cls := .type "list", dict := none, data := .seq acc' c', slots := #[] } → ItemsOf (fun i v => items[items.size - 1 - i]? = some v) acc' items.size →
      wpAny (model prog w) A (load s.heap.objs.size >>= fun o => match o.data with | .seq xs _ => pure xs.toList | _ => unsupported "internal:collect") Q E s' := fun h2 k2 s' acc' c' hm hS' hacc => by
    refine wpAny_bind (wpAny_load hS' (wpAny_pure ?_))
    rw [Moved.eq_with hm]
    refine k s'.heap s'.toks acc' (fun b o hb e => hm.heap b o (fun hmem => ?_) (k2 _ _ (fun e2 => ?_) (gk _ _ e))) hacc
    · rcases List.mem_cons.mp hmem with e' | hmem
      · exact absurd (Heap.lt_size e) (by rw [e']; exact Nat.lt_irrefl _)
      · exact hb (List.mem_singleton.mp hmem)
    · exact absurd (Heap.lt_size e) (by rw [e2]; exact Nat.lt_irrefl _)
  dsimp only
  by_cases h0 : items.size = 0
  · rw [if_neg (by rw [decide_eq_false (by omega)]; decide +kernel)]
    exact wpAny_pure ⟨plainId_quiet F.plain_extend_loop _, go h1 0 g0 (fun _ _ _ e => e) _ fun s' acc' c' hm hS' hacc => fin h1 (fun _ _ _ e => e) s' acc' c' hm hS' hacc⟩
  · rw [if_pos (by rw [decide_eq_true h0]; rfl)]
    refine wpAny_bind (wpAny_rule (wpAny_bind ?_))
    unfold Builtin.List.listTouch
    refine wpAny_bind (listUpdate_at (xs := #[]) (n := 0) g0 rfl ?_ (Nat.zero_le _) (by decide))
    obtain ⟨c1, g1⟩ : ∃ c, (h1.update s.heap.objs.size (Obj.mapSeq (·.push .none))).get? s.heap.objs.size = some { cls := .type "list", data := .seq #[.none] c } := ⟨_, get?_update_seq g0 _⟩
    refine listUpdate_at (xs := #[.none]) (n := c1) g1 rfl ?_ (by decide) (by decide)
    obtain ⟨c2, g2⟩ : ∃ c, ((h1.update s.heap.objs.size (Obj.mapSeq (·.push .none))).update s.heap.objs.size (Obj.mapSeq (·.pop))).get? s.heap.objs.size = some { cls := .type "list", data := .seq ([] : List Value).toArray c } := ⟨_, get?_update_seq g1 _⟩
    have kk : ∀ b o, b ≠ s.heap.objs.size → h1.get? b = some o → ((h1.update s.heap.objs.size (Obj.mapSeq (·.push .none))).update s.heap.objs.size (Obj.mapSeq (·.pop))).get? b = some o := fun b o hb e => (Heap.get?_update_ne _ _ _ _ hb).trans ((Heap.get?_update_ne _ _ _ _ hb).trans e)
    exact wpAny_pure ⟨plainId_quiet F.plain_extend_loop _, go _ c2 g2 kk _ fun s' acc' c' hm hS' hacc => fin _ kk s' acc' c' hm hS' hacc⟩
end
section
open PySem.W PySem.Calls PySem.SeqAt RT
variable {prog : Program} {w : World} {A : Around} {E : Value → Shared → Prop} {s : Shared}
theorem rvt_code {it t : Addr} {items : Array Value} {Q₁ : Value → Shared → Prop} (hh : A.handled = none) (hit : IsRt s.heap it t ((items.size : Int) - 1)) (ht : IsTup s.heap t items) (hne : t ≠ it) (hz : items.size ≤ sizeLine)
    (k : ∀ (h' : Heap) (tk : Nat) (acc : Array Value), (∀ b o, b ≠ it → s.heap.get? b = some o → h'.get? b = some o) → ItemsOf (fun i v => items[items.size - 1 - i]? = some v) acc items.size → Q₁ (.ref h'.objs.size) { s with heap := h'.push { cls := .type "tuple", data := .seq acc }, toks := tk }) :
    codeAny (model prog w) A (.call (.builtin "tuple.__new__") ⟨[.type "tuple", .ref it], []⟩) (wants Q₁ E) s := by
  refine codeAny_of_tree (?_ : wpAny _ A.in1 (do checkBuiltinCall "tuple.__new__" ⟨[.type "tuple", .ref it], []⟩; again (.builtin "tuple.__new__" ⟨[.type "tuple", .ref it], []⟩)) _ _ s)
  refine wpAny_bind (wpAny_of_eq (F.newCall_tuple_1 _) (wpAny_pure ⟨plainId_quiet F.plain_tuple_new _, codeAny_builtin F.entry_tuple_new ?_⟩))
  rw [Around.under_plainId F.plain_tuple_new _]
  have z1 := sub_tuple_self
  have z2 := init_tuple_lookup
  have z3 := madeHere_tuple
  have z4 : s.TypeIs (.ref it) "reversed" := hit.typeIs
  have z5 : A.in1.handled = none := hh
  wp_walk using wpAny_typeOf z4, rvt_gather (A := A.in1) z5 hit ht hne hz
  intro h' tk acc hk hacc
  refine (?_ : wpAny _ _ (Builtin.Tuple.tupleExact acc.toList.toArray >>= fun v => ret v) _ _ _)
  unfold Builtin.Tuple.tupleExact
  refine wpAny_bind (wpAny_newObj_type (wpAny_pure ?_) (by show acc.toList.toArray.size ≤ sizeLine; simp only [Array.toArray_toList]; rw [hacc.1]; exact hz))
  rw [show acc.toList.toArray = acc by simp]
  exact k h' tk acc hk hacc
theorem rvt_call {it t : Addr} {items : Array Value} {Q : Value → Shared → Prop} (hh : A.handled = none) (hit : IsRt s.heap it t ((items.size : Int) - 1)) (ht : IsTup s.heap t items) (hne : t ≠ it) (hz : items.size ≤ sizeLine)
    (k : ∀ (h' : Heap) (tk : Nat) (acc : Array Value), (∀ b o, b ≠ it → s.heap.get? b = some o → h'.get? b = some o) → ItemsOf (fun i v => items[items.size - 1 - i]? = some v) acc items.size → Q (.ref h'.objs.size) { s with heap := h'.push { cls := .type "tuple", data := .seq acc }, toks := tk }) :
    wpAny (model prog w) A (call (.type "tuple") [.ref it]) Q E s := by
  refine callType_codes (Q₁ := fun ob s₁ => s₁.TypeIs ob "tuple" ∧ Q ob s₁) F.called_tuple (F.typeCall_tuple_1 _) F.entry_object_init (rvt_code (A := A.in1) hh hit ht hne hz fun h' tk acc hk hacc => ⟨⟨_, Heap.get?_push_size _ rfl, rfl⟩, k h' tk acc hk hacc⟩) fun ob s₁ z => ?_
  exact ⟨z.1, F.args_object_init_2 ob _, object_init_meets F.called_tuple.init.lookup F.called_tuple.made (by decide) prog w A.in1 _ s₁ ⟨z.1, rfl, z.2⟩⟩
end
def tTupRevT (K : PySem.W.Frag) (te : TE) : TE := fun σ H Q => te σ H fun v H1 => ∃ (a : Addr) (xs : List V), v = .ref a ∧ SqT K H1 a xs ∧ ∀ q, H1 q = none → Q (.ref q) (upd H1 q (.tup xs.reverse))
section
open PySem.W PySem.Calls PySem.SeqAt RT
variable {X : Cx}
theorem pe_tupRevT {e : Expr} {te : TE} {p p2 pos pos2 : Pos} (hc : X.calm = true) (hg : Gl X "tuple") (hm : X.mg "tuple" = none) (hg2 : Gl X "reversed") (hm2 : X.mg "reversed" = none) (he : PE X e te) (hs : starEach [e] X.env = (false, eval e X.env) :: starEach [] X.env := by rfl)
    (hs2 : starEach [.Call (.Name "reversed" p2) [e] [] pos2] X.env = (false, eval (.Call (.Name "reversed" p2) [e] [] pos2) X.env) :: starEach [] X.env := by rfl) : PE X (.Call (.Name "tuple" p) [.Call (.Name "reversed" p2) [e] [] pos2] [] pos) (tTupRevT X.K te) := by
  refine ⟨fun pins s σ H Q I h => Call_ (ld_blt I hg hm boot_tuple (PyProof.Rows.callWith_type1 (args_cons (Call_ (ld_blt I hg2 hm2 PyProof.Rows.boot_reversed (PyProof.Rows.callWith_type1 (args_cons (thn (he.run pins s σ H _ I h) fun u s1 ⟨v, H1, I1, r1, q1⟩ => args_nil ?_) hs) hs rfl))) hs2) hs2 rfl))⟩
  obtain ⟨a, xs, rfl, hq, q⟩ := q1
  obtain rfl : u = Value.ref a := r1
  obtain ⟨its, rv, tp, hz⟩ := I1.tuple hq
  have hn : its.toArray.size ≤ sizeLine := by rw [List.size_toArray, ← rv.length]; exact hz
  have hn2 := hn
  rw [sizeLine_eq] at hn2
  refine call_reversed_tup tp (fun A E Q k => len_tuple tp (by omega) k) (args_nil ?_)
  have I2 : Inv X pins σ H1 { s1 with heap := s1.heap.push (rtObj a ((its.toArray.size : Int) - 1)), toks := s1.toks + 1 + 1 } := I1.kept (t' := s1.toks + 1 + 1) fun b o e => Heap.get?_push_of_some _ e
  obtain ⟨f0, f1, f2, f3, f4, f5⟩ := I1.fpOk (H' := H1) (b := s1.heap.objs.size) (Nat.le_refl _) (I1.hok.fresh (Nat.le_refl _))
  obtain ⟨ot, hot, rt⟩ := id tp
  have hne : a ≠ s1.heap.objs.size := Nat.ne_of_lt (Heap.lt_size hot)
  refine rvt_call (s := { s1 with heap := s1.heap.push (rtObj a ((its.toArray.size : Int) - 1)), toks := s1.toks + 1 + 1 }) (I1.ok.hd hc) ⟨_, Heap.get?_push_size _ rfl, rfl, rfl⟩ ⟨ot, Heap.get?_push_of_some _ hot, rt⟩ hne hn fun h' tk acc hk hi => ?_
  have I3 : Inv X pins σ H1 { s1 with heap := h', toks := tk } := I2.turned (t' := tk) (fun b o hb e => hk b o hb e) f0 f1 f3 f4 f5
  refine ⟨.ref h'.objs.size, upd H1 h'.objs.size (.tup xs.reverse), I3.laid (t' := tk) (fun c o e => Heap.get?_push_of_some _ e) (Nat.le_refl _) (show ObjOk X.prog X.w _ _ _ (.tup xs.reverse) from ⟨by rw [List.length_reverse]; exact hz, acc.toList, vals_rev rv hi, ?_⟩), rfl, q _ (I3.hok.fresh (Nat.le_refl _))⟩
  rw [Array.toArray_toList]
  exact IsTup.new _ _
end
theorem ed_tupRevT {K : PySem.W.Frag} {σ : L2.St} {H : Hp} {te : TE} {g : List Int} (h : EvD K te σ H (eI g)) : EvD K (tTupRevT K te) σ H (eI g.reverse) := fun H1 x Q q => h H1 x _ fun v H2 x2 h2 => by
  obtain ⟨a, rfl, hs⟩ := dp_eI.mp h2
  exact ⟨a, _, rfl, hs, fun p hp => q _ _ (x2.trans (Evl.Ex.new hp)) (dp_eI.mpr ⟨p, rfl, SqT.of (by rw [upd_same, List.map_reverse])⟩)⟩
/-- the part of a tuple of whole numbers -/
def cutZ (g : List Int) (lo hi : Option Int) : List Int := (g.drop (HT.sIx g.length 0 lo)).take (HT.sIx g.length g.length hi - HT.sIx g.length 0 lo)
theorem cutZ_to (g : List Int) (n : Nat) : cutZ g none (some (n : Int)) = g.take n := by
  unfold cutZ
  rw [HT.sIx_nat, HT.sIx_none, List.drop_zero, Nat.sub_zero]
  by_cases h : n ≤ g.length
  · rw [Nat.min_eq_left h]
  · rw [Nat.min_eq_right (by omega), List.take_of_length_le (Nat.le_refl _), List.take_of_length_le (by omega)]
theorem ed_slA {K : PySem.W.Frag} {σ : L2.St} {H : Hp} {te : TE} {g k : List Int} {to th : TO} {lo hi : Option Int} (h : EvD K te σ H (eI g)) (h1 : EvO K to σ H lo) (h2 : EvO K th σ H hi) (e : cutZ g lo hi = k) : EvD K (tSl (rSlA K) te to th) σ H (eI k) := fun H1 x Q q =>
  h H1 x _ fun v H2 x2 hv => h1 H2 (x.trans x2) _ fun H3 x3 => h2 H3 ((x.trans x2).trans x3) _ fun H4 x4 => by
    obtain ⟨a, rfl, h3⟩ := dp_eI.mp hv
    have x24 := x3.trans x4
    have h4 := Evl.ex_t x24 h3
    refine ⟨a, _, rfl, h4, fun w => ?_, fun _ p hp => ?_⟩
    · rw [List.length_map] at w
      have e2 : cutZ g lo hi = g := by unfold cutZ; rw [w.1, w.2, List.drop_zero, Nat.sub_zero, List.take_length]
      rw [← e, e2] at q
      exact q _ H4 (x2.trans x24) (dp_eI.mpr ⟨a, rfl, h4⟩)
    · refine q _ _ ((x2.trans x24).trans (Evl.Ex.new hp)) (dp_eI.mpr ⟨p, rfl, SqT.of ?_⟩)
      rw [upd_same, ← e]
      unfold cutV cutZ
      rw [List.length_map, List.map_take, List.map_drop]

end Fy

namespace Fy
open PySem PySem.Spec PyProof.Rows L2
/-! ### sorted(xs, key=len), xs a list of tuples of whole numbers -/
def rSortLen (K : PySem.W.Frag) : List V → Hp → VK → Prop := fun vs H Q => ∃ (a : Addr) (xs : List V) (L : List (List Int)), vs = [V.ref a] ∧ SqL K H a xs ∧ DpAll K H xs (L.map eI) ∧
  ∀ zs p, DpAll K H zs ((L.mergeSort (PySem.W.dataLe false fun g : List Int => .int (g.length : Int))).map eI) → H p = none → Q (.ref p) (upd H p (.lst zs))
section
open PySem.W PySem.Calls PySem.SeqAt
variable {X : Cx}
theorem call_sortLen {pins : List (Addr × Obj)} {s : Shared} {σ : L2.St} {H : Hp} {vs : List V} {us : List Value} {Q : VK} (hu : X.A.units + 64 < cLine) (I : Inv X pins σ H s) (r : Vals vs us) (h : rSortLen X.K vs H Q) :
    wpAny (model X.prog X.w) X.A (call (.builtin "sorted") us [(Str.ofString "key", .builtin "len")]) (EP X pins σ Q) X.xe s := by
  obtain ⟨a, xs, L, rfl, hs, hd, q⟩ := h
  obtain ⟨its, rv, hl, hz⟩ := I.list hs
  rw [Vals.ref1 r]
  obtain ⟨e, _⟩ := each_of_dp I L xs its hd rv
  have hlen : L.length ≤ sizeLine := by rw [← e.length, ← rv.length]; exact hz
  refine sorted_key_data (b := false) (fun g : List Int => .int (g.length : Int)) hl.isList e (AllAlike.of fun _ _ => rfl) (.inr fun d hd => by obtain ⟨g, _, rfl⟩ := List.mem_map.mp hd; exact ⟨nofun, nofun⟩) hlen (fun g _ => ?_) (PyProof.Rows.ksk_s1 _ _) (fun _ => PyProof.Rows.ksk_l1 _ _) (fun x => PyProof.Rows.ksk_t4 "len" x) (fun v g ⟨x, hr, hx⟩ _ h tk keep => ?_) (fun out c h' tk keep _ hD hol heach => ?_)
  · rw [show (PyData.int (g.length : Int)).depth = 0 by simp [PyData.depth]]
    omega
  · obtain ⟨t, rfl, ht⟩ := dp_eI.mp hx
    cases hr
    obtain ⟨jts, jv, ⟨o, ho, rest⟩, jz⟩ := I.tuple ht
    have jl : jts.length = g.length := by rw [← jv.length, List.length_map]
    have jn : (jts.toArray.size : Int) < 2 ^ 63 := by
      rw [List.length_map, sizeLine_eq] at jz
      rw [List.size_toArray, jl]
      omega
    refine len_tuple (s := { s with heap := h, toks := tk }) ⟨o, keep _ _ ho, rest⟩ jn ⟨h, tk + 1 + 1, rfl, fun _ _ z => z, ?_⟩
    rw [List.size_toArray, jl]
    exact .int _ _
  · obtain ⟨zs, z1, z2⟩ := dp_of_each _ _ heach
    have hzl : zs.length ≤ sizeLine := by
      rw [z1.length, hol]
      exact hlen
    exact ⟨.ref _, upd H (s.heap.objs.size + 1) (.lst zs), I.laid (t' := tk) keep (Nat.le_succ _) ⟨hzl, out, c, z1, hD⟩, rfl, q _ _ z2 (I.hok.fresh (Nat.le_succ _))⟩
theorem pe_sortLen {p p2 kp pos : Pos} {e : Expr} {t : TA} (hu : X.A.units + 64 < cLine) (hg : Gl X "sorted") (hm : X.mg "sorted" = none) (hg2 : Gl X "len") (hm2 : X.mg "len" = none) (ha : PA X [e] t)
    (he : backTo pos (starEach [e] X.env) = (false, eval e X.env) :: backTo pos (starEach [] X.env) := by rfl) (hpl : (backTo pos (starEach [e] X.env)).any (·.1) = false := by rfl)
    (hall : (backToKw pos (keywordEach [⟨some (Str.ofString "key"), .Name "len" p2, kp⟩] X.env)).all (·.1.isSome) = true := by rfl) (hnone : (backToKw pos (keywordEach [⟨some (Str.ofString "key"), .Name "len" p2, kp⟩] X.env)).any (·.1.isNone) = false := by rfl) (hks : (backToKw pos (keywordEach [⟨some (Str.ofString "key"), .Name "len" p2, kp⟩] X.env)).filterMap (·.1) = [Str.ofString "key"] := by rfl) :
    PE X (.Call (.Name "sorted" p) [e] [⟨some (Str.ofString "key"), .Name "len" p2, kp⟩] pos) (tCB (rSortLen X.K) t) := by
  refine ⟨fun pins s σ H Q I h => wpAny_Call_Name_kw (ld_blt I hg hm boot_sorted ?_ (by decide) (by decide))⟩
  refine PyProof.Rows.callWith_kw (thn (ha.run pos pins s σ H _ I h) fun us s1 ⟨vs, H1, I1, r1, q1⟩ => ?_) he hpl hall hnone
  refine (?_ : wpAny _ _ (evalAll ((do let v ← eval (.Name "len" p2) X.env; standAt pos; pure v) :: [])) _ _ s1)
  refine wpAny_evalAll_cons (wpAny_bind (ld_blt I1 hg2 hm2 PySem.boot_len (wpAny_bind (wpAny_standAt (wpAny_pure ?_))) (by decide) (by decide)))
  refine wpAny_evalAll_nil ?_
  rw [hks]
  exact call_sortLen hu I1 r1 q1
end
theorem cn_sortLen {K : PySem.W.Frag} {L : List (List Int)} : CN K (rSortLen K) [.list (L.map eI)] ((L.mergeSort (PySem.W.dataLe false fun g : List Int => .int (g.length : Int))).map eI) := fun H vs h Q q => by
  obtain ⟨v, rfl, h1⟩ := dpa1 h
  obtain ⟨a, xs, rfl, h3, h4⟩ := dp_lst.mp h1
  exact ⟨a, xs, L, rfl, h3, h4, fun zs p hz hp => q _ _ (Evl.Ex.new hp) ⟨p, zs, rfl, hp, upd_same, dpa_mono (Evl.Ex.new hp) _ _ hz⟩⟩

end Fy

namespace Fy
open PySem PySem.Spec PyProof.Rows L2
/-! ### plans, in plain Lean -/
theorem standOk_behind {m : Nat} {s : List Int × Int} {c : List Int} (h : standOk m s = true) : standOk m (behind s c m) = true := by
  unfold standOk at h
  rw [Bool.and_eq_true] at h
  unfold behind
  split
  · unfold standOk
    rw [climb_of_sub (List.filter_sublist.trans (climb_sub h.1))]
    rfl
  · unfold standOk
    rw [climb_of_sub List.filter_sublist]
    rfl
theorem lawCrews_items {n : Nt} {s : List Int × Int} : ∀ c ∈ n.lawCrews s, c.Sublist (rng n.things.length) := fun c hc => by
  have h1 := (List.mergeSort_perm _ _).mem_iff.mp hc
  exact groups_iff.mp (List.mem_filter.mp h1).1
theorem lawCrews_len {n : Nt} {s : List Int × Int} (h : n.things.length ≤ 6) : (n.lawCrews s).length ≤ 64 := by
  unfold Nt.lawCrews
  rw [List.length_mergeSort]
  have h1 := List.length_filter_le (n.lawLets s) (groups n.things.length)
  rw [groups_len] at h1
  have : 2 ^ n.things.length ≤ 2 ^ 6 := Nat.pow_le_pow_right (by decide) h
  omega
theorem lawCrews_ne {n : Nt} {s : List Int × Int} : ∀ c ∈ n.lawCrews s, c ≠ [] := fun c hc e => by
  have h1 := (List.mergeSort_perm _ _).mem_iff.mp hc
  have h2 := (List.mem_filter.mp h1).2
  rw [e] at h2
  simp [Nt.lawLets] at h2
theorem led_of_mem {n : Nt} {s : List Int × Int} {c : List Int} (h : standOk n.things.length s = true) (hm : c ∈ n.crews s) : ledOver s c = behind s c n.things.length := by
  refine led_eq h ?_
  have h3 := (List.mergeSort_perm _ _).mem_iff.mp (List.mem_of_mem_drop (List.mem_filter.mp hm).1)
  exact (growF_iff.mp h3).1
theorem led_good {n : Nt} {s : List Int × Int} {c : List Int} (hm : c ∈ n.crews s) : n.good (ledOver s c) = true := by
  have h2 := (List.mem_filter.mp hm).2
  unfold Nt.lets at h2
  rw [Bool.and_eq_true] at h2
  exact h2.2
theorem led_ok {n : Nt} {s : List Int × Int} {c : List Int} (h : standOk n.things.length s = true) (hm : c ∈ n.crews s) : standOk n.things.length (ledOver s c) = true := by
  rw [led_of_mem h hm]
  exact standOk_behind h
def Nt.tk (n : Nt) : List Int × Int → Int → List (List Int) → Option Int
  | s, acc, [] => if s = ([], 1) then some acc else none
  | s, acc, c :: r => if c ∈ n.crews s then n.tk (ledOver s c) (acc + minutesOf n.things c) r else none
def Nt.lawTk (n : Nt) : List Int × Int → Int → List (List Int) → Option Int
  | s, acc, [] => if s = ([], 1) then some acc else none
  | s, acc, c :: r => if c ∈ n.lawCrews s then n.lawTk (behind s c n.things.length) (acc + minutesOf n.things c) r else none
theorem tk_eq {n : Nt} : ∀ {s : List Int × Int} {acc : Int} {plan : List (List Int)}, standOk n.things.length s = true → n.tk s acc plan = n.lawTk s acc plan
  | s, acc, [], h => rfl
  | s, acc, c :: r, h => by
    unfold Nt.tk Nt.lawTk
    rw [← crews_eq h]
    by_cases hm : c ∈ n.crews s
    · rw [if_pos hm, if_pos hm, led_of_mem h hm]
      exact tk_eq (standOk_behind h)
    · rw [if_neg hm, if_neg hm]
def eOpt : Option Int → PyData
  | none => .none
  | some i => .int i
def spTakes (K : PySem.W.Frag) : Sp := fun vs H Q E => ∃ v n u s w plan, vs = [v, u, w] ∧ NightAt K H v n ∧ Dp K H u (eS s) ∧ Dp K H w (.list (plan.map eI)) ∧ n.things.length ≤ 6 ∧
  (standOk n.things.length s = true → n.good s = true → RetR (fun v H' => Dp K H' v (eOpt (n.tk s 0 plan))) H Q) ∧
  (standOk n.things.length s = false → ∀ H', Ex H H' → E (.ref (He.ga K "NoStanding")) none H') ∧ (standOk n.things.length s = true → n.good s = false → ∀ H', Ex H H' → E (.ref (He.ga K "BadStart")) none H')
def spLTakes (K : PySem.W.Frag) : Sp := spP K (fun x : Nt × (List Int × Int) × List (List Int) => x.1.things.length ≤ 6 ∧ standOk x.1.things.length x.2.1 = true) (fun x => [eNt x.1, eS x.2.1, .list (x.2.2.map eI)]) (fun x => eOpt (x.1.lawTk x.2.1 0 x.2.2))
def spAlike (K : PySem.W.Frag) : Sp := spP K (fun _ : Option Int × Option Int => True) (fun x => [eOpt x.1, eOpt x.2]) (fun x => .bool (decide (x.1 = x.2)))
theorem ed_takes {K : PySem.W.Frag} {σ : L2.St} {H : Hp} {tb tc : TE} {E : XK} {i : Nat} {v : V} {n : Nt} {s : List Int × Int} {plan : List (List Int)} (hi : σ[i]? = some (some v)) (hN : NightAt K H v n) (hb : EvD K tb σ H (eS s)) (hc : EvD K tc σ H (.list (plan.map eI))) (hd : n.things.length ≤ 6) (ok : standOk n.things.length s = true) (gd : n.good s = true) :
    EvD K (tCall (spTakes K) [] E (tCons (tVar i) (tCons tb (tCons tc tNil)))) σ H (eOpt (n.tk s 0 plan)) := fun H1 x Q q =>
  ⟨v, hi, hb H1 x _ fun u H2 x2 h2 => hc H2 (x.trans x2) _ fun w H3 x3 h3 => ⟨v, n, u, s, w, plan, rfl, hN.mono ((x.trans x2).trans x3), dp_mono x3 _ _ h2, h3, hd, fun _ _ y H4 x4 h4 => q y H4 ((x2.trans x3).trans x4) h4, fun c => absurd (ok.symm.trans c) (by decide), fun _ c => absurd (gd.symm.trans c) (by decide)⟩⟩
theorem ed_ltakes {K : PySem.W.Frag} {σ : L2.St} {H : Hp} {ta tb tc : TE} {E : XK} {n : Nt} {s : List Int × Int} {plan : List (List Int)} (ha : EvD K ta σ H (eNt n)) (hb : EvD K tb σ H (eS s)) (hc : EvD K tc σ H (.list (plan.map eI))) (hd : n.things.length ≤ 6 ∧ standOk n.things.length s = true) :
    EvD K (tCall (spLTakes K) [] E (tCons ta (tCons tb (tCons tc tNil)))) σ H (eOpt (n.lawTk s 0 plan)) := ed_call (x := (n, s, plan)) hd (eds_cons ha (eds_cons hb (eds_cons hc eds_nil)))
theorem ed_alike {K : PySem.W.Frag} {σ : L2.St} {H : Hp} {ta tb : TE} {E : XK} {x y : Option Int} (ha : EvD K ta σ H (eOpt x)) (hb : EvD K tb σ H (eOpt y)) : EvD K (tCall (spAlike K) [] E (tCons ta (tCons tb tNil))) σ H (.bool (decide (x = y))) :=
  ed_call (x := (x, y)) trivial (eds_cons ha (eds_cons hb eds_nil))

end Fy

namespace Fy
open PySem PySem.Spec PyProof.Rows L2
section
variable {P : Program} {w : World} {K : PySem.W.Frag} {mg : Str → Option Value} {base : Heap}
theorem sc_takes : FnScope ["night", "standing", "plan", "total", "crew"] ["night", "standing", "plan"] (defScope s_takes) := ⟨rfl, rfl, rfl, by decide +kernel, rfl, by decide +kernel, by decide +kernel⟩
theorem ok_takes (T : Tx K mg) : Has P w K mg base (L2.CX P w) 6 "takes" ["night", "standing", "plan"] (spTakes K) := by
  obtain ⟨fd, F⟩ := T.f_takes
  have G_led_over := ok_led_over (P := P) (w := w) (base := base) T
  have G_minutes := ok_minutes (P := P) (w := w) (base := base) T
  have G_crews := ok_crews (P := P) (w := w) (base := base) T
  have G_look_at_start := ok_look_at_start (P := P) (w := w) (base := base) T
  have N_ends := ok_Night_ends (P := P) (w := w) (base := base) T
  refine ⟨T.g_takes, fd, F.ok sc_takes (fun vs H Q E h => ?_) (fun cdv A outer s H vs Q E hr h => ⟨_, (pss_cons (ps_expr (pe_fx G_look_at_start (hr.mono (by decide)) rfl (takes_of rfl rfl rfl rfl) (pa_cons (pv 0) (pa_cons (pv 1) pa_nil))))
      (pss_cons (ps_set (i := 3) sc_takes.nd rfl (.inl rfl) pe_int)
      (pss_cons (ps_for (passes_of rfl) rfl (pi_list (pv 2)) (pg_name (i := 4) sc_takes.nd rfl (.inl rfl)) (pss_cons (ps_if (pt_cmpR (r := rNotInD K) (op_notInD (units65 hr)) (pv 4) (pe_fx G_crews (hr.mono (by decide)) rfl (takes_of rfl rfl rfl rfl) (pa_cons (pv 0) (pa_cons (pv 1) pa_nil))) (by rfl)) (pss_one (ps_ret pe_non)) pss_nil)
      (pss_cons (ps_set (i := 3) sc_takes.nd rfl (.inl rfl) (pe_op op_add (pv 3) (pe_f G_minutes (hr.mono (by decide)) rfl (pa_cons (pv 0) (pa_cons (pv 4) pa_nil)))))
      (pss_one (ps_set (i := 1) sc_takes.nd rfl (.inl rfl) (pe_f G_led_over (hr.mono (by decide)) rfl (pa_cons (pv 1) (pa_cons (pv 4) pa_nil))))))))
      (pss_cons (ps_if (pt_cmpR (r := rNeD K) (op_neD hr.units) (pv 1) (pe_nm0 (C := He.ga K "Night") (pv 0) N_ends (hr.mono (by decide)) pass0) (nomark _)) (pss_one (ps_ret pe_non)) pss_nil)
      (pss_one (ps_ret (pv 3))))))), ?_⟩), F.bindsN fun _ _ _ _ _ _ us hl => match us, hl with | [_, _, _], _ => rfl, F.kp⟩
  · obtain ⟨v, n, u, s, w, plan, rfl, _⟩ := h
    rfl
  · obtain ⟨v, n, u, s, x, plan, rfl, N, hu, hx, hlen, kq, ke, kb⟩ := h
    have hf : few n := Nat.le_trans hlen (by decide)
    refine w_callSv rfl rfl ⟨v, n, u, s, rfl, N, hu, hf, fun ok gd H1 x1 => ?_, ke, kb⟩
    have go := kq ok gd
    refine' w_asg (K := K) (d := .int 0) ed_int (fun v2 H2 x2 h2 => ?_)
    cases dp_int.mp h2
    have x02 := x1.trans x2
    refine' w_forLx (K := K) (ds := plan.map eI) (ed_var rfl (dp_mono x02 _ _ hx)) (fun i σ H' => ∃ s' u' acc y, σ = [some v, some u', some x, some (.int acc), y] ∧ Dp K H' u' (eS s') ∧ standOk n.things.length s' = true ∧ n.good s' = true ∧ n.tk s 0 plan = n.tk s' acc (plan.drop i)) (fun H3 x3 => ⟨s, u, 0, none, rfl, dp_mono (x02.trans x3) _ _ hu, ok, gd, by rw [List.drop_zero]⟩) ?_ ?_
    · rintro i d y σ H' hd x3 hy ⟨s', u', acc, z, rfl, hu', ok', gd', e⟩
      obtain ⟨c, hc, rfl⟩ := get_map hd
      have hdr : plan.drop i = c :: plan.drop (i + 1) := by
        obtain ⟨h1, h2⟩ := List.getElem?_eq_some_iff.mp hc
        rw [List.drop_eq_getElem_cons h1, h2]
      rw [hdr] at e
      have N' := N.mono (x02.trans x3)
      obtain ⟨hin, hsl⟩ := standOk_in ok'
      have hy' : Dp K H' y (eI c) := hy
      refine ⟨_, rfl, _, rfl, _, rfl, v, n, u', s', rfl, N', hu', hlen, fun _ _ v4 H4 x4 h4 => ?_, fun z => absurd (ok'.symm.trans z) (by decide), fun _ z => absurd (gd'.symm.trans z) (by decide)⟩
      refine ⟨eI c, (n.crews s').map eI, dp_mono x4 _ _ hy', h4.dp, sh_eI _, sh_eIs _, _, rfl, ?_⟩
      rw [any_eI]
      by_cases hm : c ∈ n.crews s'
      · rw [decide_eq_true hm]
        refine ite_t (go_next ?_)
        dsimp only
        have e' : n.tk s 0 plan = n.tk (ledOver s' c) (acc + minutesOf n.things c) (plan.drop (i + 1)) := by
          rw [e]
          show (if c ∈ n.crews s' then _ else _) = _
          rw [if_pos hm]
        have hci := (groupsOf_items (bankOf_in hin) c (List.mem_filter.mp hm).1)
        have hcb := bankOf_len (s := s') hsl
        have hm2 := hm
        rw [crews_eq ok'] at hm2
        have cdom : few n ∧ inThings n.things.length c ∧ c.length ≤ 1000 ∧ c ≠ [] := ⟨hf, hci.1, by omega, lawCrews_ne c hm2⟩
        have x04 := (x02.trans x3).trans x4
        have N4 := N.mono x04
        have hy4 := dp_mono x4 _ _ hy'
        have hu4 := dp_mono x4 _ _ hu'
        have sl : s'.1.length ≤ 1000 ∧ c.length ≤ 1000 := ⟨by omega, by omega⟩
        refine' w_asg (K := K) (d := .int (acc + minutesOf n.things c)) ?ta (fun v5 H5 x5 h5 => ?_)
        case ta => walk_at "ed"
        cases dp_int.mp h5
        refine' w_asg1 (K := K) (d := eS (ledOver s' c)) ?tb (fun v6 H6 x6 h6 => ?_)
        case tb => walk_at "ed"
        exact ⟨(x4.trans x5).trans x6, ledOver s' c, v6, _, _, rfl, h6, led_ok ok' hm, led_good hm, e'⟩
      · rw [decide_eq_false hm]
        refine ite_n ?_
        have e' : n.tk s 0 plan = none := by
          rw [e]
          show (if c ∈ n.crews s' then _ else _) = _
          rw [if_neg hm]
        refine w_ret1 (K := K) (d := .none) ed_non fun v9 H9 x9 h9 => go v9 H9 (((x02.trans x3).trans x4).trans x9) ?_
        rw [e']
        exact h9
    · rintro σ H' x3 ⟨s', u', acc, z, rfl, hu', ok', gd', e⟩
      rw [List.length_map, List.drop_length] at e
      have e' : n.tk s 0 plan = if s' = ([], 1) then some acc else none := e
      have N' := N.mono (x02.trans x3)
      refine' w_when K (b := !decide (s' = ([], 1))) (eb_d (EvD.cast (ed_op (d := eS s') (e := eS ([], 1)) (ed_var rfl hu') ?tc (rd_neD (sh_eS _) (sh_eS _))) ?td)) (fun hb H4 x4 => ?_) (fun hb H4 x4 => ?_)
      case tc => walk_at "ed"
      case td => simp only [eqv_eS]
      · have hs : s' ≠ ([], 1) := by simpa using hb
        rw [if_neg hs] at e'
        refine w_ret1 (K := K) (d := .none) ed_non fun v9 H9 x9 h9 => go v9 H9 (((x02.trans x3).trans x4).trans x9) ?_
        rw [e']
        exact h9
      · have hs : s' = ([], 1) := by simpa using hb
        rw [if_pos hs] at e'
        refine w_ret1 (K := K) (d := .int acc) (ed_var rfl (.int _)) fun v9 H9 x9 h9 => go v9 H9 (((x02.trans x3).trans x4).trans x9) ?_
        rw [e']
        exact h9
end

end Fy

namespace Fy
open PySem PySem.Spec PyProof.Rows L2
def spLaw (K : PySem.W.Frag) : Sp := fun vs H Q _ => ∃ (a : Addr) (ns : List Int), vs = [.ref a] ∧ SqL K H a (ns.map V.int) ∧ ns.length ≤ 63 ∧ ∀ H', Q (.bl true) H'
def spRow (K : PySem.W.Frag) : Sp := fun vs H Q _ => ∃ v u ns n, vs = [v, u] ∧ Dp K H v (eScript ns) ∧ Dp K H u (eNt n) ∧ ns.length ≤ 63 ∧ 1 ≤ n.things.length ∧ n.things.length ≤ 6 ∧ RetR (fun v H' => ∃ R : List (List Int), R.length ≤ 20 ∧ (∀ c ∈ R, c.length ≤ 6) ∧ Dp K H' v (.list (R.map eI))) H Q
def spSpoiled (K : PySem.W.Frag) : Sp := fun vs H Q _ => ∃ (R : List (List Int)) (way c : Int) (m : Nat), DpAll K H vs [.list (R.map eI), .int way, .int c, .int (m : Int)] ∧ R.length ≤ 20 ∧ (∀ g ∈ R, g.length ≤ 6) ∧ m ≤ 6 ∧ RetR (fun v H' => ∃ R : List (List Int), R.length ≤ 100 ∧ Dp K H' v (.list (R.map eI))) H Q
theorem ed_isN {K : PySem.W.Frag} {σ : L2.St} {H : Hp} {te : TE} {x : Option Int} (h : EvD K te σ H (eOpt x)) : EvD K (tOp rIsN te (tC .non)) σ H (.bool (decide (x = none))) := fun H1 e Q q => h H1 e _ fun v H2 x2 h2 => by
  refine ⟨rfl, ?_⟩
  have z : decide (v = V.non) = decide (x = none) := by
    cases x with
    | none => rw [dp_non.mp h2]; rfl
    | some i => rw [dp_int.mp h2]; rfl
  rw [z]
  exact q _ H2 x2 (.bl _)
section
variable {P : Program} {w : World} {K : PySem.W.Frag} {mg : Str → Option Value} {base : Heap}
theorem sc__law_alike : FnScope ["found", "due"] ["found", "due"] (defScope s__law_alike) := ⟨rfl, rfl, rfl, by decide +kernel, rfl, by decide +kernel, by decide +kernel⟩
theorem ok__law_alike (T : Tx K mg) : Has P w K mg base CX0 2 "_law_alike" ["found", "due"] (spAlike K) := by
  obtain ⟨fd, F⟩ := T.f__law_alike
  have G__law_whole := ok__law_whole (P := P) (w := w) (base := base) T
  refine ⟨T.g__law_alike, fd, F.ok sc__law_alike (fun vs H Q E h => ?_) (fun cdv A outer s H vs Q E hr h => ⟨_, PSs.nox (pss_cons (ps_if (pt_cmpR op_isN (pv 1) pe_non (nomark _)) (pss_one (ps_ret (pe_cmpR op_isN (pv 0) pe_non (nomark _)))) pss_nil)
      (pss_one (ps_ret (pe_and (pe_f G__law_whole (hr.mono (by decide)) rfl (pa_cons (pv 0) pa_nil)) (pe_one (pe_cmpR op_eq (pv 0) (pv 1) (nomark _))))))), ?_⟩), F.bindsN fun _ _ _ _ _ _ us hl => match us, hl with | [_, _], _ => rfl, F.kp⟩
  · exact spP.len (n := 2) (fun _ => rfl) h
  · obtain ⟨⟨x, y⟩, _, hv0, q⟩ := h
    dsimp only at hv0 q
    obtain ⟨v, u, rfl, hv, hu⟩ := dpa2 hv0
    refine w_when K (b := decide (y = none)) (eb_d (ed_isN (ed_var rfl hu))) (fun hb H1 x1 => ?_) (fun hb H1 x1 => ?_)
    · have hy : y = none := by simpa using hb
      subst hy
      exact w_ret1 (K := K) (ed_isN (ed_var rfl (dp_mono x1 _ _ hv))) fun v4 H4 x4 h4 => q v4 H4 (x1.trans x4) h4
    · cases y with
      | none => simp at hb
      | some j =>
        cases x with
        | none =>
          refine w_ret1 (K := K) (d := .bool (decide (tyN (.none) = "int") && false)) (ed_andV (ed_whole (ed_var rfl (dp_mono x1 _ _ hv))) (fun c => absurd c (by decide))) fun v4 H4 x4 h4 => q v4 H4 (x1.trans x4) ?_
          rw [Bool.and_false] at h4
          exact h4
        | some i =>
          refine w_ret1 (K := K) (d := .bool (decide (tyN (.int i) = "int") && decide (i = j))) (ed_andV (ed_whole (ed_var rfl (dp_mono x1 _ _ hv))) (fun c => ed_op (d := .int i) (e := .int j) (ed_var rfl (dp_mono x1 _ _ hv)) (ed_var rfl (dp_mono x1 _ _ hu)) rd_eqI)) fun v4 H4 x4 h4 => q v4 H4 (x1.trans x4) ?_
          rw [show (decide (tyN (.int i) = "int") && decide (i = j)) = decide (some i = some j) by rw [show tyN (.int i) = "int" from rfl]; simp] at h4
          exact h4
theorem sc__law_takes : FnScope ["night", "standing", "row", "whole", "crew"] ["night", "standing", "row"] (defScope s__law_takes) := ⟨rfl, rfl, rfl, by decide +kernel, rfl, by decide +kernel, by decide +kernel⟩
theorem ok__law_takes (T : Tx K mg) : Has P w K mg base CX0 4 "_law_takes" ["night", "standing", "row"] (spLTakes K) := by
  obtain ⟨fd, F⟩ := T.f__law_takes
  have G__law_behind := ok__law_behind (P := P) (w := w) (base := base) T
  have G__law_minutes := ok__law_minutes (P := P) (w := w) (base := base) T
  have G__law_crews := ok__law_crews (P := P) (w := w) (base := base) T
  refine ⟨T.g__law_takes, fd, F.ok sc__law_takes (fun vs H Q E h => ?_) (fun cdv A outer s H vs Q E hr h => ⟨_, PSs.nox (pss_cons (ps_set (i := 3) sc__law_takes.nd rfl (.inl rfl) pe_int)
      (pss_cons (ps_for PassesOwn.never rfl (pi_list (pv 2)) (pg_name (i := 4) sc__law_takes.nd rfl (.inl rfl)) (pss_cons (ps_if (pt_cmpR (r := rNotInD K) (op_notInD (units65 hr)) (pv 4) (pe_f G__law_crews (hr.mono (by decide)) rfl (pa_cons (pe_ix (r := rIxT K) ix_tup (pv 0) pe_int (fun _ _ => rfl)) (pa_cons (pe_ix (r := rIxT K) ix_tup (pv 0) pe_int (fun _ _ => rfl)) (pa_cons (pe_ix (r := rIxT K) ix_tup (pv 0) pe_int (fun _ _ => rfl)) (pa_cons (pv 1) pa_nil))))) (by rfl)) (pss_one (ps_ret pe_non)) pss_nil)
      (pss_cons (ps_set (i := 3) sc__law_takes.nd rfl (.inl rfl) (pe_op op_add (pv 3) (pe_f G__law_minutes (hr.mono (by decide)) rfl (pa_cons (pe_ix (r := rIxT K) ix_tup (pv 0) pe_int (fun _ _ => rfl)) (pa_cons (pv 4) pa_nil)))))
      (pss_one (ps_set (i := 1) sc__law_takes.nd rfl (.inl rfl) (pe_f G__law_behind (hr.mono (by decide)) rfl (pa_cons (pv 1) (pa_cons (pv 4) (pa_cons (pe_callB (r := rLenQ K) call_len_seq (by rfl) T.b_len (by decide +kernel) (pa_cons (pe_ix (r := rIxT K) ix_tup (pv 0) pe_int (fun _ _ => rfl)) pa_nil)) pa_nil)))))))))
      (pss_cons (ps_if (pt_cmpR (r := rNeD K) (op_neD hr.units) (pv 1) (pe_tup (pa_cons (pe_tup pa_nil) (pa_cons pe_int pa_nil))) (nomark _)) (pss_one (ps_ret pe_non)) pss_nil)
      (pss_one (ps_ret (pv 3)))))), ?_⟩), F.bindsN fun _ _ _ _ _ _ us hl => match us, hl with | [_, _, _], _ => rfl, F.kp⟩
  · exact spP.len (n := 3) (fun _ => rfl) h
  · obtain ⟨⟨n, s, plan⟩, ⟨m6, ok⟩, hv0, go⟩ := h
    dsimp only at m6 ok hv0 go
    obtain ⟨v, u, x, rfl, hv1, hu, hx⟩ := dpa3 hv0
    have hv : Dp K H v (.tuple [.list (n.things.map eT), .int n.room, .list (n.quarrels.map eQ)]) := hv1
    have m1000 : n.things.length ≤ 1000 := by omega
    refine' w_asg (K := K) (d := .int 0) ed_int (fun v2 H2 x2 h2 => ?_)
    cases dp_int.mp h2
    refine' w_forLx (K := K) (ds := plan.map eI) (ed_var rfl (dp_mono x2 _ _ hx)) (fun i σ H' => ∃ s' u' acc y, σ = [some v, some u', some x, some (.int acc), y] ∧ Dp K H' u' (eS s') ∧ standOk n.things.length s' = true ∧ n.lawTk s 0 plan = n.lawTk s' acc (plan.drop i)) (fun H3 x3 => ⟨s, u, 0, none, rfl, dp_mono (x2.trans x3) _ _ hu, ok, by rw [List.drop_zero]⟩) ?_ ?_
    · rintro i d y σ H' hd x3 hy ⟨s', u', acc, z, rfl, hu', ok', e⟩
      obtain ⟨c, hc, rfl⟩ := get_map hd
      have hdr : plan.drop i = c :: plan.drop (i + 1) := by
        obtain ⟨h1, h2⟩ := List.getElem?_eq_some_iff.mp hc
        rw [List.drop_eq_getElem_cons h1, h2]
      rw [hdr] at e
      obtain ⟨hin, hsl⟩ := standOk_in ok'
      have sl : s'.1.length ≤ 1000 := by omega
      have hy' : Dp K H' y (eI c) := hy
      have x03 := x2.trans x3
      have lc : EvN K (tCall (spLCrews K) [] E0 (tCons (tOp (rIxT K) (tVar 0) (tC (.int 0))) (tCons (tOp (rIxT K) (tVar 0) (tC (.int 1))) (tCons (tOp (rIxT K) (tVar 0) (tC (.int 2))) (tCons (tVar 1) tNil))))) [some v, some u', some x, some (.int acc), some y] H' ((n.lawCrews s').map eI) := by
        refine' en_lcrews n ?t1 ?t2 ?t3 (ed_var rfl hu') ⟨m6, sl⟩
        case t1 => walk_at "ed"
        case t2 => walk_at "ed"
        case t3 => walk_at "ed"
      show tSeq _ _ _ _ _
      refine' w_when K (b := !decide (c ∈ n.lawCrews s')) (eb_d (ed_op (ed_var rfl hy') lc.toD (any_eI c _ ▸ rd_niDL (sh_eI _) (sh_eIs _)))) (fun hb H4 x4 => ?_) (fun hb H4 x4 => ?_)
      · have hm : c ∉ n.lawCrews s' := by simpa using hb
        refine w_ret1 (K := K) (d := .none) ed_non fun v9 H9 x9 h9 => go v9 H9 ((x03.trans x4).trans x9) ?_
        have e' : n.lawTk s 0 plan = none := by
          rw [e]
          show (if c ∈ n.lawCrews s' then _ else _) = _
          rw [if_neg hm]
        show Dp K H9 v9 (eOpt (n.lawTk s 0 plan))
        rw [e']
        exact h9
      · have hm : c ∈ n.lawCrews s' := by simpa using hb
        have e' : n.lawTk s 0 plan = n.lawTk (behind s' c n.things.length) (acc + minutesOf n.things c) (plan.drop (i + 1)) := by
          rw [e]
          show (if c ∈ n.lawCrews s' then _ else _) = _
          rw [if_pos hm]
        have x04 := x03.trans x4
        have csub := lawCrews_items c hm
        have cl := sub_len csub
        have v04 := dp_mono x04 _ _ hv
        have y4 := dp_mono x4 _ _ hy'
        have u4 := dp_mono x4 _ _ hu'
        refine' w_asg (K := K) (d := .int (acc + minutesOf n.things c)) (ed_op (ed_var rfl (.int _)) (ed_lminutes n.things ?t1 (ed_var rfl y4) ⟨sub_in csub, by omega, lawCrews_ne c hm⟩) (rd_I0 fun _ => .int _)) (fun v5 H5 x5 h5 => ?_)
        case t1 => walk_at "ed"
        cases dp_int.mp h5
        have v05 := dp_mono x5 _ _ v04
        have lt : EvD K (tCB (rLenQ K) (tCons (tOp (rIxT K) (tVar 0) (tC (.int 0))) tNil)) [some v, some u', some x, some (.int (acc + minutesOf n.things c)), some y] H5 (.int (n.things.length : Nat)) := by
          have z := ed_cb (eds_cons (ed_op (ed_var (σ := [some v, some u', some x, some (.int (acc + minutesOf n.things c)), some y]) (i := 0) rfl v05) (ed_int (i := 0)) (rd_ixT (z := .list (n.things.map eT)) (by rfl))) eds_nil) (cd_lenL (K := K))
          rw [List.length_map] at z
          exact z
        refine w_asg1 (K := K) (d := eS (behind s' c n.things.length)) (ed_behind (ed_var rfl (dp_mono x5 _ _ u4)) (ed_var rfl (dp_mono x5 _ _ y4)) lt ⟨sl, m1000⟩) (fun v6 H6 x6 h6 => ?_)
        exact ⟨(x4.trans x5).trans x6, behind s' c n.things.length, v6, _, _, rfl, h6, standOk_behind ok', e'⟩
    · rintro σ H' x3 ⟨s', u', acc, z, rfl, hu', ok', e⟩
      rw [List.length_map, List.drop_length] at e
      have e' : n.lawTk s 0 plan = if s' = ([], 1) then some acc else none := e
      refine' w_when K (b := !decide (s' = ([], 1))) (eb_d (EvD.cast (ed_op (d := eS s') (e := eS ([], 1)) (ed_var rfl hu') (?tc : EvD K _ _ _ (.tuple [.tuple [], .int 1])) (rd_neD (sh_eS _) (sh_eS _))) ?td)) (fun hb H4 x4 => ?_) (fun hb H4 x4 => ?_)
      case tc => walk_at "ed"
      case td => simp only [eqv_eS]
      · have hs : s' ≠ ([], 1) := by simpa using hb
        rw [if_neg hs] at e'
        refine w_ret1 (K := K) (d := .none) ed_non fun v9 H9 x9 h9 => go v9 H9 (((x2.trans x3).trans x4).trans x9) ?_
        show Dp K H9 v9 (eOpt (n.lawTk s 0 plan))
        rw [e']
        exact h9
      · have hs : s' = ([], 1) := by simpa using hb
        rw [if_pos hs] at e'
        refine w_ret1 (K := K) (d := .int acc) (ed_var rfl (.int _)) fun v9 H9 x9 h9 => go v9 H9 (((x2.trans x3).trans x4).trans x9) ?_
        show Dp K H9 v9 (eOpt (n.lawTk s 0 plan))
        rw [e']
        exact h9
end

end Fy

namespace Fy
open PySem PySem.Spec PyProof.Rows L2
theorem en_cat2 {K : PySem.W.Frag} {σ : L2.St} {H : Hp} {ta tb : TE} {ds es : List PyData} (h1 : EvN K ta σ H ds) (h2 : EvN K tb σ H es) (hl : ds.length + es.length ≤ 100000) : EvN K (tOp rCat ta tb) σ H (ds ++ es) := fun H1 x Q q =>
  h1 H1 x _ fun v H2 x2 hv => h2 H2 (x.trans x2) _ fun u H3 x3 hu => by
    obtain ⟨p, xs, rfl, p0, p1, p2⟩ := hv
    obtain ⟨r, ys, rfl, r0, r1, r2⟩ := hu
    have e1 := dpa_len p2
    have e2 := dpa_len r2
    exact ⟨p, r, xs, ys, rfl, rfl, x3 _ _ p1, r1, Evl.sz_of (by omega), fun z hz => q _ _ ((x2.trans x3).trans (Evl.Ex.new hz)) ⟨z, _, rfl, Evl.fresh_back (x2.trans x3) hz, upd_same, dpa_app (dpa_mono (x3.trans (Evl.Ex.new hz)) _ _ p2) (dpa_mono (Evl.Ex.new hz) _ _ r2)⟩⟩
theorem atI_mem {L : List (List Int)} {i : Int} (h0 : -(L.length : Int) ≤ i) (h1 : i < L.length) : ∃ g ∈ L, atI (L.map eI) i = some (eI g) := by
  by_cases h : 0 ≤ i
  · obtain ⟨k, rfl⟩ : ∃ k : Nat, i = (k : Int) := ⟨i.toNat, by omega⟩
    have hk : k < L.length := by omega
    refine ⟨L[k], List.getElem_mem hk, atI_nat ?_⟩
    rw [List.getElem?_map, List.getElem?_eq_getElem hk]
    rfl
  · have hk : (i + L.length).toNat < L.length := by omega
    refine ⟨L[(i + L.length).toNat], List.getElem_mem hk, ?_⟩
    unfold atI ixN
    rw [List.length_map, if_neg h, if_pos h0, Option.bind_some, List.getElem?_map, List.getElem?_eq_getElem hk]
    rfl
theorem atI_last {L : List (List Int)} {g : List Int} : atI ((L ++ [g]).map eI) (-1) = some (eI g) := by
  unfold atI ixN
  rw [List.length_map, List.length_append, List.length_singleton, if_neg (by decide), if_pos (by omega), Option.bind_some, List.getElem?_map, show ((-1 : Int) + ((L.length + 1 : Nat) : Int)).toNat = L.length by omega, List.getElem?_append_right (Nat.le_refl _), Nat.sub_self]
  rfl
section
variable {P : Program} {w : World} {K : PySem.W.Frag} {mg : Str → Option Value} {base : Heap}
theorem sc__law_row : FnScope ["script", "night", "standing", "row", "k", "some", "cell"] ["script", "night"] (defScope s__law_row) := ⟨rfl, rfl, rfl, by decide +kernel, rfl, by decide +kernel, by decide +kernel⟩
theorem ok__law_row (T : Tx K mg) : Has P w K mg base CX0 4 "_law_row" ["script", "night"] (spRow K) := by
  obtain ⟨fd, F⟩ := T.f__law_row
  have G__law_cell_at := ok__law_cell_at (P := P) (w := w) (base := base) T
  have G__law_behind := ok__law_behind (P := P) (w := w) (base := base) T
  have G__law_crews := ok__law_crews (P := P) (w := w) (base := base) T
  refine ⟨T.g__law_row, fd, F.ok sc__law_row (fun vs H Q E h => ?_) (fun cdv A outer s H vs Q E hr h => ⟨_, PSs.nox (pss_cons (ps_set (i := 2) sc__law_row.nd rfl (.inl rfl) (pe_tup (pa_cons (pe_tupRg rfl rfl T.b_tuple (prg_1 rfl T.b_range (pe_callB (r := rLenQ K) call_len_seq (by rfl) T.b_len (by decide +kernel) (pa_cons (pe_ix (r := rIxT K) ix_tup (pv 1) pe_int (fun _ _ => rfl)) pa_nil)))) (pa_cons pe_int pa_nil))))
      (pss_cons (ps_set (i := 3) sc__law_row.nd rfl (.inl rfl) (pe_lst pa_nil))
      (pss_cons (ps_for PassesOwn.never rfl (pi_range1 rfl T.b_range (pa_cons (pe_op op_mod (pe_f G__law_cell_at (hr.mono (by decide)) rfl (pa_cons (pv 0) (pa_cons pe_int pa_nil))) pe_int) pa_nil)) (pg_name (i := 4) sc__law_row.nd rfl (.inl rfl)) (pss_cons (ps_set (i := 5) sc__law_row.nd rfl (.inl rfl) (pe_f G__law_crews (hr.mono (by decide)) rfl (pa_cons (pe_ix (r := rIxT K) ix_tup (pv 1) pe_int (fun _ _ => rfl)) (pa_cons (pe_ix (r := rIxT K) ix_tup (pv 1) pe_int (fun _ _ => rfl)) (pa_cons (pe_ix (r := rIxT K) ix_tup (pv 1) pe_int (fun _ _ => rfl)) (pa_cons (pv 2) pa_nil))))))
      (pss_one (ps_if (PW.pt (pw_and (pt_cmpR op_gt (pe_callB (r := rLenQ K) call_len_seq (by rfl) T.b_len (by decide +kernel) (pa_cons (pv 5) pa_nil)) pe_int (nomark _)) (pw_and1 (PW.pt (pw_or (pt_cmpR (r := rNeD K) (op_neD hr.units) (pv 2) (pe_tup (pa_cons (pe_tup pa_nil) (pa_cons pe_int pa_nil))) (nomark _)) (pw_or1 (pt_cmpR op_eq (pe_op op_mod (pe_op op_fdiv (pe_f G__law_cell_at (hr.mono (by decide)) rfl (pa_cons (pv 0) (pa_cons pe_int pa_nil))) pe_int) pe_int) pe_int (nomark _)))))))) (pss_cons (ps_set (i := 6) sc__law_row.nd rfl (.inl rfl) (pe_f G__law_cell_at (hr.mono (by decide)) rfl (pa_cons (pv 0) (pa_cons (pe_op op_add pe_int (pv 4)) pa_nil))))
      (pss_cons (ps_if (pt_cmpR op_gt (pe_op op_mod (pv 6) pe_int) pe_int (nomark _)) (pss_cons (ps_set (i := 5) sc__law_row.nd rfl (.inl rfl) (pe_sortLen hr.units rfl T.b_sorted rfl T.b_len (pa_cons (pv 5) pa_nil)))
      (pss_one (ps_set (i := 5) sc__law_row.nd rfl (.inl rfl) (pe_lst (pa_cons (pe_ix (r := rIxL K) ix_list (pe_lst (pa_cons (pe_ix (r := rIxL K) ix_list (pv 5) (pe_un un_neg pe_int) (fun _ _ => rfl)) (pa_cons (pe_ix (r := rIxL K) ix_list (pv 5) pe_int (fun _ _ => rfl)) pa_nil))) (pe_ix (r := rIxT K) ix_tup (pv 2) pe_int (fun _ _ => rfl)) (fun _ _ => rfl)) pa_nil))))) pss_nil)
      (pss_cons (ps_expr (pe_bm PySem.F.plainAttrs_list PySem.F.slot_list_append PySem.F.type_list_append mt_append (pv 3) (pa_cons (pe_ix (r := rIxL K) ix_list (pv 5) (pe_op op_mod (pe_op op_fdiv (pv 6) pe_int) (pe_callB (r := rLenQ K) call_len_seq (by rfl) T.b_len (by decide +kernel) (pa_cons (pv 5) pa_nil))) (fun _ _ => rfl)) pa_nil)))
      (pss_one (ps_set (i := 2) sc__law_row.nd rfl (.inl rfl) (pe_f G__law_behind (hr.mono (by decide)) rfl (pa_cons (pv 2) (pa_cons (pe_ix (r := rIxL K) ix_list (pv 3) (pe_un un_neg pe_int) (fun _ _ => rfl)) (pa_cons (pe_callB (r := rLenQ K) call_len_seq (by rfl) T.b_len (by decide +kernel) (pa_cons (pe_ix (r := rIxT K) ix_tup (pv 1) pe_int (fun _ _ => rfl)) pa_nil)) pa_nil))))))))) pss_nil))))
      (pss_one (ps_ret (pv 3)))))), ?_⟩), F.bindsN fun _ _ _ _ _ _ us hl => match us, hl with | [_, _], _ => rfl, F.kp⟩
  · obtain ⟨v, u, ns, n, rfl, _⟩ := h
    rfl
  · obtain ⟨v, u, ns, n, rfl, hv, hu0, hl, m1, m6, q⟩ := h
    have hu : Dp K H u (.tuple [.list (n.things.map eT), .int n.room, .list (n.quarrels.map eQ)]) := hu0
    have lm : n.things.length ≤ 1000 := by omega
    have lenT : ∀ σ H0, Ex H H0 → σ[1]? = some (some u) → EvD K (tCB (rLenQ K) (tCons (tOp (rIxT K) (tVar 1) (tC (.int 0))) tNil)) σ H0 (.int (n.things.length : Nat)) := fun σ H0 x0 hσ => by
      have z := ed_cb (eds_cons (ed_op (ed_var hσ (dp_mono x0 _ _ hu)) (ed_int (i := 0)) (rd_ixT (z := .list (n.things.map eT)) (by rfl))) eds_nil) (cd_lenL (K := K))
      rw [List.length_map] at z
      exact z
    refine' w_asg (K := K) (d := .tuple [eI (rng n.things.length), .int 0]) (ed_tup (eds_cons (ed_tupRg (lenT _ _ (Evl.Ex.refl H) rfl) lm) (eds_cons ed_int eds_nil)) (show 2 ≤ 100000 by decide)) (fun v2 H2 x2 h2 => ?_)
    refine' w_asgN (K := K) (ds := []) (en_lst eds_nil (by decide)) (fun v3 H3 x3 hL => ?_)
    obtain ⟨l, xs, rfl, l0, l1, l2⟩ := hL
    cases l2
    have c1 := Int.emod_nonneg (cell ns 16) (show (10 : Int) ≠ 0 by decide)
    have c2 := Int.emod_lt_of_pos (cell ns 16) (show (0 : Int) < 10 by decide)
    have x03 := x2.trans x3
    refine' w_forR (K := K) (n := cell ns 16 % 10) ?ta (by omega) (fun i σ H' => ∃ s R v3 ys a b c, σ = [some v, some u, some v3, some (.ref l), a, b, c] ∧ Ex H2 H' ∧ standOk n.things.length s = true ∧ Dp K H' v3 (eS s) ∧ H' l = some (.lst ys) ∧ DpAll K H' ys (R.map eI) ∧ R.length ≤ i ∧ ∀ c ∈ R, c.length ≤ 6) (fun H4 x4 => ⟨(rng n.things.length, 0), [], v2, [], none, none, none, rfl, x3.trans x4, by unfold standOk; rw [climb_of_sub (List.Sublist.refl _)]; rfl, dp_mono (x3.trans x4) _ _ h2, x4 _ _ l1, .nil, Nat.zero_le _, fun c hc => nomatch hc⟩) ?_ ?_
    case ta => walk_at "ed"
    · rintro i σ H' hi ⟨s, R, v3, ys, a, b, c, rfl, x4, sok, hs, hA, hD, hRl, hRc⟩
      have x04 := x2.trans x4
      obtain ⟨sin, sle⟩ := standOk_in sok
      have sl : s.1.length ≤ 1000 := by omega
      have s2 : s.2 = 0 ∨ s.2 = 1 := by unfold standOk at sok; rw [Bool.and_eq_true] at sok; exact of_decide_eq_true sok.2
      refine' w_asgN (K := K) (ds := (n.lawCrews s).map eI) (en_lcrews n ?t1 ?t2 ?t3 ?t4 ⟨m6, sl⟩) (fun v5 H5 x5 h5 => ?_)
      case t1 => walk_at "ed"
      case t2 => walk_at "ed"
      case t3 => walk_at "ed"
      case t4 => exact ed_var rfl hs
      have d5 := h5.dp
      have hs5 := dp_mono x5 _ _ hs
      have x05 := x04.trans x5
      refine' w_when1 K (b := decide (0 < (((n.lawCrews s).map eI).length : Int)) && (!decide (s = ([], 1)) || decide (cell ns 16 / 10 % 3 = 0))) (eb_and ?tt (fun _ => eb_or (eb_d (EvD.cast (ed_op (d := eS s) (e := eS ([], 1)) (ed_var rfl hs5) (?tc : EvD K _ _ _ (.tuple [.tuple [], .int 1])) (rd_neD (sh_eS _) (sh_eS _))) ?td)) (fun _ => ?te))) (fun hb H6 x6 => ?_) (fun hb H6 x6 => ?_)
      case tt => walk_at "et"
      case tc => walk_at "ed"
      case td => simp only [eqv_eS]
      case te => walk_at "et"
      · rw [List.length_map, Bool.and_eq_true] at hb
        have hb' := of_decide_eq_true hb.1
        have x06 := x05.trans x6
        have hs6 := dp_mono x6 _ _ hs5
        have d6 := dp_mono x6 _ _ d5
        refine' w_asg (K := K) (d := .int (cell ns (17 + i))) ?tf (fun v7 H7 x7 h7 => ?_)
        case tf => walk_at "ed"
        cases dp_int.mp h7
        have hs7 := dp_mono x7 _ _ hs6
        have d7 := dp_mono x7 _ _ d6
        have x07 := x06.trans x7
        refine' w_join (fun σ' H8 => ∃ (L : List (List Int)) (v5 : V), σ' = [some v, some u, some v3, some (.ref l), some (.int (i : Int)), some v5, some (.int (cell ns (17 + i)))] ∧ Ex H7 H8 ∧ Dp K H8 v5 (.list (L.map eI)) ∧ 0 < L.length ∧ ∀ g ∈ L, g ∈ n.lawCrews s) ?go (fun go => ?main)
        case main =>
          refine' w_when K (b := decide (0 < cell ns (17 + i) % 3)) ?tg (fun hb2 H8 x8 => ?_) (fun hb2 H8 x8 => ?_)
          case tg => walk_at "et"
          · refine w_asgN (K := K) (en_cb (ds := [.list ((n.lawCrews s).map eI)]) (eds_cons (ed_var rfl (dp_mono x8 _ _ d7)) eds_nil) cn_sortLen) (fun v9 H9 x9 h9 => ?_)
            have d9 := h9.dp
            have hs9 := dp_mono (x8.trans x9) _ _ hs7
            have hsl : (((n.lawCrews s).mergeSort (PySem.W.dataLe false fun g : List Int => .int (g.length : Int))).length : Int) = (n.lawCrews s).length := by rw [List.length_mergeSort]
            obtain ⟨g1, g1m, ix1⟩ := atI_mem (L := (n.lawCrews s).mergeSort (PySem.W.dataLe false fun g : List Int => .int (g.length : Int))) (i := -1) (by omega) (by omega)
            obtain ⟨g2, g2m, ix2⟩ := atI_mem (L := (n.lawCrews s).mergeSort (PySem.W.dataLe false fun g : List Int => .int (g.length : Int))) (i := 0) (by omega) (by omega)
            have g1c := (List.mergeSort_perm _ _).mem_iff.mp g1m
            have g2c := (List.mergeSort_perm _ _).mem_iff.mp g2m
            obtain ⟨g3, g3m, ix3⟩ := atI_mem (L := [g1, g2]) (i := s.2) (by rcases s2 with e | e <;> rw [e] <;> simp) (by rcases s2 with e | e <;> rw [e] <;> simp)
            have two : EvN K (tLst (tCons (tOp (rIxL K) (tVar 5) (tUn (rU fun i => .int (-i)) (tC (.int 1)))) (tCons (tOp (rIxL K) (tVar 5) (tC (.int 0))) tNil))) [some v, some u, some v3, some (.ref l), some (.int (i : Int)), some v9, some (.int (cell ns (17 + i)))] H9 ([g1, g2].map eI) :=
              en_lst (eds_cons (ed_op (ed_var rfl d9) (ed_un (i := 1) ed_int (fun _ => .int _)) (rd_ixL ix1)) (eds_cons (ed_op (ed_var rfl d9) ed_int (rd_ixL ix2)) eds_nil)) (show 2 ≤ 100000 by decide)
            have hs9' : Dp K H9 v3 (.tuple [eI s.1, .int s.2]) := hs9
            refine w_asg1 (K := K) (d := .list ([g3].map eI)) (en_lst (ds := [eI g3]) (eds_cons (ed_op two.toD (ed_op (ed_var rfl hs9') (ed_int (i := 1)) (rd_ixT (by rfl))) (rd_ixL ix3)) eds_nil) (show 1 ≤ 100000 by decide)).toD (fun v10 H10 x10 h10 => ?_)
            refine go _ _ ⟨[g3], v10, rfl, (x8.trans x9).trans x10, h10, Nat.zero_lt_one, fun g hg => ?_⟩
            rw [List.mem_singleton.mp hg]
            rcases List.mem_cons.mp g3m with e | e
            · rw [e]; exact g1c
            · rw [List.mem_singleton.mp e]; exact g2c
          · exact go _ _ ⟨n.lawCrews s, v5, rfl, x8, dp_mono x8 _ _ d7, by omega, fun g hg => hg⟩
        case go =>
          rintro σ' H8 ⟨L, v9, rfl, x8, h8, hL0, hLm⟩
          have x48 := (((x5.trans x6).trans x7).trans x8)
          have x08 := x07.trans x8
          have hL0' : 0 < (L.length : Int) := by omega
          have k1 := Int.emod_nonneg (cell ns (17 + i) / 3) (show (L.length : Int) ≠ 0 by omega)
          have k2 := Int.emod_lt_of_pos (cell ns (17 + i) / 3) hL0'
          have hb3 : 0 < ((L.map eI).length : Int) := by rw [List.length_map]; exact hL0'
          obtain ⟨g, gm, ix⟩ := atI_mem (L := L) (i := cell ns (17 + i) / 3 % (L.length : Int)) (by omega) k2
          have ix' : atI (L.map eI) (cell ns (17 + i) / 3 % ((L.map eI).length : Int)) = some (eI g) := by rw [List.length_map]; exact ix
          have gl := sub_len (lawCrews_items g (hLm g gm))
          have hyl : ys.length ≤ 20 := by have := dpa_len hD; rw [List.length_map] at this; omega
          refine w_app (K := K) (l := l) (d := eI g) (ea_var rfl) (ed_op (d := .list (L.map eI)) (ed_var rfl h8) ?th (rd_ixL ix')) (x48 _ _ hA) (by omega) (fun u9 H9 x9 h9 hl9 => ?_)
          case th => walk_at "ed"
          have u9' : Up H9 (upd H9 l (.lst (ys ++ [u9]))) := Up.lst hl9
          have x49 := x48.trans x9
          have nA : DpAll K (upd H9 l (.lst (ys ++ [u9]))) (ys ++ [u9]) ((R ++ [g]).map eI) := by
            rw [List.map_append]
            exact dpa_snoc (dpa_up u9' _ _ (noLs_map noL_eI _) (dpa_mono x49 _ _ hD)) (dp_up u9' _ _ (noL_eI _) h9)
          have xm : Ex H2 (upd H9 l (.lst (ys ++ [u9]))) := (x4.trans x49).mut l0
          have sm : Dp K (upd H9 l (.lst (ys ++ [u9]))) v3 (eS s) := dp_up u9' _ _ (noL_eS _) (dp_mono x49 _ _ hs)
          have lm9 : upd H9 l (.lst (ys ++ [u9])) l = some (.lst (ys ++ [u9])) := upd_same
          generalize upd H9 l (.lst (ys ++ [u9])) = Hm at nA xm sm lm9
          have rowd : Dp K Hm (.ref l) (.list ((R ++ [g]).map eI)) := dp_lst.mpr ⟨l, _, rfl, SqL.of lm9, nA⟩
          refine w_asg1 (K := K) (d := eS (behind s g n.things.length)) (ed_behind (ed_var rfl sm) (ed_op (ed_var rfl rowd) (ed_un (i := 1) ed_int (fun _ => .int _)) (rd_ixL atI_last)) (lenT _ _ (x2.trans xm) rfl) ⟨sl, lm⟩) (fun v10 H10 x10 h10 => ?_)
          refine ⟨behind s g n.things.length, R ++ [g], v10, _, _, _, _, rfl, xm.trans x10, standOk_behind sok, h10, x10 _ _ lm9, dpa_mono x10 _ _ nA, by rw [List.length_append, List.length_singleton]; omega, fun c hc => ?_⟩
          rcases List.mem_append.mp hc with hc | hc
          · exact hRc c hc
          · rw [List.mem_singleton.mp hc]; omega
      · exact ⟨s, R, v3, ys, _, _, _, rfl, (x4.trans x5).trans x6, sok, dp_mono x6 _ _ hs5, (x5.trans x6) _ _ hA, dpa_mono (x5.trans x6) _ _ hD, by omega, hRc⟩
    · rintro σ H' ⟨s, R, v3, ys, a, b, c, rfl, x4, sok, hs, hA, hD, hRl, hRc⟩
      exact ⟨_, rfl, q _ H' (x2.trans x4) ⟨R, by omega, hRc, dp_lst.mpr ⟨l, ys, rfl, SqL.of hA, hD⟩⟩⟩
end

end Fy

namespace Fy
open PySem PySem.Spec PyProof.Rows L2
section
variable {P : Program} {w : World} {K : PySem.W.Frag} {mg : Str → Option Value} {base : Heap}
theorem sc__law_spoiled : FnScope ["row", "way", "cell", "many", "at", "crew"] ["row", "way", "cell", "many"] (defScope s__law_spoiled) := ⟨rfl, rfl, rfl, by decide +kernel, rfl, by decide +kernel, by decide +kernel⟩
theorem ok__law_spoiled (T : Tx K mg) : Has P w K mg base CX0 2 "_law_spoiled" ["row", "way", "cell", "many"] (spSpoiled K) := by
  obtain ⟨fd, F⟩ := T.f__law_spoiled
  have G__law_bits := ok__law_bits (P := P) (w := w) (base := base) T
  refine ⟨T.g__law_spoiled, fd, F.ok sc__law_spoiled (fun vs H Q E h => ?_) (fun cdv A outer s H vs Q E hr h => ⟨_, PSs.nox (pss_cons (ps_if (PW.pt (pw_or (pt_cmpR (r := rEqD K) (op_eqD hr.units) (pv 0) (pe_lst pa_nil) (nomark _)) (pw_or1 (pt_cmpR op_gt (pv 1) pe_int (nomark _))))) (pss_one (ps_ret (pv 0))) pss_nil)
      (pss_cons (ps_set (i := 4) sc__law_spoiled.nd rfl (.inl rfl) (pe_op op_mod (pv 2) (pe_callB (r := rLenQ K) call_len_seq (by rfl) T.b_len (by decide +kernel) (pa_cons (pv 0) pa_nil))))
      (pss_cons (ps_if (pt_cmpR op_eq (pv 1) pe_int (nomark _)) (pss_one (ps_ret (pe_op op_cat (pe_slice (r := rSlL K) sl_list (pv 0) po_none (po_some (pv 4))) (pe_slice (r := rSlL K) sl_list (pv 0) (po_some (pe_op op_add (pv 4) pe_int)) po_none)))) pss_nil)
      (pss_cons (ps_if (pt_cmpR op_eq (pv 1) pe_int (nomark _)) (pss_one (ps_ret (pe_op op_cat (pe_op op_cat (pe_slice (r := rSlL K) sl_list (pv 0) po_none (po_some (pv 4))) (pe_lst (pa_cons (pe_ix (r := rIxL K) ix_list (pv 0) (pv 4) (fun _ _ => rfl)) pa_nil))) (pe_slice (r := rSlL K) sl_list (pv 0) (po_some (pv 4)) po_none)))) pss_nil)
      (pss_cons (ps_if (pt_cmpR op_eq (pv 1) pe_int (nomark _)) (pss_one (ps_ret (pe_op op_cat (pe_op op_cat (pe_slice (r := rSlL K) sl_list (pv 0) po_none (po_some (pv 4))) (pe_lst (pa_cons (pe_f G__law_bits (hr.mono (by decide)) rfl (pa_cons (pe_op op_mod (pe_op op_fdiv (pv 2) pe_int) pe_int) (pa_cons (pv 3) pa_nil))) pa_nil))) (pe_slice (r := rSlL K) sl_list (pv 0) (po_some (pe_op op_add (pv 4) pe_int)) po_none)))) pss_nil)
      (pss_cons (ps_if (pt_cmpR op_eq (pv 1) pe_int (nomark _)) (pss_one (ps_ret (pe_op op_cat (pe_op op_cat (pe_slice (r := rSlL K) sl_list (pv 0) po_none (po_some (pv 4))) (pe_lst (pa_cons (pe_tupRevT rfl rfl T.b_tuple rfl T.b_reversed (pe_ix (r := rIxL K) ix_list (pv 0) (pv 4) (fun _ _ => rfl))) pa_nil))) (pe_slice (r := rSlL K) sl_list (pv 0) (po_some (pe_op op_add (pv 4) pe_int)) po_none)))) pss_nil)
      (pss_cons (ps_if (pt_cmpR op_eq (pv 1) pe_int (nomark _)) (pss_cons (ps_set (i := 5) sc__law_spoiled.nd rfl (.inl rfl) (pe_op (r := rCatA K) op_catA (pe_ix (r := rIxL K) ix_list (pv 0) (pv 4) (fun _ _ => rfl)) (pe_slice (r := rSlA K) sl_tupA (pe_ix (r := rIxL K) ix_list (pv 0) (pv 4) (fun _ _ => rfl)) po_none (po_some pe_int))))
      (pss_one (ps_ret (pe_op op_cat (pe_op op_cat (pe_slice (r := rSlL K) sl_list (pv 0) po_none (po_some (pv 4))) (pe_lst (pa_cons (pv 5) pa_nil))) (pe_slice (r := rSlL K) sl_list (pv 0) (po_some (pe_op op_add (pv 4) pe_int)) po_none))))) pss_nil)
      (pss_cons (ps_if (pt_cmpR op_eq (pv 1) pe_int (nomark _)) (pss_one (ps_ret (pe_op op_cat (pe_op op_cat (pe_slice (r := rSlL K) sl_list (pv 0) po_none (po_some (pv 4))) (pe_lst (pa_cons (pe_op (r := rCatA K) op_catA (pe_ix (r := rIxL K) ix_list (pv 0) (pv 4) (fun _ _ => rfl)) (pe_tup (pa_cons (pe_op op_add (pv 3) (pe_op op_mod (pe_op op_fdiv (pv 2) pe_int) pe_int)) pa_nil))) pa_nil))) (pe_slice (r := rSlL K) sl_list (pv 0) (po_some (pe_op op_add (pv 4) pe_int)) po_none)))) pss_nil)
      (pss_one (ps_ret (pv 0))))))))))), ?_⟩), F.bindsN fun _ _ _ _ _ _ us hl => match us, hl with | [_, _, _, _], _ => rfl, F.kp⟩
  · obtain ⟨R, way, c, m, h, _⟩ := h
    exact dpa_len h
  · obtain ⟨R, way, c, m, hv0, hR, hRc, m6, q⟩ := h
    obtain ⟨v, b, rfl, hv, hb⟩ : ∃ v b, vs = v :: b ∧ Dp K H v (.list (R.map eI)) ∧ DpAll K H b [.int way, .int c, .int (m : Int)] := by
      cases hv0 with
      | cons a b => exact ⟨_, _, rfl, a, b⟩
    obtain ⟨u1, u2, u3, rfl, hu1, hu2, hu3⟩ := dpa3 hb
    cases dp_int.mp hu1
    cases dp_int.mp hu2
    cases dp_int.mp hu3
    have m1000 : m ≤ 1000 := by omega
    have fin : ∀ (R' : List (List Int)) H' v', R'.length ≤ 100 → Ex H H' → Dp K H' v' (.list (R'.map eI)) → Q v' H' := fun R' H' v' h x hd => q v' H' x ⟨R', h, hd⟩
    refine' w_when K (b := PyData.eqv (.list (R.map eI)) (.list ([].map eI)) || decide (6 < way)) (eb_or (eb_d (ed_op (ed_var rfl hv) (en_lst (ds := []) eds_nil (by decide)).toD (rd_eqD (sh_eIs _) (sh_eIs [])))) (fun _ => ?tt)) (fun hb H1 x1 => ?_) (fun hb H1 x1 => ?_)
    case tt => walk_at "et"
    · exact ⟨_, rfl, fin R H1 _ (by omega) x1 (dp_mono x1 _ _ hv)⟩
    · rw [eqv_lst eqv_eI, Bool.or_eq_false_iff] at hb
      have hne : R ≠ [] := of_decide_eq_false hb.1
      have hpos : 0 < R.length := List.length_pos_iff.mpr hne
      have hposI : 0 < (R.length : Int) := by omega
      have hpos3 : 0 < ((R.map eI).length : Int) := by rw [List.length_map]; omega
      have k1 := Int.emod_nonneg c (show (R.length : Int) ≠ 0 by omega)
      have k2 := Int.emod_lt_of_pos c hposI
      refine' w_asg (K := K) (d := .int (c % ((R.map eI).length : Int))) ?t (fun v5 H2 x2 h2 => ?_)
      case t => walk_at "ed"
      rw [List.length_map] at h2
      obtain ⟨k, hk⟩ : ∃ k : Nat, c % (R.length : Int) = (k : Int) := ⟨(c % (R.length : Int)).toNat, by omega⟩
      rw [hk] at h2 k2
      cases dp_int.mp h2
      have kl : k < R.length := by omega
      have x02 := x1.trans x2
      have ik : atI (R.map eI) (k : Int) = some (eI R[k]) := atI_nat (by rw [List.getElem?_map, List.getElem?_eq_getElem kl]; rfl)
      have ik6 : R[k].length ≤ 6 := hRc _ (List.getElem_mem kl)
      -- row[:at], row[at + 1:], row[at:], row[at]
      have pA : ∀ {σ : L2.St} {H3 : Hp}, Ex H2 H3 → σ[0]? = some (some v) → σ[4]? = some (some (.int (k : Int))) → EvN K (tSl (rSlL K) (tVar 0) tNoPart (tPart (tVar 4))) σ H3 ((R.take k).map eI) := fun {σ H3} x3 e0 e4 => by
        have z := en_slL (K := K) (σ := σ) (H := H3) (te := tVar 0) (to := tNoPart) (th := tPart (tVar 4)) (ed_var e0 (dp_mono (x02.trans x3) _ _ hv)) eo_none (eo_some (i := (k : Int)) (ed_var e4 (.int _)))
        rw [cutD_to, ← List.map_take] at z
        exact z
      have pB : ∀ {σ : L2.St} {H3 : Hp}, Ex H2 H3 → σ[0]? = some (some v) → σ[4]? = some (some (.int (k : Int))) → EvN K (tSl (rSlL K) (tVar 0) (tPart (tOp (rI0 fun i j => .int (i + j)) (tVar 4) (tC (.int 1)))) tNoPart) σ H3 ((R.drop (k + 1)).map eI) := fun {σ H3} x3 e0 e4 => by
        have z := en_slL (K := K) (σ := σ) (H := H3) (te := tVar 0) (to := tPart (tOp (rI0 fun i j => .int (i + j)) (tVar 4) (tC (.int 1)))) (th := tNoPart) (ed_var e0 (dp_mono (x02.trans x3) _ _ hv)) (eo_some (i := ((k + 1 : Nat) : Int)) (ed_op (ed_var e4 (.int _)) ed_int (rd_I0 fun _ => .int _))) eo_none
        rw [cutD_from, ← List.map_drop] at z
        exact z
      have pC : ∀ {σ : L2.St} {H3 : Hp}, Ex H2 H3 → σ[0]? = some (some v) → σ[4]? = some (some (.int (k : Int))) → EvN K (tSl (rSlL K) (tVar 0) (tPart (tVar 4)) tNoPart) σ H3 ((R.drop k).map eI) := fun {σ H3} x3 e0 e4 => by
        have z := en_slL (K := K) (σ := σ) (H := H3) (te := tVar 0) (to := tPart (tVar 4)) (th := tNoPart) (ed_var e0 (dp_mono (x02.trans x3) _ _ hv)) (eo_some (i := (k : Int)) (ed_var e4 (.int _))) eo_none
        rw [cutD_from, ← List.map_drop] at z
        exact z
      have pI : ∀ {σ : L2.St} {H3 : Hp}, Ex H2 H3 → σ[0]? = some (some v) → σ[4]? = some (some (.int (k : Int))) → EvD K (tOp (rIxL K) (tVar 0) (tVar 4)) σ H3 (eI R[k]) := fun {σ H3} x3 e0 e4 => ed_op (ed_var e0 (dp_mono (x02.trans x3) _ _ hv)) (ed_var e4 (.int _)) (rd_ixL ik)
      have lA : (R.take k).length ≤ 20 := by rw [List.length_take]; omega
      have lB : (R.drop (k + 1)).length ≤ 20 := by rw [List.length_drop]; omega
      have lC : (R.drop k).length ≤ 20 := by rw [List.length_drop]; omega
      have three : ∀ {σ : L2.St} {H3 : Hp} {te tz : TE} {g : List Int} {Z : List (List Int)}, Ex H2 H3 → σ[0]? = some (some v) → σ[4]? = some (some (.int (k : Int))) → Z.length ≤ 20 → EvD K te σ H3 (eI g) → EvN K tz σ H3 (Z.map eI) → EvN K (tOp rCat (tOp rCat (tSl (rSlL K) (tVar 0) tNoPart (tPart (tVar 4))) (tLst (tCons te tNil))) tz) σ H3 ((R.take k ++ [g] ++ Z).map eI) := fun {σ H3 te tz g Z} x3 e0 e4 hZ h1 h2 => by
        have z := en_cat2 (en_cat2 (pA x3 e0 e4) (en_lst (ds := [eI g]) (eds_cons h1 eds_nil) (show 1 ≤ 100000 by decide)) (by rw [List.length_map]; show _ + 1 ≤ 100000; omega)) h2 (by rw [List.length_append, List.length_map, List.length_map]; show _ + 1 + _ ≤ 100000; omega)
        rw [List.map_append, List.map_append]
        exact z
      have l3 : ∀ (g : List Int) (Z : List (List Int)), Z.length ≤ 20 → (R.take k ++ [g] ++ Z).length ≤ 100 := fun g Z hZ => by rw [List.length_append, List.length_append, List.length_singleton]; omega
      refine' w_when K (b := decide (way = 1)) ?t1 (fun hb H3 x3 => ?_) (fun hb H3 x3 => ?_)
      case t1 => walk_at "et"
      · refine w_retN1 (K := K) (en_cat2 (pA x3 rfl rfl) (pB x3 rfl rfl) (by rw [List.length_map, List.length_map]; omega)) fun v9 H9 x9 h9 => fin (R.take k ++ R.drop (k + 1)) H9 v9 (by rw [List.length_append]; omega) ((x02.trans x3).trans x9) ?_
        rw [List.map_append]
        exact h9.dp
      refine' w_when K (b := decide (way = 2)) ?t2 (fun hb H4 x4 => ?_) (fun hb H4 x4 => ?_)
      case t2 => walk_at "et"
      · exact w_retN1 (K := K) (three (x3.trans x4) rfl rfl lC (pI (x3.trans x4) rfl rfl) (pC (x3.trans x4) rfl rfl)) fun v9 H9 x9 h9 => fin _ H9 v9 (l3 _ _ lC) (((x02.trans x3).trans x4).trans x9) h9.dp
      have x34 := x3.trans x4
      refine' w_when K (b := decide (way = 3)) ?t3 (fun hb H5 x5 => ?_) (fun hb H5 x5 => ?_)
      case t3 => walk_at "et"
      · have bt : EvD K (tCall (spBits K) [] E0 (tCons (tOp (rI (fun _ j => 0 < j) fun i j => .int (i % j)) (tOp (rI CDiv fun i j => .int (i / j)) (tVar 2) (tC (.int 8))) (tC (.int 64))) (tCons (tVar 3) tNil))) [some v, some (.int way), some (.int c), some (.int (m : Int)), some (.int (k : Int)), none] H5 (eI (bitsL (c / 8 % 64) m)) := by walk_at "ed"
        exact w_retN1 (K := K) (three (x34.trans x5) rfl rfl lB bt (pB (x34.trans x5) rfl rfl)) fun v9 H9 x9 h9 => fin _ H9 v9 (l3 _ _ lB) (((x02.trans x34).trans x5).trans x9) h9.dp
      have x35 := x34.trans x5
      refine' w_when K (b := decide (way = 4)) ?t4 (fun hb H6 x6 => ?_) (fun hb H6 x6 => ?_)
      case t4 => walk_at "et"
      · exact w_retN1 (K := K) (three (x35.trans x6) rfl rfl lB (ed_tupRevT (pI (x35.trans x6) rfl rfl)) (pB (x35.trans x6) rfl rfl)) fun v9 H9 x9 h9 => fin _ H9 v9 (l3 _ _ lB) (((x02.trans x35).trans x6).trans x9) h9.dp
      have x36 := x35.trans x6
      refine' w_when K (b := decide (way = 5)) ?t5 (fun hb H7 x7 => ?_) (fun hb H7 x7 => ?_)
      case t5 => walk_at "et"
      · have x37 := x36.trans x7
        have cl : R[k].length + (R[k].take 1).length ≤ 100000 := by rw [List.length_take]; omega
        refine w_asg (K := K) (d := eI (R[k] ++ R[k].take 1)) (ed_op (pI x37 rfl rfl) (ed_slA (pI x37 rfl rfl) eo_none (eo_some (i := ((1 : Nat) : Int)) ed_int) (by rw [cutZ_to])) (rd_catA cl)) (fun v8 H8 x8 h8 => ?_)
        exact w_retN1 (K := K) (three (x37.trans x8) rfl rfl lB (ed_var rfl h8) (pB (x37.trans x8) rfl rfl)) fun v9 H9 x9 h9 => fin _ H9 v9 (l3 _ _ lB) (((x02.trans x37).trans x8).trans x9) h9.dp
      have x37 := x36.trans x7
      refine' w_when K (b := decide (way = 6)) ?t6 (fun hb H8 x8 => ?_) (fun hb H8 x8 => ?_)
      case t6 => walk_at "et"
      · have cl : R[k].length + [(m : Int) + c / 8 % 3].length ≤ 100000 := by rw [List.length_singleton]; omega
        have bt : EvD K (tTup (tCons (tOp (rI0 fun i j => .int (i + j)) (tVar 3) (tOp (rI (fun _ j => 0 < j) fun i j => .int (i % j)) (tOp (rI CDiv fun i j => .int (i / j)) (tVar 2) (tC (.int 8))) (tC (.int 3)))) tNil)) [some v, some (.int way), some (.int c), some (.int (m : Int)), some (.int (k : Int)), none] H8 (eI [(m : Int) + c / 8 % 3]) := by
          refine (?tq : EvD K _ _ _ (.tuple [.int _]))
          walk_at "ed"
        exact w_retN1 (K := K) (three (x37.trans x8) rfl rfl lB (ed_op (pI (x37.trans x8) rfl rfl) bt (rd_catA cl)) (pB (x37.trans x8) rfl rfl)) fun v9 H9 x9 h9 => fin _ H9 v9 (l3 _ _ lB) (((x02.trans x37).trans x8).trans x9) h9.dp
      · exact ⟨_, rfl, fin R H8 _ (by omega) ((x02.trans x37).trans x8) (dp_mono ((x02.trans x37).trans x8) _ _ hv)⟩
end

end Fy

namespace Fy
open PySem PySem.Spec PyProof.Rows L2
theorem w_rowSpoiled {K : PySem.W.Frag} {σ : L2.St} {H : Hp} {D : Ends} {tz : TS} {i j g : Nat} {v u : V} {n : Nt} {ns : List Int} {tw tc tm : TE} {way c : Int} {m : Nat} (hi : σ[i]? = some (some v)) (hj : σ[j]? = some (some u)) (hv : Dp K H v (eScript ns)) (hu : Dp K H u (eNt n)) (hl : ns.length ≤ 63) (m1 : 1 ≤ n.things.length) (m6 : n.things.length ≤ 6)
    (hw : EvD K tw σ H (.int way)) (hc : EvD K tc σ H (.int c)) (hm : EvD K tm σ H (.int (m : Int))) (mm : m ≤ 6) (k : ∀ (R : List (List Int)) x H', Ex H H' → R.length ≤ 100 → Dp K H' x (.list (R.map eI)) → tz D (σ.set g (some x)) H') :
    tSeq (tAsg (tCall (spSpoiled K) [] E0 (tCons (tCall (spRow K) [] E0 (tCons (tVar i) (tCons (tVar j) tNil))) (tCons tw (tCons tc (tCons tm tNil))))) (gName g)) tz D σ H :=
  ⟨v, hi, u, hj, v, u, ns, n, rfl, hv, hu, hl, m1, m6, fun r H1 x1 ⟨R, hR, hRc, hr⟩ => hw H1 x1 _ fun w2 H2 x2 h2 => hc H2 (x1.trans x2) _ fun w3 H3 x3 h3 => hm H3 ((x1.trans x2).trans x3) _ fun w4 H4 x4 h4 =>
    ⟨R, way, c, m, .cons (dp_mono ((x2.trans x3).trans x4) _ _ hr) (.cons (dp_mono (x3.trans x4) _ _ h2) (.cons (dp_mono x4 _ _ h3) (.cons h4 .nil))), hR, hRc, mm, fun v' H' x ⟨R', h, hd⟩ => k R' v' H' (((((x1.trans x2).trans x3).trans x4)).trans x) h hd⟩⟩
section
variable {P : Program} {w : World} {K : PySem.W.Frag} {mg : Str → Option Value} {base : Heap}
theorem sc_law : FnScope ["script", "night", "many", "made", "row", "handed", "start", "ahead", "crew", "rest"] ["script"] (defScope s_law) := ⟨rfl, rfl, rfl, by decide +kernel, rfl, by decide +kernel, by decide +kernel⟩
theorem ok_law {f : Addr} {fd : FuncData} (T : Tx K mg) (F : FunD K "law" "law" (defArgs s_law) (defBody s_law) (defScope s_law) [] [] f fd) : FnOk P w K mg base CX0 8 f fd ["script"] (spLaw K) := by
  have G__law_alike := ok__law_alike (P := P) (w := w) (base := base) T
  have G__law_takes := ok__law_takes (P := P) (w := w) (base := base) T
  have G_takes := ok_takes (P := P) (w := w) (base := base) T
  have G__law_behind := ok__law_behind (P := P) (w := w) (base := base) T
  have G__law_crews := ok__law_crews (P := P) (w := w) (base := base) T
  have G__law_cell_at := ok__law_cell_at (P := P) (w := w) (base := base) T
  have G__law_spoiled := ok__law_spoiled (P := P) (w := w) (base := base) T
  have G__law_row := ok__law_row (P := P) (w := w) (base := base) T
  have G__law_good := ok__law_good (P := P) (w := w) (base := base) T
  have G__law_night := ok__law_night (P := P) (w := w) (base := base) T
  refine F.ok sc_law (fun vs H Q E h => ?_) (fun cdv A outer s H vs Q E hr h => ⟨_, PSs.nox (pss_cons (ps_set (i := 1) sc_law.nd rfl (.inl rfl) (pe_f G__law_night (hr.mono (by decide)) rfl (pa_cons (pv 0) (pa_cons pe_int pa_nil))))
      (pss_cons (ps_set (i := 2) sc_law.nd rfl (.inl rfl) (pe_callB (r := rLenQ K) call_len_seq (by rfl) T.b_len (by decide +kernel) (pa_cons (pe_ix (r := rIxT K) ix_tup (pv 1) pe_int (fun _ _ => rfl)) pa_nil)))
      (pss_cons (ps_if (pt_not (pt_val (pe_f G__law_good (hr.mono (by decide)) rfl (pa_cons (pe_ix (r := rIxT K) ix_tup (pv 1) pe_int (fun _ _ => rfl)) (pa_cons (pe_tupRg rfl rfl T.b_tuple (prg_1 rfl T.b_range (pv 2))) (pa_cons (pv 2) pa_nil)))))) (pss_one (ps_ret pe_bl)) pss_nil)
      (pss_cons (ps_set (i := 3) sc_law.nd rfl (.inl rfl) (pe_Night (K := K) T (hr.mono (by decide)) rfl (pa_cons (pe_callTy (r := rListQ K) call_list_of (by rfl) T.b_list (by decide +kernel) (pa_cons (pe_ix (r := rIxT K) ix_tup (pv 1) pe_int (fun _ _ => rfl)) pa_nil)) (pa_cons (pe_ix (r := rIxT K) ix_tup (pv 1) pe_int (fun _ _ => rfl)) (pa_cons (pe_callTy (r := rListQ K) call_list_of (by rfl) T.b_list (by decide +kernel) (pa_cons (pe_ix (r := rIxT K) ix_tup (pv 1) pe_int (fun _ _ => rfl)) pa_nil)) pa_nil)))))
      (pss_cons (ps_set (i := 4) sc_law.nd rfl (.inl rfl) (pe_f G__law_spoiled (hr.mono (by decide)) rfl (pa_cons (pe_f G__law_row (hr.mono (by decide)) rfl (pa_cons (pv 0) (pa_cons (pv 1) pa_nil))) (pa_cons (pe_op op_mod (pe_f G__law_cell_at (hr.mono (by decide)) rfl (pa_cons (pv 0) (pa_cons pe_int pa_nil))) pe_int) (pa_cons (pe_f G__law_cell_at (hr.mono (by decide)) rfl (pa_cons (pv 0) (pa_cons pe_int pa_nil))) (pa_cons (pv 2) pa_nil))))))
      (pss_cons (ps_set (i := 5) sc_law.nd rfl (.inl rfl) (pe_callTy (r := rListQ K) call_list_of (by rfl) T.b_list (by decide +kernel) (pa_cons (pv 4) pa_nil)))
      (pss_cons (ps_set (i := 6) sc_law.nd rfl (.inl rfl) (pe_tup (pa_cons (pe_tupRg rfl rfl T.b_tuple (prg_1 rfl T.b_range (pv 2))) (pa_cons pe_int pa_nil))))
      (pss_cons (ps_if (pt_not (pt_val (pe_f G__law_alike (hr.mono (by decide)) rfl (pa_cons (pe_f0 G_takes (hr.mono (by decide)) rfl passL (pa_cons (pv 3) (pa_cons (pv 6) (pa_cons (pv 5) pa_nil)))) (pa_cons (pe_f G__law_takes (hr.mono (by decide)) rfl (pa_cons (pv 1) (pa_cons (pv 6) (pa_cons (pv 4) pa_nil)))) pa_nil))))) (pss_one (ps_ret pe_bl)) pss_nil)
      (pss_cons (ps_if (pt_cmpR (r := rNeD K) (op_neD hr.units) (pv 5) (pv 4) (nomark _)) (pss_one (ps_ret pe_bl)) pss_nil)
      (pss_cons (ps_set (i := 7) sc_law.nd rfl (.inl rfl) (pe_op op_mod (pe_f G__law_cell_at (hr.mono (by decide)) rfl (pa_cons (pv 0) (pa_cons pe_int pa_nil))) (pe_op op_add (pe_callB (r := rLenQ K) call_len_seq (by rfl) T.b_len (by decide +kernel) (pa_cons (pv 4) pa_nil)) pe_int)))
      (pss_cons (ps_for PassesOwn.never rfl (pi_list (pe_slice (r := rSlL K) sl_list (pv 4) po_none (po_some (pv 7)))) (pg_name (i := 8) sc_law.nd rfl (.inl rfl)) (pss_cons (ps_if (pt_cmpR (r := rNotInD K) (op_notInD (units65 hr)) (pv 8) (pe_f G__law_crews (hr.mono (by decide)) rfl (pa_cons (pe_ix (r := rIxT K) ix_tup (pv 1) pe_int (fun _ _ => rfl)) (pa_cons (pe_ix (r := rIxT K) ix_tup (pv 1) pe_int (fun _ _ => rfl)) (pa_cons (pe_ix (r := rIxT K) ix_tup (pv 1) pe_int (fun _ _ => rfl)) (pa_cons (pv 6) pa_nil))))) (by rfl)) (pss_one (ps_ret pe_bl)) pss_nil)
      (pss_one (ps_set (i := 6) sc_law.nd rfl (.inl rfl) (pe_f G__law_behind (hr.mono (by decide)) rfl (pa_cons (pv 6) (pa_cons (pv 8) (pa_cons (pv 2) pa_nil))))))))
      (pss_cons (ps_set (i := 9) sc_law.nd rfl (.inl rfl) (pe_slice (r := rSlL K) sl_list (pv 4) (po_some (pv 7)) po_none))
      (pss_one (ps_ret (pe_f G__law_alike (hr.mono (by decide)) rfl (pa_cons (pe_f0 G_takes (hr.mono (by decide)) rfl passL (pa_cons (pv 3) (pa_cons (pv 6) (pa_cons (pe_callTy (r := rListQ K) call_list_of (by rfl) T.b_list (by decide +kernel) (pa_cons (pv 9) pa_nil)) pa_nil)))) (pa_cons (pe_f G__law_takes (hr.mono (by decide)) rfl (pa_cons (pv 1) (pa_cons (pv 6) (pa_cons (pv 9) pa_nil)))) pa_nil))))))))))))))))), ?_⟩)
  · obtain ⟨a, ns, rfl, _⟩ := h
    rfl
  · obtain ⟨a, ns, rfl, hS, hl, q⟩ := h
    have hv : Dp K H (.ref a) (eScript ns) := dp_lst.mpr ⟨a, _, rfl, hS, dpa_ints.mpr rfl⟩
    have yes : ∀ v H', Dp K H' v (.bool true) → Q v H' := fun v H' h => by cases dp_bl.mp h; exact q H'
    refine' w_asgNt (K := K) ns 5 ⟨by decide, by decide, hl⟩ ?t (fun v1 H1 x1 N1 => ?_)
    case t => walk_at "eds"
    have ok0 : (lawNight ns 5).ok = true := lawNight_ok ns 5 (by decide) (by decide)
    have many : 1 ≤ (lawNight ns 5).things.length ∧ (lawNight ns 5).things.length ≤ 6 := by
      have := lawMany_le (ns := ns) (most := 5) (by decide)
      have e : (lawNight ns 5).things.length = (lawMany ns 5).toNat := lawThings_len _ _ _
      omega
    generalize lawNight ns 5 = n at N1 ok0 many
    have m6 : n.things.length ≤ 6 := many.2
    have m1000 : n.things.length ≤ 1000 := by omega
    have hfew : few n := m1000
    have N1d : Dp K H1 v1 (.tuple [.list (n.things.map eT), .int n.room, .list (n.quarrels.map eQ)]) := N1.dp
    refine' w_asg (K := K) (d := .int ((n.things.map eT).length : Nat)) ?t (fun v2 H2 x2 h2 => ?_)
    case t => walk_at "ed"
    rw [List.length_map] at h2
    cases dp_int.mp h2
    have x02 := x1.trans x2
    refine' w_when K (b := !Fy.good n.quarrels (rng n.things.length) n.things.length) ?tt (fun hb H3 x3 => ?_) (fun hb H3 x3 => ?_)
    case tt => walk_at "et"
    · exact w_ret1 (ed_bl (K := K)) fun v9 H9 x9 h9 => yes _ _ h9
    · have gd0 : n.good (rng n.things.length, 0) = true := by
        have : Fy.good n.quarrels (rng n.things.length) n.things.length = true := by simpa using hb
        exact this
      have sok0 : standOk n.things.length (rng n.things.length, 0) = true := by unfold standOk; rw [climb_of_sub (List.Sublist.refl _)]; rfl
      have x23 := x2.trans x3
      have x03 := x02.trans x3
      refine' w_asgNight (K := K) (n := n) (eds_cons (en_cb (ds := [.list (n.things.map eT)]) ?t1 cn_listL).toD (eds_cons ?t2 (eds_cons (en_cb (ds := [.list (n.quarrels.map eQ)]) ?t3 cn_listL).toD eds_nil))) ok0 (fun v3 H4 x4 N4 => ?_)
      case t1 => walk_at "eds"
      case t2 => walk_at "ed"
      case t3 => walk_at "eds"
      have Nm := N4.na
      have x04 := x03.trans x4
      have x24 := x23.trans x4
      have v04 := dp_mono x04 _ _ hv
      have n04 := dp_mono x24 _ _ N1d
      refine' w_rowSpoiled (K := K) (n := n) (ns := ns) (way := cell ns 27 % 8) (c := cell ns 28) (m := n.things.length) rfl rfl v04 n04 hl many.1 m6 ?t4 ?t5 (ed_var rfl (.int _)) m6 (fun R v5 H5 x5 hR h5 => ?_)
      case t4 => walk_at "ed"
      case t5 => walk_at "ed"
      have x25 := x24.trans x5
      have x05 := x04.trans x5
      refine w_asgN (K := K) (en_cb (ds := [.list (R.map eI)]) (eds_cons (ed_var rfl h5) eds_nil) cn_listL) (fun v6 H6 x6 h6 => ?_)
      have d6 := h6.dp
      refine' w_asg (K := K) (d := .tuple [eI (rng n.things.length), .int 0]) ?t6 (fun v7 H7 x7 h7 => ?_)
      case t6 => walk_at "ed"
      have h7' : Dp K H7 v7 (eS (rng n.things.length, 0)) := h7
      have x27 := (x25.trans x6).trans x7
      have x07 := (x05.trans x6).trans x7
      have n07 : Dp K H7 v1 (eNt n) := dp_mono x27 _ _ N1d
      have N7 := Nm.mono ((x5.trans x6).trans x7)
      have r7 := dp_mono (x6.trans x7) _ _ h5
      have d7 := dp_mono x7 _ _ d6
      refine w_when K (b := !decide (n.tk (rng n.things.length, 0) 0 R = n.lawTk (rng n.things.length, 0) 0 R)) (eb_not (eb_dB (ed_alike (ed_takes rfl N7 (ed_var rfl h7') (ed_var rfl d7) m6 sok0 gd0) (ed_ltakes (ed_var rfl n07) (ed_var rfl h7') (ed_var rfl r7) ⟨m6, sok0⟩)))) (fun hb H8 x8 => ?_) (fun hb H8 x8 => ?_)
      · rw [tk_eq sok0] at hb
        simp at hb
      have d8 := dp_mono x8 _ _ d7
      have r8 := dp_mono x8 _ _ r7
      refine w_when K (b := !PyData.eqv (.list (R.map eI)) (.list (R.map eI))) (eb_d (ed_op (ed_var rfl d8) (ed_var rfl r8) (rd_neD (sh_eIs _) (sh_eIs _)))) (fun hb H9 x9 => ?_) (fun hb H9 x9 => ?_)
      · rw [eqv_lst eqv_eI] at hb
        simp at hb
      have r9 := dp_mono x9 _ _ r8
      have x79 := x8.trans x9
      have x09 := x07.trans x79
      have lpos : 0 < ((R.map eI).length : Int) + 1 := by omega
      refine' w_asg (K := K) (d := .int (cell ns 29 % (((R.map eI).length : Int) + 1))) ?t7 (fun v10 H10 x10 h10 => ?_)
      case t7 => walk_at "ed"
      rw [List.length_map] at h10
      obtain ⟨k, hk⟩ : ∃ k : Nat, cell ns 29 % ((R.length : Int) + 1) = (k : Int) := ⟨(cell ns 29 % ((R.length : Int) + 1)).toNat, by have := Int.emod_nonneg (cell ns 29) (show (R.length : Int) + 1 ≠ 0 by omega); omega⟩
      rw [hk] at h10
      cases dp_int.mp h10
      have x710 := x79.trans x10
      have r10 := dp_mono x10 _ _ r9
      have s10 := dp_mono x710 _ _ h7'
      have n10 : Dp K H10 v1 (.tuple [.list (n.things.map eT), .int n.room, .list (n.quarrels.map eQ)]) := dp_mono x710 _ _ n07
      have N10 := N7.mono x710
      have part := en_slL (K := K) (σ := [some (.ref a), some v1, some (.int (n.things.length : Nat)), some v3, some v5, some v6, some v7, some (.int (k : Int)), none, none]) (H := H10) (te := tVar 4) (to := tNoPart) (th := tPart (tVar 7)) (ed_var rfl r10) eo_none (eo_some (i := (k : Int)) (ed_var rfl (.int _)))
      rw [cutD_to, ← List.map_take] at part
      refine w_forLx (K := K) part.toD (fun i σ H' => ∃ s y z, σ = [some (.ref a), some v1, some (.int (n.things.length : Nat)), some v3, some v5, some v6, some y, some (.int (k : Int)), z, none] ∧ standOk n.things.length s = true ∧ n.good s = true ∧ Dp K H' y (eS s)) (fun H11 x11 => ⟨(rng n.things.length, 0), v7, none, rfl, sok0, gd0, dp_mono x11 _ _ s10⟩) ?_ ?_
      · rintro i d x σ H11 hd x11 hx ⟨s, y, z, rfl, sok, gd, hs⟩
        obtain ⟨c, hc, rfl⟩ := get_map hd
        obtain ⟨sin, sle⟩ := standOk_in sok
        have sl : s.1.length ≤ 1000 ∧ n.things.length ≤ 1000 := ⟨by omega, m1000⟩
        have hx' : Dp K H11 x (eI c) := hx
        have lc : EvN K (tCall (spLCrews K) [] E0 (tCons (tOp (rIxT K) (tVar 1) (tC (.int 0))) (tCons (tOp (rIxT K) (tVar 1) (tC (.int 1))) (tCons (tOp (rIxT K) (tVar 1) (tC (.int 2))) (tCons (tVar 6) tNil))))) [some (.ref a), some v1, some (.int (n.things.length : Nat)), some v3, some v5, some v6, some y, some (.int (k : Int)), some x, none] H11 ((n.lawCrews s).map eI) := by
          have n11 := dp_mono x11 _ _ n10
          refine' en_lcrews n ?t1 ?t2 ?t3 (ed_var rfl hs) ⟨m6, sl.1⟩
          case t1 => walk_at "ed"
          case t2 => walk_at "ed"
          case t3 => walk_at "ed"
        show tSeq _ _ _ _ _
        refine' w_when K (b := !decide (c ∈ n.lawCrews s)) (eb_d (ed_op (ed_var rfl hx') lc.toD (any_eI c _ ▸ rd_niDL (sh_eI _) (sh_eIs _)))) (fun hb H12 x12 => ?_) (fun hb H12 x12 => ?_)
        · exact w_ret1 (ed_bl (K := K)) fun v9 H9 x9 h9 => yes _ _ h9
        · have hm : c ∈ n.lawCrews s := by simpa using hb
          have hs12 := dp_mono x12 _ _ hs
          have hx12 := dp_mono x12 _ _ hx'
          refine' w_asg1 (K := K) (d := eS (behind s c n.things.length)) ?t8 (fun v13 H13 x13 h13 => ?_)
          case t8 => walk_at "ed"
          refine ⟨x12.trans x13, behind s c n.things.length, v13, _, rfl, standOk_behind sok, ?_, h13⟩
          rw [← crews_eq sok] at hm
          rw [← led_of_mem sok hm]
          exact led_good hm
      · rintro σ H11 x11 ⟨s, y, z, rfl, sok, gd, hs⟩
        have r11 := dp_mono x11 _ _ r10
        have rst := en_slL (K := K) (σ := [some (.ref a), some v1, some (.int (n.things.length : Nat)), some v3, some v5, some v6, some y, some (.int (k : Int)), z, none]) (H := H11) (te := tVar 4) (to := tPart (tVar 7)) (th := tNoPart) (ed_var rfl r11) (eo_some (i := (k : Int)) (ed_var rfl (.int _))) eo_none
        rw [cutD_from, ← List.map_drop] at rst
        refine w_asgN (K := K) rst (fun v12 H12 x12 h12 => ?_)
        have d12 := h12.dp
        have s12 := dp_mono x12 _ _ hs
        have n12 : Dp K H12 v1 (eNt n) := dp_mono (x11.trans x12) _ _ n10
        have N12 := N10.mono (x11.trans x12)
        refine w_ret1 (K := K) (ed_alike (ed_takes rfl N12 (ed_var rfl s12) (en_cb (ds := [.list ((R.drop k).map eI)]) (eds_cons (ed_var rfl d12) eds_nil) cn_listL).toD m6 sok gd) (ed_ltakes (ed_var rfl n12) (ed_var rfl s12) (ed_var rfl d12) ⟨m6, sok⟩)) fun v13 H13 x13 h13 => yes v13 H13 ?_
        rw [tk_eq sok, decide_eq_true rfl] at h13
        exact h13
end

end Fy

namespace Fy
open PySem PySem.Spec PyProof.Rows L2
theorem run (w : World) : HandSHeadRun.RunEq R qv hk ob 4000 nms w := by
  intro os
  kernel_rfl
end Fy

open PySem PySem.W PySem.Calls PyProof.Rows
set_option maxRecDepth 100000 in
set_option maxHeartbeats 0 in
theorem PySem.Challenge.cw_ferrynight_k04_how_long_a_plan_takes_holds : PySem.Challenge.rw_ferrynight_k04_how_long_a_plan_takes.Holds := by
  w_on; o_law
  refine HandSHeadRun.head_any (r := OpenLaw.row PySem.Challenge.rw_ferrynight_k04_how_long_a_plan_takes) (q := view (OpenLaw.row PySem.Challenge.rw_ferrynight_k04_how_long_a_plan_takes).prog [48]) (H := Fy.hk) (ob := Fy.ob) (M := 4000) (loose := Fy.nms) (d := HandSHeadRun.topDef (OpenLaw.row PySem.Challenge.rw_ferrynight_k04_how_long_a_plan_takes).prog 48) (kwd := []) Fy.ob_eq
    (by kernel_rfl) (fun s => by kernel_rfl) Fy.run (by kernel_rfl) (by kernel_rfl) (by kernel_rfl) (by rfl) (by first | assumption | decide +kernel) (by decide +kernel) ⟨rfl, rfl, rfl, rfl, rfl, by decide +kernel⟩ ?hw ?hc
  case hw => w_witness2
  case hc =>
    refine L2.walk_ofE (l := PySem.Challenge.rw_ferrynight_k04_how_long_a_plan_takes) (n := 63) (k := 8) (x := "script") (CX := L2.CX0) rfl (by decide) (by kernel_rfl) ⟨rfl, by decide, by decide⟩ ?F (fun _ _ _ _ z => z)
    intro w mg fa h Y G hmg0
    obtain ⟨K, KX, c⟩ := Y
    have hmg : mg ("law" : PySem.Str) = some (.ref fa) := by
      have e : (HandSHeadRun.topDef (OpenLaw.row PySem.Challenge.rw_ferrynight_k04_how_long_a_plan_takes).prog 48).name = ("law" : PySem.Str) := by kernel_rfl
      rw [← e]
      exact hmg0
    have T := Fy.tx_of KX G c
    have e := hmg.symm.trans T.g_law
    cases e
    obtain ⟨fd, F⟩ := T.f_law
    have b := L2.FunD.bindsA (ps := ["script"]) F fun _ _ _ _ _ _ us hl => match us, hl with | [_], _ => rfl
    exact ⟨K, fd, Fy.spLaw K, KX, fun s v => b s [v] rfl, fun H a ns hl hO hS => ⟨a, ns, rfl, hS, hl, fun _ => rfl⟩, fun base _ _ => Fy.ok_law T F⟩
#print axioms PySem.Challenge.cw_ferrynight_k04_how_long_a_plan_takes_holds

