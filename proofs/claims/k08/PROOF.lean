import PyProof.Rows.All
import Wide.All
import OpenK.AllK
import Wide.FinOn
import PyProof.EqAt
import PyProof.EqKinds
import PyProof.TupleCall
import KE.KStateDown
import Lean
import HandS.Base
import HandS.Call
import HandS.List
import HandS.Comp
import HandS.Ends
import HandS.Dict
import HandS.Iter
import HandS.Text
import HandS.More
import HandS.Exc
import HandS.TryOnly
import HandS.TryMany
import HandS.ExcOwn
import HandS.ExcIs
import HandS.IsInst
import HandS.Conv
import HandS.Words
import HandS.WordsList
import HandS.WordsExc
import HandS.Evl
import HandS.Steps
import HandS.Defaults
import HandS.CallSlots
import HandS.Codes
import HandS.Deep
import HandS.DeepEq
import HandS.Flow
import HandS.Head0
import HandS.Head1
import HandS.Head2
import HandS.HeadEnd
import HandS.HeadHook1
import HandS.HeadHook2
import HandS.Hot
import HandS.HotCalls
import HandS.NoneIn
import HandS.RevTup
import HandS.Rev
import HandS.Sort
import HandS.SortInts
import HandS.SortKw
import HandS.SuiteRaise
import HandS.TupAny
import HandS.TupLe
import HandS.TupMul
import HandS.Wide
import HandS.Zip
import HandS.Style
import HandS.TupSets
import HandS.StrMore
import HandS.StrSplit
import HandS.Small
import HandS.RaiseMore
import KE.SortData
import KE.SortKeyHeap
import KE.KDictKeyed
import KE.KDictLaw
import KE.KDictWalk
import KE.KDictDisplayH
import KE.GoesDict
import PySem.Challenge.RW_ferrynight_k08_nights_written
set_option Elab.async false
set_option linter.all false
set_option maxRecDepth 100000
set_option maxHeartbeats 4000000

namespace Fy
open PySem PySem.Spec PyProof.Rows L2
/-! ### the head: facts by names, a Bool of one's own beside them -/
section HeadX
open PySem PySem.Spec PyProof.Rows L2
/-- what isinstance asks of an exception's class -/
def exB (K : PySem.W.Frag) (x : Str) : Bool := He.eqO (PySem.W.findIn K (.ref (He.ga K x)) "__getattribute__") (some (some (.builtin "BaseException.__getattribute__"))) && (He.eqO (PySem.W.findIn K (.ref (He.ga K x)) "__getattr__") (some none) && (decide (PySem.W.subIn K (.ref (He.ga K x)) (.type "BaseException") = some true) &&
  (PySem.W.hasDictIn K (He.ga K x) && (He.eqO (PySem.W.findIn K (.ref (He.ga K x)) "__class__") (some (some (.builtin "object.__class__"))) && (He.eqO (PySem.W.specialIn K (.builtin "object.__class__") "__get__") (some (some (.builtin "getset_descriptor.__get__"))) &&
  (decide (PySem.W.takesIn K (.builtin "object.__class__") = some true) && decide (PySem.W.mroIn K (He.ga K x) (.type "object") = some true)))))))
theorem exC_of {K : PySem.W.Frag} {x : Str} (h : exB K x = true) : ExcC K (He.ga K x) := by
  obtain ⟨h1, h⟩ := He.ba h
  obtain ⟨h2, h⟩ := He.ba h
  obtain ⟨h3, h⟩ := He.ba h
  obtain ⟨h4, h⟩ := He.ba h
  obtain ⟨h5, h⟩ := He.ba h
  obtain ⟨h6, h⟩ := He.ba h
  obtain ⟨h7, h8⟩ := He.ba h
  exact ⟨He.eqO_ok h1, He.eqO_ok h2, of_decide_eq_true h3, h4, He.eqO_ok h5, He.eqO_ok h6, of_decide_eq_true h7, of_decide_eq_true h8⟩
/-- an own exception's class, for raise -/
structure ExOk (K : PySem.W.Frag) (C : Addr) : Prop where
  ex : PySem.W.excIn K C He.veBase "ValueError.__new__" = true
  kp : PySem.W.keepIn K (.ref C) = true
  sub : PySem.W.subIn K (.ref C) (.type "BaseException") = some true
  ty : PySem.W.typeIn K (.ref C) = some (.type "type")
theorem exOk_of {K : PySem.W.Frag} {x : Str} (h : (He.Fa.exc x).ok K = true) : ExOk K (He.ga K x) := by
  obtain ⟨a, b, c, d⟩ := He.exc_ok h
  exact ⟨a, b, c, d⟩
abbrev AlX : Type := He.AlD × Bool
def obsX (fa : List He.Fa) (fn : List He.DefD) (xb : PySem.W.Frag → Bool) (K : PySem.W.Frag) : AlX := (He.obsD fa fn K, xb K)
def valX (fn : List He.DefD) : AlX := (He.valD fn, true)
def SaysX (fa : List He.Fa) (fn : List He.DefD) (xb : PySem.W.Frag → Bool) (K : PySem.W.Frag) : Prop := obsX fa fn xb K = valX fn
theorem SaysX.d {fa : List He.Fa} {fn : List He.DefD} {xb : PySem.W.Frag → Bool} {K : PySem.W.Frag} (c : SaysX fa fn xb K) : He.SaysD fa fn K := congrArg (fun z : AlX => z.1) c
theorem SaysX.x {fa : List He.Fa} {fn : List He.DefD} {xb : PySem.W.Frag → Bool} {K : PySem.W.Frag} (c : SaysX fa fn xb K) : xb K = true := congrArg (fun z : AlX => z.2) c
def obsXG (n : Nat) (fa : List He.Fa) (fn : List He.DefD) (xb : PySem.W.Frag → Bool) (g : Addr → Option Obj) : AlX := obsX fa fn xb (He.frG g (He.asD g n))
def hookX (n : Nat) (fa : List He.Fa) (fn : List He.DefD) (xb : PySem.W.Frag → Bool) : PySem.W.Hook where
  α := AlX
  obs := fun s => obsXG n fa fn xb s.heap.get?
  val := fun _ => valX fn
  says := fun _ h => ∃ K : PySem.W.Frag, K.In h ∧ SaysX fa fn xb K
  of := fun _ _ e => ⟨_, He.frG_in, e⟩
  keeps := fun _ _ _ ⟨K, hK, c⟩ k => ⟨K, PySem.W.Frag.In.keeps hK k, c⟩
theorem obsXG_eq {n : Nat} {fa : List He.Fa} {fn : List He.DefD} {xb : PySem.W.Frag → Bool} {g : Addr → Option Obj} {s : Shared} (h : ∀ a, g a = s.heap.get? a) : obsXG n fa fn xb g = (hookX n fa fn xb).obs s := by
  have e : g = s.heap.get? := funext h
  rw [e] <;> rfl
/-- which classes stand under which -/
def isx (x y : Str) : Bool := decide (x = y) || decide (y = ("FerryError" : Str))
end HeadX

end Fy

namespace Fy
open PySem PySem.Spec PyProof.Rows L2
abbrev R : PySem.W.OpenRow := PySem.W.OpenLaw.row PySem.Challenge.rw_ferrynight_k08_nights_written
def top (i : Nat) : Stmt := PySem.Challenge.pw_ferrynight_k08_nights_written.main.body.getD i (.Pass ⟨0, 0, 0, 0⟩)
abbrev s_look_at_things : Stmt := top 13
abbrev s_look_at_quarrel : Stmt := top 14
abbrev s_shown : Stmt := top 18
abbrev s_number_of : Stmt := top 19
abbrev s_thing_of : Stmt := top 20
abbrev s_quarrel_of : Stmt := top 21
abbrev s_read : Stmt := top 22
abbrev s_look_at : Stmt := top 24
abbrev s_peaceful : Stmt := top 25
abbrev s_good : Stmt := top 26
abbrev s_look_at_start : Stmt := top 27
abbrev s_beside_boat : Stmt := top 28
abbrev s_led_over : Stmt := top 29
abbrev s_groups_of : Stmt := top 30
abbrev s_can_row : Stmt := top 31
abbrev s_crews : Stmt := top 32
abbrev s_minutes : Stmt := top 33
abbrev s_standings : Stmt := top 35
abbrev s_table : Stmt := top 36
abbrev s_all_heights : Stmt := top 37
abbrev s_heights : Stmt := top 38
abbrev s_come_to : Stmt := top 39
abbrev s_shortest : Stmt := top 40
abbrev s__law_cell_at : Stmt := top 42
abbrev s__law_quarrel : Stmt := top 43
abbrev s__law_quarrels : Stmt := top 44
abbrev s__law_things : Stmt := top 45
abbrev s__law_night : Stmt := top 46
abbrev s__law_peace : Stmt := top 47
abbrev s__law_bits : Stmt := top 48
abbrev s__law_groups : Stmt := top 49
abbrev s__law_rest : Stmt := top 50
abbrev s__law_good : Stmt := top 51
abbrev s__law_lines : Stmt := top 52
abbrev s_law : Stmt := top 53
abbrev s_Night___init__ : Stmt := inClass (top 15) 0
abbrev s_Night_things : Stmt := inClass (top 15) 1
abbrev s_Night_room : Stmt := inClass (top 15) 2
abbrev s_Night_quarrels : Stmt := inClass (top 15) 3
abbrev s_Night_begins : Stmt := inClass (top 15) 4
abbrev s_Night_ends : Stmt := inClass (top 15) 5
abbrev s_Night_peace : Stmt := inClass (top 15) 6
abbrev s_Night_over_there : Stmt := inClass (top 15) 7
def fa : List He.Fa := [
  .glo "look_at_things",
  .glo "look_at_quarrel",
  .glo "shown",
  .glo "number_of",
  .glo "thing_of",
  .glo "quarrel_of",
  .glo "read",
  .glo "look_at",
  .glo "peaceful",
  .glo "good",
  .glo "look_at_start",
  .glo "beside_boat",
  .glo "led_over",
  .glo "groups_of",
  .glo "can_row",
  .glo "crews",
  .glo "minutes",
  .glo "standings",
  .glo "table",
  .glo "all_heights",
  .glo "heights",
  .glo "come_to",
  .glo "shortest",
  .glo "_law_cell_at",
  .glo "_law_quarrel",
  .glo "_law_quarrels",
  .glo "_law_things",
  .glo "_law_night",
  .glo "_law_peace",
  .glo "_law_bits",
  .glo "_law_groups",
  .glo "_law_rest",
  .glo "_law_good",
  .glo "_law_lines",
  .glo "law",
  .glo "Night",
  .cls "Night",
  .mkr "Night",
  .noat "Night" "all_things",
  .noat "Night" "places",
  .noat "Night" "all_quarrels",
  .meth "Night" "things",
  .meth "Night" "room",
  .meth "Night" "quarrels",
  .meth "Night" "begins",
  .meth "Night" "ends",
  .meth "Night" "peace",
  .meth "Night" "over_there",
  .glo "FerryError",
  .exc "FerryError",
  .glo "BadThing",
  .exc "BadThing",
  .glo "BadRoom",
  .exc "BadRoom",
  .glo "BadQuarrel",
  .exc "BadQuarrel",
  .glo "NoStanding",
  .exc "NoStanding",
  .glo "BadStart",
  .exc "BadStart",
  .glo "BadNote",
  .exc "BadNote",
  .free "len",
  .free "range",
  .free "list",
  .free "tuple",
  .free "sorted",
  .free "max",
  .free "isinstance",
  .free "ValueError",
  .free "int",
  .free "str",
  .int "MOST_THINGS" 6,
  .int "MOST_ROOM" 3,
  .int "MOST_QUARRELS" 30,
  .int "SLOWEST" 1000000000,
  .str "FIGURES" "0123456789"
]
def fn : List He.DefD := [
  ⟨("look_at_things", none), "look_at_things", "look_at_things", defArgs s_look_at_things, defBody s_look_at_things, defScope s_look_at_things, [], []⟩,
  ⟨("look_at_quarrel", none), "look_at_quarrel", "look_at_quarrel", defArgs s_look_at_quarrel, defBody s_look_at_quarrel, defScope s_look_at_quarrel, [], []⟩,
  ⟨("shown", none), "shown", "shown", defArgs s_shown, defBody s_shown, defScope s_shown, [], []⟩,
  ⟨("number_of", none), "number_of", "number_of", defArgs s_number_of, defBody s_number_of, defScope s_number_of, [], []⟩,
  ⟨("thing_of", none), "thing_of", "thing_of", defArgs s_thing_of, defBody s_thing_of, defScope s_thing_of, [], []⟩,
  ⟨("quarrel_of", none), "quarrel_of", "quarrel_of", defArgs s_quarrel_of, defBody s_quarrel_of, defScope s_quarrel_of, [], []⟩,
  ⟨("read", none), "read", "read", defArgs s_read, defBody s_read, defScope s_read, [], []⟩,
  ⟨("look_at", none), "look_at", "look_at", defArgs s_look_at, defBody s_look_at, defScope s_look_at, [], []⟩,
  ⟨("peaceful", none), "peaceful", "peaceful", defArgs s_peaceful, defBody s_peaceful, defScope s_peaceful, [], []⟩,
  ⟨("good", none), "good", "good", defArgs s_good, defBody s_good, defScope s_good, [], []⟩,
  ⟨("look_at_start", none), "look_at_start", "look_at_start", defArgs s_look_at_start, defBody s_look_at_start, defScope s_look_at_start, [], []⟩,
  ⟨("beside_boat", none), "beside_boat", "beside_boat", defArgs s_beside_boat, defBody s_beside_boat, defScope s_beside_boat, [], []⟩,
  ⟨("led_over", none), "led_over", "led_over", defArgs s_led_over, defBody s_led_over, defScope s_led_over, [], []⟩,
  ⟨("groups_of", none), "groups_of", "groups_of", defArgs s_groups_of, defBody s_groups_of, defScope s_groups_of, [], []⟩,
  ⟨("can_row", none), "can_row", "can_row", defArgs s_can_row, defBody s_can_row, defScope s_can_row, [], []⟩,
  ⟨("crews", none), "crews", "crews", defArgs s_crews, defBody s_crews, defScope s_crews, [], []⟩,
  ⟨("minutes", none), "minutes", "minutes", defArgs s_minutes, defBody s_minutes, defScope s_minutes, [], []⟩,
  ⟨("standings", none), "standings", "standings", defArgs s_standings, defBody s_standings, defScope s_standings, [], []⟩,
  ⟨("table", none), "table", "table", defArgs s_table, defBody s_table, defScope s_table, [], []⟩,
  ⟨("all_heights", none), "all_heights", "all_heights", defArgs s_all_heights, defBody s_all_heights, defScope s_all_heights, [], []⟩,
  ⟨("heights", none), "heights", "heights", defArgs s_heights, defBody s_heights, defScope s_heights, [], []⟩,
  ⟨("come_to", none), "come_to", "come_to", defArgs s_come_to, defBody s_come_to, defScope s_come_to, [], []⟩,
  ⟨("shortest", none), "shortest", "shortest", defArgs s_shortest, defBody s_shortest, defScope s_shortest, [], []⟩,
  ⟨("_law_cell_at", none), "_law_cell_at", "_law_cell_at", defArgs s__law_cell_at, defBody s__law_cell_at, defScope s__law_cell_at, [], []⟩,
  ⟨("_law_quarrel", none), "_law_quarrel", "_law_quarrel", defArgs s__law_quarrel, defBody s__law_quarrel, defScope s__law_quarrel, [], []⟩,
  ⟨("_law_quarrels", none), "_law_quarrels", "_law_quarrels", defArgs s__law_quarrels, defBody s__law_quarrels, defScope s__law_quarrels, [], []⟩,
  ⟨("_law_things", none), "_law_things", "_law_things", defArgs s__law_things, defBody s__law_things, defScope s__law_things, [], []⟩,
  ⟨("_law_night", none), "_law_night", "_law_night", defArgs s__law_night, defBody s__law_night, defScope s__law_night, [], []⟩,
  ⟨("_law_peace", none), "_law_peace", "_law_peace", defArgs s__law_peace, defBody s__law_peace, defScope s__law_peace, [], []⟩,
  ⟨("_law_bits", none), "_law_bits", "_law_bits", defArgs s__law_bits, defBody s__law_bits, defScope s__law_bits, [], []⟩,
  ⟨("_law_groups", none), "_law_groups", "_law_groups", defArgs s__law_groups, defBody s__law_groups, defScope s__law_groups, [], []⟩,
  ⟨("_law_rest", none), "_law_rest", "_law_rest", defArgs s__law_rest, defBody s__law_rest, defScope s__law_rest, [], []⟩,
  ⟨("_law_good", none), "_law_good", "_law_good", defArgs s__law_good, defBody s__law_good, defScope s__law_good, [], []⟩,
  ⟨("_law_lines", none), "_law_lines", "_law_lines", defArgs s__law_lines, defBody s__law_lines, defScope s__law_lines, [], []⟩,
  ⟨("law", none), "law", "law", defArgs s_law, defBody s_law, defScope s_law, [], []⟩,
  ⟨("Night", some "__init__"), "__init__", "Night.__init__", defArgs s_Night___init__, defBody s_Night___init__, defScope s_Night___init__, [], []⟩,
  ⟨("Night", some "things"), "things", "Night.things", defArgs s_Night_things, defBody s_Night_things, defScope s_Night_things, [], []⟩,
  ⟨("Night", some "room"), "room", "Night.room", defArgs s_Night_room, defBody s_Night_room, defScope s_Night_room, [], []⟩,
  ⟨("Night", some "quarrels"), "quarrels", "Night.quarrels", defArgs s_Night_quarrels, defBody s_Night_quarrels, defScope s_Night_quarrels, [], []⟩,
  ⟨("Night", some "begins"), "begins", "Night.begins", defArgs s_Night_begins, defBody s_Night_begins, defScope s_Night_begins, [], []⟩,
  ⟨("Night", some "ends"), "ends", "Night.ends", defArgs s_Night_ends, defBody s_Night_ends, defScope s_Night_ends, [], []⟩,
  ⟨("Night", some "peace"), "peace", "Night.peace", defArgs s_Night_peace, defBody s_Night_peace, defScope s_Night_peace, [], []⟩,
  ⟨("Night", some "over_there"), "over_there", "Night.over_there", defArgs s_Night_over_there, defBody s_Night_over_there, defScope s_Night_over_there, [], []⟩
]
def exs : List Str := ["FerryError", "BadThing", "BadRoom", "BadQuarrel", "NoStanding", "BadStart", "BadNote"]
def iB (K : PySem.W.Frag) : Bool := decide (PySem.W.findIn K (.ref (He.ga K "Night")) "__class__" = some (some (.builtin "object.__class__"))) && (decide (PySem.W.specialIn K (.builtin "object.__class__") "__get__" = some (some (.builtin "getset_descriptor.__get__"))) && (decide (PySem.W.takesIn K (.builtin "object.__class__") = some true) && decide (PySem.W.mroIn K (He.ga K "Night") (.type "object") = some true)))
def xb (K : PySem.W.Frag) : Bool := iB K && (exs.all (fun x => exB K x) && (exs.all (fun x => exs.all fun y => decide (PySem.W.kitOne K (.ref (He.ga K x)) (.ref (He.ga K y)) = some (isx x y))) && (exs.all (fun x => decide (PySem.W.kitOne K (.ref (He.ga K x)) (.type "ValueError") = some true)) && exs.all (fun x => exs.all fun y => decide (PySem.W.exmOne K (.ref (He.ga K x)) (.ref (He.ga K y)) = some (isx x y))))))
abbrev hk : PySem.W.Hook := hookX 5 fa fn xb
def ob (s : PySem.W.SharedT) : hk.α := obsXG 5 fa fn xb (HandSHeadRun.getT s)
theorem ob_eq (s : PySem.W.SharedT) : ob s = hk.obs s.abs := obsXG_eq (HandSHeadRun.getT_eq s)
def nms0 : List PySem.Str := ["FerryError", "BadThing", "BadRoom", "BadQuarrel", "NoStanding", "BadStart", "BadNote", "MOST_THINGS", "MOST_ROOM", "MOST_QUARRELS", "SLOWEST", "look_at_things", "look_at_quarrel", "Night", "FIGURES", "shown", "number_of", "thing_of", "quarrel_of", "read", "look_at", "peaceful", "good", "look_at_start", "beside_boat", "led_over", "groups_of", "can_row", "crews", "minutes"]
def nms1 : List PySem.Str := ["standings", "table", "all_heights", "heights", "come_to", "shortest", "_law_cell_at", "_law_quarrel", "_law_quarrels", "_law_things", "_law_night", "_law_peace", "_law_bits", "_law_groups", "_law_rest", "_law_good", "_law_lines"]
def nms : List PySem.Str := nms0 ++ nms1
abbrev qv : Program := PySem.W.view R.prog [53]
structure Tx (K : PySem.W.Frag) (mg : Str → Option Value) : Prop where
  g_look_at_things : mg "look_at_things" = some (.ref (He.ga K "look_at_things"))
  g_look_at_quarrel : mg "look_at_quarrel" = some (.ref (He.ga K "look_at_quarrel"))
  g_shown : mg "shown" = some (.ref (He.ga K "shown"))
  g_number_of : mg "number_of" = some (.ref (He.ga K "number_of"))
  g_thing_of : mg "thing_of" = some (.ref (He.ga K "thing_of"))
  g_quarrel_of : mg "quarrel_of" = some (.ref (He.ga K "quarrel_of"))
  g_read : mg "read" = some (.ref (He.ga K "read"))
  g_look_at : mg "look_at" = some (.ref (He.ga K "look_at"))
  g_peaceful : mg "peaceful" = some (.ref (He.ga K "peaceful"))
  g_good : mg "good" = some (.ref (He.ga K "good"))
  g_look_at_start : mg "look_at_start" = some (.ref (He.ga K "look_at_start"))
  g_beside_boat : mg "beside_boat" = some (.ref (He.ga K "beside_boat"))
  g_led_over : mg "led_over" = some (.ref (He.ga K "led_over"))
  g_groups_of : mg "groups_of" = some (.ref (He.ga K "groups_of"))
  g_can_row : mg "can_row" = some (.ref (He.ga K "can_row"))
  g_crews : mg "crews" = some (.ref (He.ga K "crews"))
  g_minutes : mg "minutes" = some (.ref (He.ga K "minutes"))
  g_standings : mg "standings" = some (.ref (He.ga K "standings"))
  g_table : mg "table" = some (.ref (He.ga K "table"))
  g_all_heights : mg "all_heights" = some (.ref (He.ga K "all_heights"))
  g_heights : mg "heights" = some (.ref (He.ga K "heights"))
  g_come_to : mg "come_to" = some (.ref (He.ga K "come_to"))
  g_shortest : mg "shortest" = some (.ref (He.ga K "shortest"))
  g__law_cell_at : mg "_law_cell_at" = some (.ref (He.ga K "_law_cell_at"))
  g__law_quarrel : mg "_law_quarrel" = some (.ref (He.ga K "_law_quarrel"))
  g__law_quarrels : mg "_law_quarrels" = some (.ref (He.ga K "_law_quarrels"))
  g__law_things : mg "_law_things" = some (.ref (He.ga K "_law_things"))
  g__law_night : mg "_law_night" = some (.ref (He.ga K "_law_night"))
  g__law_peace : mg "_law_peace" = some (.ref (He.ga K "_law_peace"))
  g__law_bits : mg "_law_bits" = some (.ref (He.ga K "_law_bits"))
  g__law_groups : mg "_law_groups" = some (.ref (He.ga K "_law_groups"))
  g__law_rest : mg "_law_rest" = some (.ref (He.ga K "_law_rest"))
  g__law_good : mg "_law_good" = some (.ref (He.ga K "_law_good"))
  g__law_lines : mg "_law_lines" = some (.ref (He.ga K "_law_lines"))
  g_law : mg "law" = some (.ref (He.ga K "law"))
  g_Night : mg "Night" = some (.ref (He.ga K "Night"))
  cl : Cls K (He.ga K "Night")
  isi : PySem.W.findIn K (.ref (He.ga K "Night")) "__class__" = some (some (.builtin "object.__class__")) ∧ PySem.W.specialIn K (.builtin "object.__class__") "__get__" = some (some (.builtin "getset_descriptor.__get__")) ∧ PySem.W.takesIn K (.builtin "object.__class__") = some true ∧ PySem.W.mroIn K (He.ga K "Night") (.type "object") = some true
  mkr : Mk K (He.ga K "Night") (He.ma K (He.ga K "Night") "__init__")
  na_all_things : NoAttr K (He.ga K "Night") "all_things"
  na_places : NoAttr K (He.ga K "Night") "places"
  na_all_quarrels : NoAttr K (He.ga K "Night") "all_quarrels"
  m_things : Meth K (He.ga K "Night") "things" (He.ma K (He.ga K "Night") "things")
  m_room : Meth K (He.ga K "Night") "room" (He.ma K (He.ga K "Night") "room")
  m_quarrels : Meth K (He.ga K "Night") "quarrels" (He.ma K (He.ga K "Night") "quarrels")
  m_begins : Meth K (He.ga K "Night") "begins" (He.ma K (He.ga K "Night") "begins")
  m_ends : Meth K (He.ga K "Night") "ends" (He.ma K (He.ga K "Night") "ends")
  m_peace : Meth K (He.ga K "Night") "peace" (He.ma K (He.ga K "Night") "peace")
  m_over_there : Meth K (He.ga K "Night") "over_there" (He.ma K (He.ga K "Night") "over_there")
  g_FerryError : mg "FerryError" = some (.ref (He.ga K "FerryError"))
  x_FerryError : ExOk K (He.ga K "FerryError")
  g_BadThing : mg "BadThing" = some (.ref (He.ga K "BadThing"))
  x_BadThing : ExOk K (He.ga K "BadThing")
  g_BadRoom : mg "BadRoom" = some (.ref (He.ga K "BadRoom"))
  x_BadRoom : ExOk K (He.ga K "BadRoom")
  g_BadQuarrel : mg "BadQuarrel" = some (.ref (He.ga K "BadQuarrel"))
  x_BadQuarrel : ExOk K (He.ga K "BadQuarrel")
  g_NoStanding : mg "NoStanding" = some (.ref (He.ga K "NoStanding"))
  x_NoStanding : ExOk K (He.ga K "NoStanding")
  g_BadStart : mg "BadStart" = some (.ref (He.ga K "BadStart"))
  x_BadStart : ExOk K (He.ga K "BadStart")
  g_BadNote : mg "BadNote" = some (.ref (He.ga K "BadNote"))
  x_BadNote : ExOk K (He.ga K "BadNote")
  exm : ∀ x ∈ exs, ∀ y ∈ exs, PySem.W.exmOne K (.ref (He.ga K x)) (.ref (He.ga K y)) = some (isx x y)
  kit : ∀ x ∈ exs, ∀ y ∈ exs, PySem.W.kitOne K (.ref (He.ga K x)) (.ref (He.ga K y)) = some (isx x y)
  kitV : ∀ x ∈ exs, PySem.W.kitOne K (.ref (He.ga K x)) (.type "ValueError") = some true
  exc : ∀ x ∈ exs, ExcC K (He.ga K x)
  b_len : mg "len" = none
  b_range : mg "range" = none
  b_list : mg "list" = none
  b_tuple : mg "tuple" = none
  b_sorted : mg "sorted" = none
  b_max : mg "max" = none
  b_isinstance : mg "isinstance" = none
  b_ValueError : mg "ValueError" = none
  b_int : mg "int" = none
  b_str : mg "str" = none
  i_MOST_THINGS : ∃ t, mg "MOST_THINGS" = some (.int 6 t)
  i_MOST_ROOM : ∃ t, mg "MOST_ROOM" = some (.int 3 t)
  i_MOST_QUARRELS : ∃ t, mg "MOST_QUARRELS" = some (.int 30 t)
  i_SLOWEST : ∃ t, mg "SLOWEST" = some (.int 1000000000 t)
  t_FIGURES : ∃ t, mg "FIGURES" = some (.str "0123456789" t)
  f_look_at_things : ∃ fd, FunD K "look_at_things" "look_at_things" (defArgs s_look_at_things) (defBody s_look_at_things) (defScope s_look_at_things) [] [] (He.ga K "look_at_things") fd
  f_look_at_quarrel : ∃ fd, FunD K "look_at_quarrel" "look_at_quarrel" (defArgs s_look_at_quarrel) (defBody s_look_at_quarrel) (defScope s_look_at_quarrel) [] [] (He.ga K "look_at_quarrel") fd
  f_shown : ∃ fd, FunD K "shown" "shown" (defArgs s_shown) (defBody s_shown) (defScope s_shown) [] [] (He.ga K "shown") fd
  f_number_of : ∃ fd, FunD K "number_of" "number_of" (defArgs s_number_of) (defBody s_number_of) (defScope s_number_of) [] [] (He.ga K "number_of") fd
  f_thing_of : ∃ fd, FunD K "thing_of" "thing_of" (defArgs s_thing_of) (defBody s_thing_of) (defScope s_thing_of) [] [] (He.ga K "thing_of") fd
  f_quarrel_of : ∃ fd, FunD K "quarrel_of" "quarrel_of" (defArgs s_quarrel_of) (defBody s_quarrel_of) (defScope s_quarrel_of) [] [] (He.ga K "quarrel_of") fd
  f_read : ∃ fd, FunD K "read" "read" (defArgs s_read) (defBody s_read) (defScope s_read) [] [] (He.ga K "read") fd
  f_look_at : ∃ fd, FunD K "look_at" "look_at" (defArgs s_look_at) (defBody s_look_at) (defScope s_look_at) [] [] (He.ga K "look_at") fd
  f_peaceful : ∃ fd, FunD K "peaceful" "peaceful" (defArgs s_peaceful) (defBody s_peaceful) (defScope s_peaceful) [] [] (He.ga K "peaceful") fd
  f_good : ∃ fd, FunD K "good" "good" (defArgs s_good) (defBody s_good) (defScope s_good) [] [] (He.ga K "good") fd
  f_look_at_start : ∃ fd, FunD K "look_at_start" "look_at_start" (defArgs s_look_at_start) (defBody s_look_at_start) (defScope s_look_at_start) [] [] (He.ga K "look_at_start") fd
  f_beside_boat : ∃ fd, FunD K "beside_boat" "beside_boat" (defArgs s_beside_boat) (defBody s_beside_boat) (defScope s_beside_boat) [] [] (He.ga K "beside_boat") fd
  f_led_over : ∃ fd, FunD K "led_over" "led_over" (defArgs s_led_over) (defBody s_led_over) (defScope s_led_over) [] [] (He.ga K "led_over") fd
  f_groups_of : ∃ fd, FunD K "groups_of" "groups_of" (defArgs s_groups_of) (defBody s_groups_of) (defScope s_groups_of) [] [] (He.ga K "groups_of") fd
  f_can_row : ∃ fd, FunD K "can_row" "can_row" (defArgs s_can_row) (defBody s_can_row) (defScope s_can_row) [] [] (He.ga K "can_row") fd
  f_crews : ∃ fd, FunD K "crews" "crews" (defArgs s_crews) (defBody s_crews) (defScope s_crews) [] [] (He.ga K "crews") fd
  f_minutes : ∃ fd, FunD K "minutes" "minutes" (defArgs s_minutes) (defBody s_minutes) (defScope s_minutes) [] [] (He.ga K "minutes") fd
  f_standings : ∃ fd, FunD K "standings" "standings" (defArgs s_standings) (defBody s_standings) (defScope s_standings) [] [] (He.ga K "standings") fd
  f_table : ∃ fd, FunD K "table" "table" (defArgs s_table) (defBody s_table) (defScope s_table) [] [] (He.ga K "table") fd
  f_all_heights : ∃ fd, FunD K "all_heights" "all_heights" (defArgs s_all_heights) (defBody s_all_heights) (defScope s_all_heights) [] [] (He.ga K "all_heights") fd
  f_heights : ∃ fd, FunD K "heights" "heights" (defArgs s_heights) (defBody s_heights) (defScope s_heights) [] [] (He.ga K "heights") fd
  f_come_to : ∃ fd, FunD K "come_to" "come_to" (defArgs s_come_to) (defBody s_come_to) (defScope s_come_to) [] [] (He.ga K "come_to") fd
  f_shortest : ∃ fd, FunD K "shortest" "shortest" (defArgs s_shortest) (defBody s_shortest) (defScope s_shortest) [] [] (He.ga K "shortest") fd
  f__law_cell_at : ∃ fd, FunD K "_law_cell_at" "_law_cell_at" (defArgs s__law_cell_at) (defBody s__law_cell_at) (defScope s__law_cell_at) [] [] (He.ga K "_law_cell_at") fd
  f__law_quarrel : ∃ fd, FunD K "_law_quarrel" "_law_quarrel" (defArgs s__law_quarrel) (defBody s__law_quarrel) (defScope s__law_quarrel) [] [] (He.ga K "_law_quarrel") fd
  f__law_quarrels : ∃ fd, FunD K "_law_quarrels" "_law_quarrels" (defArgs s__law_quarrels) (defBody s__law_quarrels) (defScope s__law_quarrels) [] [] (He.ga K "_law_quarrels") fd
  f__law_things : ∃ fd, FunD K "_law_things" "_law_things" (defArgs s__law_things) (defBody s__law_things) (defScope s__law_things) [] [] (He.ga K "_law_things") fd
  f__law_night : ∃ fd, FunD K "_law_night" "_law_night" (defArgs s__law_night) (defBody s__law_night) (defScope s__law_night) [] [] (He.ga K "_law_night") fd
  f__law_peace : ∃ fd, FunD K "_law_peace" "_law_peace" (defArgs s__law_peace) (defBody s__law_peace) (defScope s__law_peace) [] [] (He.ga K "_law_peace") fd
  f__law_bits : ∃ fd, FunD K "_law_bits" "_law_bits" (defArgs s__law_bits) (defBody s__law_bits) (defScope s__law_bits) [] [] (He.ga K "_law_bits") fd
  f__law_groups : ∃ fd, FunD K "_law_groups" "_law_groups" (defArgs s__law_groups) (defBody s__law_groups) (defScope s__law_groups) [] [] (He.ga K "_law_groups") fd
  f__law_rest : ∃ fd, FunD K "_law_rest" "_law_rest" (defArgs s__law_rest) (defBody s__law_rest) (defScope s__law_rest) [] [] (He.ga K "_law_rest") fd
  f__law_good : ∃ fd, FunD K "_law_good" "_law_good" (defArgs s__law_good) (defBody s__law_good) (defScope s__law_good) [] [] (He.ga K "_law_good") fd
  f__law_lines : ∃ fd, FunD K "_law_lines" "_law_lines" (defArgs s__law_lines) (defBody s__law_lines) (defScope s__law_lines) [] [] (He.ga K "_law_lines") fd
  f_law : ∃ fd, FunD K "law" "law" (defArgs s_law) (defBody s_law) (defScope s_law) [] [] (He.ga K "law") fd
  f_Night___init__ : ∃ fd, FunD K "__init__" "Night.__init__" (defArgs s_Night___init__) (defBody s_Night___init__) (defScope s_Night___init__) [] [] (He.ma K (He.ga K "Night") "__init__") fd
  f_Night_things : ∃ fd, FunD K "things" "Night.things" (defArgs s_Night_things) (defBody s_Night_things) (defScope s_Night_things) [] [] (He.ma K (He.ga K "Night") "things") fd
  f_Night_room : ∃ fd, FunD K "room" "Night.room" (defArgs s_Night_room) (defBody s_Night_room) (defScope s_Night_room) [] [] (He.ma K (He.ga K "Night") "room") fd
  f_Night_quarrels : ∃ fd, FunD K "quarrels" "Night.quarrels" (defArgs s_Night_quarrels) (defBody s_Night_quarrels) (defScope s_Night_quarrels) [] [] (He.ma K (He.ga K "Night") "quarrels") fd
  f_Night_begins : ∃ fd, FunD K "begins" "Night.begins" (defArgs s_Night_begins) (defBody s_Night_begins) (defScope s_Night_begins) [] [] (He.ma K (He.ga K "Night") "begins") fd
  f_Night_ends : ∃ fd, FunD K "ends" "Night.ends" (defArgs s_Night_ends) (defBody s_Night_ends) (defScope s_Night_ends) [] [] (He.ma K (He.ga K "Night") "ends") fd
  f_Night_peace : ∃ fd, FunD K "peace" "Night.peace" (defArgs s_Night_peace) (defBody s_Night_peace) (defScope s_Night_peace) [] [] (He.ma K (He.ga K "Night") "peace") fd
  f_Night_over_there : ∃ fd, FunD K "over_there" "Night.over_there" (defArgs s_Night_over_there) (defBody s_Night_over_there) (defScope s_Night_over_there) [] [] (He.ma K (He.ga K "Night") "over_there") fd
theorem tx_of {K : PySem.W.Frag} {h : Heap} {mg : Str → Option Value} (X : K.In h) (G : h.Ns mainGlobals mg) (c0 : SaysX fa fn xb K) : Tx K mg := by
  have c := c0.d
  have cx := c0.x
  obtain ⟨ci, cx⟩ := He.ba cx
  obtain ⟨cx1, cx2⟩ := He.ba cx
  obtain ⟨cx2, cx3⟩ := He.ba cx2
  obtain ⟨cx3, cx4⟩ := He.ba cx3
  exact {
    g_look_at_things := He.glo_ok X G (c.fact 0),
    g_look_at_quarrel := He.glo_ok X G (c.fact 1),
    g_shown := He.glo_ok X G (c.fact 2),
    g_number_of := He.glo_ok X G (c.fact 3),
    g_thing_of := He.glo_ok X G (c.fact 4),
    g_quarrel_of := He.glo_ok X G (c.fact 5),
    g_read := He.glo_ok X G (c.fact 6),
    g_look_at := He.glo_ok X G (c.fact 7),
    g_peaceful := He.glo_ok X G (c.fact 8),
    g_good := He.glo_ok X G (c.fact 9),
    g_look_at_start := He.glo_ok X G (c.fact 10),
    g_beside_boat := He.glo_ok X G (c.fact 11),
    g_led_over := He.glo_ok X G (c.fact 12),
    g_groups_of := He.glo_ok X G (c.fact 13),
    g_can_row := He.glo_ok X G (c.fact 14),
    g_crews := He.glo_ok X G (c.fact 15),
    g_minutes := He.glo_ok X G (c.fact 16),
    g_standings := He.glo_ok X G (c.fact 17),
    g_table := He.glo_ok X G (c.fact 18),
    g_all_heights := He.glo_ok X G (c.fact 19),
    g_heights := He.glo_ok X G (c.fact 20),
    g_come_to := He.glo_ok X G (c.fact 21),
    g_shortest := He.glo_ok X G (c.fact 22),
    g__law_cell_at := He.glo_ok X G (c.fact 23),
    g__law_quarrel := He.glo_ok X G (c.fact 24),
    g__law_quarrels := He.glo_ok X G (c.fact 25),
    g__law_things := He.glo_ok X G (c.fact 26),
    g__law_night := He.glo_ok X G (c.fact 27),
    g__law_peace := He.glo_ok X G (c.fact 28),
    g__law_bits := He.glo_ok X G (c.fact 29),
    g__law_groups := He.glo_ok X G (c.fact 30),
    g__law_rest := He.glo_ok X G (c.fact 31),
    g__law_good := He.glo_ok X G (c.fact 32),
    g__law_lines := He.glo_ok X G (c.fact 33),
    g_law := He.glo_ok X G (c.fact 34),
    g_Night := He.glo_ok X G (c.fact 35),
    cl := He.cls_ok (c.fact 36),
    isi := (fun h => ⟨of_decide_eq_true (He.ba h).1, of_decide_eq_true (He.ba (He.ba h).2).1, of_decide_eq_true (He.ba (He.ba (He.ba h).2).2).1, of_decide_eq_true (He.ba (He.ba (He.ba h).2).2).2⟩) ci,
    mkr := He.mkr_ok (c.fact 37),
    na_all_things := He.noat_ok (c.fact 38),
    na_places := He.noat_ok (c.fact 39),
    na_all_quarrels := He.noat_ok (c.fact 40),
    m_things := He.meth_ok (c.fact 41),
    m_room := He.meth_ok (c.fact 42),
    m_quarrels := He.meth_ok (c.fact 43),
    m_begins := He.meth_ok (c.fact 44),
    m_ends := He.meth_ok (c.fact 45),
    m_peace := He.meth_ok (c.fact 46),
    m_over_there := He.meth_ok (c.fact 47),
    g_FerryError := He.glo_ok X G (c.fact 48),
    x_FerryError := exOk_of (c.fact 49),
    g_BadThing := He.glo_ok X G (c.fact 50),
    x_BadThing := exOk_of (c.fact 51),
    g_BadRoom := He.glo_ok X G (c.fact 52),
    x_BadRoom := exOk_of (c.fact 53),
    g_BadQuarrel := He.glo_ok X G (c.fact 54),
    x_BadQuarrel := exOk_of (c.fact 55),
    g_NoStanding := He.glo_ok X G (c.fact 56),
    x_NoStanding := exOk_of (c.fact 57),
    g_BadStart := He.glo_ok X G (c.fact 58),
    x_BadStart := exOk_of (c.fact 59),
    g_BadNote := He.glo_ok X G (c.fact 60),
    x_BadNote := exOk_of (c.fact 61),
    exm := fun x hx y hy => of_decide_eq_true (List.all_eq_true.mp (List.all_eq_true.mp cx4 x hx) y hy),
    kit := fun x hx y hy => of_decide_eq_true (List.all_eq_true.mp (List.all_eq_true.mp cx2 x hx) y hy),
    kitV := fun x hx => of_decide_eq_true (List.all_eq_true.mp cx3 x hx),
    exc := fun x hx => exC_of (List.all_eq_true.mp cx1 x hx),
    b_len := He.free_ok X G (c.fact 62),
    b_range := He.free_ok X G (c.fact 63),
    b_list := He.free_ok X G (c.fact 64),
    b_tuple := He.free_ok X G (c.fact 65),
    b_sorted := He.free_ok X G (c.fact 66),
    b_max := He.free_ok X G (c.fact 67),
    b_isinstance := He.free_ok X G (c.fact 68),
    b_ValueError := He.free_ok X G (c.fact 69),
    b_int := He.free_ok X G (c.fact 70),
    b_str := He.free_ok X G (c.fact 71),
    i_MOST_THINGS := He.int_ok X G (c.fact 72),
    i_MOST_ROOM := He.int_ok X G (c.fact 73),
    i_MOST_QUARRELS := He.int_ok X G (c.fact 74),
    i_SLOWEST := He.int_ok X G (c.fact 75),
    t_FIGURES := He.str_ok X G (c.fact 76),
    f_look_at_things := c.def_ 0 (d := ⟨("look_at_things", none), "look_at_things", "look_at_things", defArgs s_look_at_things, defBody s_look_at_things, defScope s_look_at_things, [], []⟩) rfl,
    f_look_at_quarrel := c.def_ 1 (d := ⟨("look_at_quarrel", none), "look_at_quarrel", "look_at_quarrel", defArgs s_look_at_quarrel, defBody s_look_at_quarrel, defScope s_look_at_quarrel, [], []⟩) rfl,
    f_shown := c.def_ 2 (d := ⟨("shown", none), "shown", "shown", defArgs s_shown, defBody s_shown, defScope s_shown, [], []⟩) rfl,
    f_number_of := c.def_ 3 (d := ⟨("number_of", none), "number_of", "number_of", defArgs s_number_of, defBody s_number_of, defScope s_number_of, [], []⟩) rfl,
    f_thing_of := c.def_ 4 (d := ⟨("thing_of", none), "thing_of", "thing_of", defArgs s_thing_of, defBody s_thing_of, defScope s_thing_of, [], []⟩) rfl,
    f_quarrel_of := c.def_ 5 (d := ⟨("quarrel_of", none), "quarrel_of", "quarrel_of", defArgs s_quarrel_of, defBody s_quarrel_of, defScope s_quarrel_of, [], []⟩) rfl,
    f_read := c.def_ 6 (d := ⟨("read", none), "read", "read", defArgs s_read, defBody s_read, defScope s_read, [], []⟩) rfl,
    f_look_at := c.def_ 7 (d := ⟨("look_at", none), "look_at", "look_at", defArgs s_look_at, defBody s_look_at, defScope s_look_at, [], []⟩) rfl,
    f_peaceful := c.def_ 8 (d := ⟨("peaceful", none), "peaceful", "peaceful", defArgs s_peaceful, defBody s_peaceful, defScope s_peaceful, [], []⟩) rfl,
    f_good := c.def_ 9 (d := ⟨("good", none), "good", "good", defArgs s_good, defBody s_good, defScope s_good, [], []⟩) rfl,
    f_look_at_start := c.def_ 10 (d := ⟨("look_at_start", none), "look_at_start", "look_at_start", defArgs s_look_at_start, defBody s_look_at_start, defScope s_look_at_start, [], []⟩) rfl,
    f_beside_boat := c.def_ 11 (d := ⟨("beside_boat", none), "beside_boat", "beside_boat", defArgs s_beside_boat, defBody s_beside_boat, defScope s_beside_boat, [], []⟩) rfl,
    f_led_over := c.def_ 12 (d := ⟨("led_over", none), "led_over", "led_over", defArgs s_led_over, defBody s_led_over, defScope s_led_over, [], []⟩) rfl,
    f_groups_of := c.def_ 13 (d := ⟨("groups_of", none), "groups_of", "groups_of", defArgs s_groups_of, defBody s_groups_of, defScope s_groups_of, [], []⟩) rfl,
    f_can_row := c.def_ 14 (d := ⟨("can_row", none), "can_row", "can_row", defArgs s_can_row, defBody s_can_row, defScope s_can_row, [], []⟩) rfl,
    f_crews := c.def_ 15 (d := ⟨("crews", none), "crews", "crews", defArgs s_crews, defBody s_crews, defScope s_crews, [], []⟩) rfl,
    f_minutes := c.def_ 16 (d := ⟨("minutes", none), "minutes", "minutes", defArgs s_minutes, defBody s_minutes, defScope s_minutes, [], []⟩) rfl,
    f_standings := c.def_ 17 (d := ⟨("standings", none), "standings", "standings", defArgs s_standings, defBody s_standings, defScope s_standings, [], []⟩) rfl,
    f_table := c.def_ 18 (d := ⟨("table", none), "table", "table", defArgs s_table, defBody s_table, defScope s_table, [], []⟩) rfl,
    f_all_heights := c.def_ 19 (d := ⟨("all_heights", none), "all_heights", "all_heights", defArgs s_all_heights, defBody s_all_heights, defScope s_all_heights, [], []⟩) rfl,
    f_heights := c.def_ 20 (d := ⟨("heights", none), "heights", "heights", defArgs s_heights, defBody s_heights, defScope s_heights, [], []⟩) rfl,
    f_come_to := c.def_ 21 (d := ⟨("come_to", none), "come_to", "come_to", defArgs s_come_to, defBody s_come_to, defScope s_come_to, [], []⟩) rfl,
    f_shortest := c.def_ 22 (d := ⟨("shortest", none), "shortest", "shortest", defArgs s_shortest, defBody s_shortest, defScope s_shortest, [], []⟩) rfl,
    f__law_cell_at := c.def_ 23 (d := ⟨("_law_cell_at", none), "_law_cell_at", "_law_cell_at", defArgs s__law_cell_at, defBody s__law_cell_at, defScope s__law_cell_at, [], []⟩) rfl,
    f__law_quarrel := c.def_ 24 (d := ⟨("_law_quarrel", none), "_law_quarrel", "_law_quarrel", defArgs s__law_quarrel, defBody s__law_quarrel, defScope s__law_quarrel, [], []⟩) rfl,
    f__law_quarrels := c.def_ 25 (d := ⟨("_law_quarrels", none), "_law_quarrels", "_law_quarrels", defArgs s__law_quarrels, defBody s__law_quarrels, defScope s__law_quarrels, [], []⟩) rfl,
    f__law_things := c.def_ 26 (d := ⟨("_law_things", none), "_law_things", "_law_things", defArgs s__law_things, defBody s__law_things, defScope s__law_things, [], []⟩) rfl,
    f__law_night := c.def_ 27 (d := ⟨("_law_night", none), "_law_night", "_law_night", defArgs s__law_night, defBody s__law_night, defScope s__law_night, [], []⟩) rfl,
    f__law_peace := c.def_ 28 (d := ⟨("_law_peace", none), "_law_peace", "_law_peace", defArgs s__law_peace, defBody s__law_peace, defScope s__law_peace, [], []⟩) rfl,
    f__law_bits := c.def_ 29 (d := ⟨("_law_bits", none), "_law_bits", "_law_bits", defArgs s__law_bits, defBody s__law_bits, defScope s__law_bits, [], []⟩) rfl,
    f__law_groups := c.def_ 30 (d := ⟨("_law_groups", none), "_law_groups", "_law_groups", defArgs s__law_groups, defBody s__law_groups, defScope s__law_groups, [], []⟩) rfl,
    f__law_rest := c.def_ 31 (d := ⟨("_law_rest", none), "_law_rest", "_law_rest", defArgs s__law_rest, defBody s__law_rest, defScope s__law_rest, [], []⟩) rfl,
    f__law_good := c.def_ 32 (d := ⟨("_law_good", none), "_law_good", "_law_good", defArgs s__law_good, defBody s__law_good, defScope s__law_good, [], []⟩) rfl,
    f__law_lines := c.def_ 33 (d := ⟨("_law_lines", none), "_law_lines", "_law_lines", defArgs s__law_lines, defBody s__law_lines, defScope s__law_lines, [], []⟩) rfl,
    f_law := c.def_ 34 (d := ⟨("law", none), "law", "law", defArgs s_law, defBody s_law, defScope s_law, [], []⟩) rfl,
    f_Night___init__ := c.def_ 35 (d := ⟨("Night", some "__init__"), "__init__", "Night.__init__", defArgs s_Night___init__, defBody s_Night___init__, defScope s_Night___init__, [], []⟩) rfl,
    f_Night_things := c.def_ 36 (d := ⟨("Night", some "things"), "things", "Night.things", defArgs s_Night_things, defBody s_Night_things, defScope s_Night_things, [], []⟩) rfl,
    f_Night_room := c.def_ 37 (d := ⟨("Night", some "room"), "room", "Night.room", defArgs s_Night_room, defBody s_Night_room, defScope s_Night_room, [], []⟩) rfl,
    f_Night_quarrels := c.def_ 38 (d := ⟨("Night", some "quarrels"), "quarrels", "Night.quarrels", defArgs s_Night_quarrels, defBody s_Night_quarrels, defScope s_Night_quarrels, [], []⟩) rfl,
    f_Night_begins := c.def_ 39 (d := ⟨("Night", some "begins"), "begins", "Night.begins", defArgs s_Night_begins, defBody s_Night_begins, defScope s_Night_begins, [], []⟩) rfl,
    f_Night_ends := c.def_ 40 (d := ⟨("Night", some "ends"), "ends", "Night.ends", defArgs s_Night_ends, defBody s_Night_ends, defScope s_Night_ends, [], []⟩) rfl,
    f_Night_peace := c.def_ 41 (d := ⟨("Night", some "peace"), "peace", "Night.peace", defArgs s_Night_peace, defBody s_Night_peace, defScope s_Night_peace, [], []⟩) rfl,
    f_Night_over_there := c.def_ 42 (d := ⟨("Night", some "over_there"), "over_there", "Night.over_there", defArgs s_Night_over_there, defBody s_Night_over_there, defScope s_Night_over_there, [], []⟩) rfl }
end Fy

namespace Fy
open PySem PySem.Spec PyProof.Rows L2
/-! ### heaps: what stays -/
abbrev Ex := Evl.Ex
/-- tuples (and what is known) stay: true of every step of a program -/
def Up (H H' : Hp) : Prop := (∀ a xs, H a = some (.tup xs) → H' a = some (.tup xs)) ∧ ∀ a o u, H a = some (.frz o u) → H' a = some (.frz o u)
theorem Up.refl (H : Hp) : Up H H := ⟨fun _ _ h => h, fun _ _ _ h => h⟩
theorem Up.trans {H H1 H2 : Hp} (a : Up H H1) (b : Up H1 H2) : Up H H2 := ⟨fun x xs h => b.1 x xs (a.1 x xs h), fun x o u h => b.2 x o u (a.2 x o u h)⟩
theorem Ex.up {H H' : Hp} (e : Ex H H') : Up H H' := ⟨fun a xs h => e a _ h, fun a o u h => e a _ h⟩
/-- a list is changed -/
theorem Up.lst {H : Hp} {l : Addr} {xs : List V} {o : HO} (h : H l = some (.lst xs)) : Up H (upd H l o) :=
  ⟨fun a ys e => by rw [upd_ne (fun q => by rw [q, h] at e; cases e)]; exact e, fun a ob u e => by rw [upd_ne (fun q => by rw [q, h] at e; cases e)]; exact e⟩
theorem Up.new {H : Hp} {l : Addr} {o : HO} (h : H l = none) : Up H (upd H l o) := Ex.up (Evl.Ex.new h)
theorem Up.sqT {K : PySem.W.Frag} {H H' : Hp} {a : Addr} {xs : List V} (e : Up H H') (h : SqT K H a xs) : SqT K H' a xs := by
  rcases h with (h | ⟨o, h⟩) | h
  · exact .inl (.inl (e.1 _ _ h))
  · exact .inl (.inr ⟨o, e.2 _ _ _ h⟩)
  · exact .inr h
theorem ex_same {H H' : Hp} (e : Ex H H') : Same H H' := e
/-! ### data -/
mutual
theorem dp_mono {K : PySem.W.Frag} {H H' : Hp} (e : Ex H H') : ∀ (d : PyData) (v : V), Dp K H v d → Dp K H' v d
  | .none, _, h => by cases h; exact .non
  | .bool b, _, h => by cases h; exact .bl b
  | .int i, _, h => by cases h; exact .int i
  | .str x, _, h => by cases h; exact .str x
  | .list ds, _, h => by
    cases h with
    | lst hs ha => exact .lst (Evl.ex_l e hs) (dpa_mono e ds _ ha)
  | .tuple ds, _, h => by
    cases h with
    | tup hs ha => exact .tup (Evl.ex_t e hs) (dpa_mono e ds _ ha)
  | .dict _, _, h => by cases h
theorem dpa_mono {K : PySem.W.Frag} {H H' : Hp} (e : Ex H H') : ∀ (ds : List PyData) (vs : List V), DpAll K H vs ds → DpAll K H' vs ds
  | [], _, h => by cases h; exact .nil
  | d :: ds, _, h => by
    cases h with
    | cons h1 h2 => exact .cons (dp_mono e d _ h1) (dpa_mono e ds _ h2)
end
mutual
/-- no list within -/
def noL : PyData → Bool
  | .list _ => false
  | .dict _ => false
  | .tuple ds => noLs ds
  | _ => true
def noLs : List PyData → Bool
  | [] => true
  | d :: ds => noL d && noLs ds
end
mutual
theorem dp_up {K : PySem.W.Frag} {H H' : Hp} (e : Up H H') : ∀ (d : PyData) (v : V), noL d = true → Dp K H v d → Dp K H' v d
  | .none, _, _, h => by cases h; exact .non
  | .bool b, _, _, h => by cases h; exact .bl b
  | .int i, _, _, h => by cases h; exact .int i
  | .str x, _, _, h => by cases h; exact .str x
  | .list ds, _, n, h => by simp [noL] at n
  | .tuple ds, _, n, h => by
    cases h with
    | tup hs ha => exact .tup (e.sqT hs) (dpa_up e ds _ (by simpa [noL] using n) ha)
  | .dict _, _, _, h => by cases h
theorem dpa_up {K : PySem.W.Frag} {H H' : Hp} (e : Up H H') : ∀ (ds : List PyData) (vs : List V), noLs ds = true → DpAll K H vs ds → DpAll K H' vs ds
  | [], _, _, h => by cases h; exact .nil
  | d :: ds, _, n, h => by
    have n' : noL d = true ∧ noLs ds = true := by simpa [noLs] using n
    cases h with
    | cons h1 h2 => exact .cons (dp_up e d _ n'.1 h1) (dpa_up e ds _ n'.2 h2)
end
theorem noLs_map {α : Type} {f : α → PyData} (h : ∀ x, noL (f x) = true) : ∀ xs : List α, noLs (xs.map f) = true
  | [] => rfl
  | x :: xs => by simp [noLs, h x, noLs_map h xs]
section
variable {K : PySem.W.Frag} {H H' : Hp}
theorem dpa_len : ∀ {vs : List V} {ds : List PyData}, DpAll K H vs ds → vs.length = ds.length
  | _, _, .nil => rfl
  | _, _, .cons _ t => by simp [dpa_len t]
theorem dpa_get : ∀ {vs : List V} {ds : List PyData} {i : Nat} {v : V}, DpAll K H vs ds → vs[i]? = some v → ∃ d, ds[i]? = some d ∧ Dp K H v d
  | _, _, _, _, .nil, e => by simp at e
  | _, _, 0, _, .cons h _, e => by simp at e; subst e; exact ⟨_, rfl, h⟩
  | _, _, i + 1, _, .cons _ t, e => by simpa using dpa_get (i := i) t (by simpa using e)
theorem dpa_get' : ∀ {vs : List V} {ds : List PyData} {i : Nat} {d : PyData}, DpAll K H vs ds → ds[i]? = some d → ∃ v, vs[i]? = some v ∧ Dp K H v d
  | _, _, _, _, .nil, e => by simp at e
  | _, _, 0, _, .cons h _, e => by simp at e; subst e; exact ⟨_, rfl, h⟩
  | _, _, i + 1, _, .cons _ t, e => by simpa using dpa_get' (i := i) t (by simpa using e)
theorem dpa_snoc : ∀ {vs : List V} {ds : List PyData} {v : V} {d : PyData}, DpAll K H vs ds → Dp K H v d → DpAll K H (vs ++ [v]) (ds ++ [d])
  | _, _, _, _, .nil, h => .cons h .nil
  | _, _, _, _, .cons h1 t, h => .cons h1 (dpa_snoc t h)
theorem dpa_app : ∀ {vs ws : List V} {ds es : List PyData}, DpAll K H vs ds → DpAll K H ws es → DpAll K H (vs ++ ws) (ds ++ es)
  | _, _, _, _, .nil, h => h
  | _, _, _, _, .cons h1 t, h => .cons h1 (dpa_app t h)
theorem dpa_drop : ∀ {vs : List V} {ds : List PyData} (n : Nat), DpAll K H vs ds → DpAll K H (vs.drop n) (ds.drop n)
  | _, _, 0, h => h
  | _, _, _ + 1, .nil => .nil
  | _, _, n + 1, .cons _ t => dpa_drop n t
theorem dpa_take : ∀ {vs : List V} {ds : List PyData} (n : Nat), DpAll K H vs ds → DpAll K H (vs.take n) (ds.take n)
  | _, _, 0, h => .nil
  | _, _, _ + 1, .nil => .nil
  | _, _, n + 1, .cons h t => .cons h (dpa_take n t)
theorem dp_int {v : V} {i : Int} : Dp K H v (.int i) ↔ v = .int i := ⟨fun h => by cases h; rfl, fun h => by subst h; exact .int i⟩
theorem dp_bl {v : V} {b : Bool} : Dp K H v (.bool b) ↔ v = .bl b := ⟨fun h => by cases h; rfl, fun h => by subst h; exact .bl b⟩
theorem dp_str {v : V} {x : Str} : Dp K H v (.str x) ↔ v = .str x := ⟨fun h => by cases h; rfl, fun h => by subst h; exact .str x⟩
theorem dp_non {v : V} : Dp K H v .none ↔ v = .non := ⟨fun h => by cases h; rfl, fun h => by subst h; exact .non⟩
theorem dp_tup {v : V} {ds : List PyData} : Dp K H v (.tuple ds) ↔ ∃ a xs, v = .ref a ∧ SqT K H a xs ∧ DpAll K H xs ds :=
  ⟨fun h => by cases h with | tup a b => exact ⟨_, _, rfl, a, b⟩, fun ⟨a, xs, e, h1, h2⟩ => by subst e; exact .tup h1 h2⟩
theorem dp_lst {v : V} {ds : List PyData} : Dp K H v (.list ds) ↔ ∃ a xs, v = .ref a ∧ SqL K H a xs ∧ DpAll K H xs ds :=
  ⟨fun h => by cases h with | lst a b => exact ⟨_, _, rfl, a, b⟩, fun ⟨a, xs, e, h1, h2⟩ => by subst e; exact .lst h1 h2⟩
theorem dpa_ints : ∀ {g : List Int} {vs : List V}, DpAll K H vs (g.map .int) ↔ vs = g.map V.int
  | [], vs => ⟨fun h => by cases h; rfl, fun h => by subst h; exact .nil⟩
  | i :: g, vs => ⟨fun h => by
      cases h with
      | cons h1 h2 => rw [dp_int.mp h1, dpa_ints.mp h2]; rfl, fun h => by subst h; exact .cons (.int i) (dpa_ints.mpr rfl)⟩
theorem dpa_bls : ∀ {g : List Bool} {vs : List V}, DpAll K H vs (g.map .bool) ↔ vs = g.map V.bl
  | [], vs => ⟨fun h => by cases h; rfl, fun h => by subst h; exact .nil⟩
  | i :: g, vs => ⟨fun h => by
      cases h with
      | cons h1 h2 => rw [dp_bl.mp h1, dpa_bls.mp h2]; rfl, fun h => by subst h; exact .cons (.bl i) (dpa_bls.mpr rfl)⟩
theorem dpa_strs : ∀ {g : List Str} {vs : List V}, DpAll K H vs (g.map .str) ↔ vs = g.map V.str
  | [], vs => ⟨fun h => by cases h; rfl, fun h => by subst h; exact .nil⟩
  | i :: g, vs => ⟨fun h => by
      cases h with
      | cons h1 h2 => rw [dp_str.mp h1, dpa_strs.mp h2]; rfl, fun h => by subst h; exact .cons (.str i) (dpa_strs.mpr rfl)⟩
end
/-! ### the program's data -/
def eI (g : List Int) : PyData := .tuple (g.map .int)
def eT (t : Int × Bool) : PyData := .tuple [.int t.1, .bool t.2]
def eQ (q : Int × Int × Int) : PyData := .tuple [.int q.1, .int q.2.1, .int q.2.2]
def eS (s : List Int × Int) : PyData := .tuple [eI s.1, .int s.2]
section
variable {K : PySem.W.Frag} {H H' : Hp} {v : V}
theorem dp_eI {g : List Int} : Dp K H v (eI g) ↔ ∃ a, v = .ref a ∧ SqT K H a (g.map V.int) :=
  ⟨fun h => by obtain ⟨a, xs, e, h1, h2⟩ := dp_tup.mp h; rw [dpa_ints.mp h2] at h1; exact ⟨a, e, h1⟩, fun ⟨a, e, h1⟩ => dp_tup.mpr ⟨a, _, e, h1, dpa_ints.mpr rfl⟩⟩
theorem dp_eT {t : Int × Bool} : Dp K H v (eT t) ↔ ∃ a, v = .ref a ∧ SqT K H a [.int t.1, .bl t.2] :=
  ⟨fun h => by
    obtain ⟨a, xs, e, h1, h2⟩ := dp_tup.mp h
    cases h2 with
    | cons a1 h2 => cases h2 with
      | cons a2 h2 => cases h2; rw [dp_int.mp a1, dp_bl.mp a2] at h1; exact ⟨a, e, h1⟩, fun ⟨a, e, h1⟩ => dp_tup.mpr ⟨a, _, e, h1, .cons (.int _) (.cons (.bl _) .nil)⟩⟩
theorem dp_eQ {t : Int × Int × Int} : Dp K H v (eQ t) ↔ ∃ a, v = .ref a ∧ SqT K H a [.int t.1, .int t.2.1, .int t.2.2] :=
  ⟨fun h => by
    obtain ⟨a, xs, e, h1, h2⟩ := dp_tup.mp h
    rw [dpa_ints (g := [t.1, t.2.1, t.2.2]) |>.mp h2] at h1
    exact ⟨a, e, h1⟩, fun ⟨a, e, h1⟩ => dp_tup.mpr ⟨a, _, e, h1, dpa_ints (g := [t.1, t.2.1, t.2.2]) |>.mpr rfl⟩⟩
theorem dp_eS {s : List Int × Int} : Dp K H v (eS s) ↔ ∃ a g, v = .ref a ∧ SqT K H a [g, .int s.2] ∧ Dp K H g (eI s.1) :=
  ⟨fun h => by
    obtain ⟨a, xs, e, h1, h2⟩ := dp_tup.mp h
    cases h2 with
    | cons a1 h2 => cases h2 with
      | cons a2 h2 => cases h2; rw [dp_int.mp a2] at h1; exact ⟨a, _, e, h1, a1⟩, fun ⟨a, g, e, h1, h2⟩ => dp_tup.mpr ⟨a, _, e, h1, .cons h2 (.cons (.int _) .nil)⟩⟩
end
theorem noL_int : ∀ g : List Int, noLs (g.map .int) = true := fun g => noLs_map (fun _ => rfl) g
theorem noL_eI (g : List Int) : noL (eI g) = true := by show noLs _ = true; exact noL_int g
theorem noL_eT (t : Int × Bool) : noL (eT t) = true := rfl
theorem noL_eQ (t : Int × Int × Int) : noL (eQ t) = true := rfl
theorem noL_eS (s : List Int × Int) : noL (eS s) = true := by show (noL (eI s.1) && _) = true; rw [noL_eI]; rfl
/-! shapes -/
theorem lays_map {α : Type} {f : α → PyData} (h : ∀ x, (f x).canLay0 = true) : ∀ xs : List α, PyData.canLayAll0 (xs.map f) = true
  | [] => by simp [PyData.canLayAll0]
  | x :: xs => by simp [PyData.canLayAll0, h x, lays_map h xs]
theorem deps_map {α : Type} {f : α → PyData} {n : Nat} (h : ∀ x, (f x).depth ≤ n) : ∀ xs : List α, PyData.depthAll (xs.map f) ≤ n
  | [] => by simp [PyData.depthAll]
  | x :: xs => by
    have h1 := deps_map h xs
    have h2 := h x
    simp only [List.map_cons, PyData.depthAll]
    omega
theorem sh_of {d : PyData} (h : d.canLay0 = true) (h2 : d.depth ≤ 64) : SeqAt.shaped d = true := by
  show (d.canLay0 && decide (d.depth ≤ 64)) = true
  rw [Bool.and_eq_true]
  exact ⟨h, decide_eq_true h2⟩
theorem sh_lst {α : Type} {f : α → PyData} (h : ∀ x, (f x).canLay0 = true) (h2 : ∀ x, (f x).depth ≤ 60) (xs : List α) : SeqAt.shaped (.list (xs.map f)) = true :=
  sh_of (by simp only [PyData.canLay0]; exact lays_map h xs) (by simp only [PyData.depth]; have := deps_map h2 xs; omega)
theorem lay_eI (g : List Int) : (eI g).canLay0 = true := by simp only [eI, PyData.canLay0]; exact lays_map (fun _ => by simp [PyData.canLay0]) g
theorem dep_eI (g : List Int) : (eI g).depth ≤ 1 := by simp only [eI, PyData.depth]; have := deps_map (f := PyData.int) (n := 0) (fun _ => by simp [PyData.depth]) g; omega
theorem lay_eT (t : Int × Bool) : (eT t).canLay0 = true := by simp [eT, PyData.canLay0, PyData.canLayAll0]
theorem dep_eT (t : Int × Bool) : (eT t).depth ≤ 1 := by simp [eT, PyData.depth, PyData.depthAll]
theorem lay_eQ (t : Int × Int × Int) : (eQ t).canLay0 = true := by simp [eQ, PyData.canLay0, PyData.canLayAll0]
theorem dep_eQ (t : Int × Int × Int) : (eQ t).depth ≤ 1 := by simp [eQ, PyData.depth, PyData.depthAll]
theorem lay_eS (s : List Int × Int) : (eS s).canLay0 = true := by simp [eS, PyData.canLay0, PyData.canLayAll0, lay_eI]
theorem dep_eS (s : List Int × Int) : (eS s).depth ≤ 2 := by simp only [eS, PyData.depth, PyData.depthAll]; have := dep_eI s.1; omega
theorem sh_eI (g : List Int) : SeqAt.shaped (eI g) = true := sh_of (lay_eI g) (Nat.le_trans (dep_eI g) (by decide))
theorem sh_eS (s : List Int × Int) : SeqAt.shaped (eS s) = true := sh_of (lay_eS s) (Nat.le_trans (dep_eS s) (by decide))
/-! == -/
theorem eqvs_map {α : Type} {f : α → PyData} [DecidableEq α] (h : ∀ x y, PyData.eqv (f x) (f y) = decide (x = y)) : ∀ xs ys : List α, PyData.eqvAll (xs.map f) (ys.map f) = decide (xs = ys)
  | [], [] => by simp [PyData.eqvAll]
  | [], _ :: _ => by simp [PyData.eqvAll]
  | _ :: _, [] => by simp [PyData.eqvAll]
  | x :: xs, y :: ys => by
    simp only [List.map_cons, PyData.eqvAll, h x y, eqvs_map h xs ys]
    by_cases e : x = y <;> by_cases e2 : xs = ys <;> simp [e, e2]
theorem eqv_int (i j : Int) : PyData.eqv (.int i) (.int j) = decide (i = j) := by simp [PyData.eqv, Bool.beq_eq_decide_eq]
theorem eqv_eI (g k : List Int) : PyData.eqv (eI g) (eI k) = decide (g = k) := by
  simp only [eI, PyData.eqv]
  exact eqvs_map eqv_int g k
theorem eqv_eT (s t : Int × Bool) : PyData.eqv (eT s) (eT t) = decide (s = t) := by
  obtain ⟨a, b⟩ := s
  obtain ⟨c, d⟩ := t
  simp only [eT, PyData.eqv, PyData.eqvAll]
  by_cases e : a = c <;> by_cases e2 : b = d <;> simp [e, e2]
theorem eqv_eQ (s t : Int × Int × Int) : PyData.eqv (eQ s) (eQ t) = decide (s = t) := by
  obtain ⟨a, b, x⟩ := s
  obtain ⟨c, d, y⟩ := t
  simp only [eQ, PyData.eqv, PyData.eqvAll]
  by_cases e : a = c <;> by_cases e2 : b = d <;> by_cases e3 : x = y <;> simp [e, e2, e3]
theorem eqv_eS (s t : List Int × Int) : PyData.eqv (eS s) (eS t) = decide (s = t) := by
  obtain ⟨a, b⟩ := s
  obtain ⟨c, d⟩ := t
  simp only [eS, PyData.eqv, PyData.eqvAll, eqv_eI]
  by_cases e : a = c <;> by_cases e2 : b = d <;> simp [e, e2]
theorem eqv_lst {α : Type} {f : α → PyData} [DecidableEq α] (h : ∀ x y, PyData.eqv (f x) (f y) = decide (x = y)) (xs ys : List α) : PyData.eqv (.list (xs.map f)) (.list (ys.map f)) = decide (xs = ys) := by
  simp only [PyData.eqv]
  exact eqvs_map h xs ys
/-- in among ints -/
theorem inV_ints (i : Int) : ∀ g : List Int, inV (.int i) (g.map V.int) = g.contains i
  | [] => rfl
  | j :: g => by
    have h := inV_ints i g
    unfold inV at h ⊢
    rw [List.map_cons, List.any_cons, h, List.contains_cons]
    show ((j == i) || _) = _
    rw [show (j == i) = (i == j) from by rw [Bool.beq_eq_decide_eq, Bool.beq_eq_decide_eq]; exact decide_eq_decide.mpr eq_comm]
theorem flat_ints : ∀ g : List Int, (g.map V.int).all flatV = true
  | [] => rfl
  | j :: g => by rw [List.map_cons, List.all_cons, flat_ints g]; rfl
/-! ### what a def promises: an answer in a heap that keeps all -/
abbrev RetV := @Evl.RetV
def RetR (R : V → Hp → Prop) (H : Hp) (Q : VK) : Prop := ∀ v H', Ex H H' → R v H' → Q v H'
theorem RetR.go {R : V → Hp → Prop} {H H' : Hp} {Q : VK} (k : RetR R H Q) (e : Ex H H') {v : V} {H2 : Hp} (e2 : Ex H' H2) (h : R v H2) : Q v H2 := k v H2 (e.trans e2) h
theorem ne_l {H H0 : Hp} {a l : Addr} {o : HO} (h : H0 a = some o) (n : H0 l = none) : a ≠ l := ne_of_none h n
/-- an object that stood apart from l -/
theorem ex_mut {H H' : Hp} {p : Addr} {o : HO} (e : Ex H H') (h : H p = none) : Ex H (upd H' p o) := Evl.Ex.mut e h
/-- a list of one's own that reads as ds: new behind H0 -/
def NewL (K : PySem.W.Frag) (H0 : Hp) (v : V) (H : Hp) (ds : List PyData) : Prop := ∃ p xs, v = .ref p ∧ H0 p = none ∧ H p = some (.lst xs) ∧ DpAll K H xs ds
/-! ### calls of defs by their names -/
structure Has (P : Program) (w : World) (K : PySem.W.Frag) (mg : Str → Option Value) (base : Heap) (CX : CXT) (k : Nat) (x : Str) (ps : List Str) (sp : Sp) : Prop where
  g : mg x = some (.ref (He.ga K x))
  ok : ∃ fd, FnOk P w K mg base CX k (He.ga K x) fd ps sp ∧ Binds K fd ps [] ∧ PySem.W.keepIn K (.ref (He.ga K x)) = true
structure HasM (P : Program) (w : World) (K : PySem.W.Frag) (mg : Str → Option Value) (base : Heap) (CX : CXT) (k : Nat) (m : Str) (ps : List Str) (sp : Sp) : Prop where
  cl : Cls K (He.ga K "Night")
  mt : Meth K (He.ga K "Night") m (He.ma K (He.ga K "Night") m)
  ok : ∃ fd, FnOk P w K mg base CX k (He.ma K (He.ga K "Night") m) fd ps sp ∧ Binds K fd ps []
section
variable {X : Cx} {k : Nat} {x m : Str} {ps : List Str} {sp : Sp} {p pos apos : Pos} {e o : Expr} {es : List Expr} {ta : TE} {t : TA} {W : WX} {CX : CXT}
/-- a call that lets nothing out (or where nothing may come out: E0) -/
theorem pe_f0 (F : Has X.prog X.w X.K X.mg X.base CX k x ps sp) (hr : Room k X.A) (hg : Gl X x) (hx : Passes CX X E0) (ha : PA X (e :: es) t) (hdb : (x == ("__debug__" : Str)) = false := by decide)
    (he : starEach (e :: es) X.env = (false, eval e X.env) :: starEach es X.env := by rfl) (hpl : (backTo pos (starEach es X.env)).any (·.1) = false := by rfl) : PE X (.Call (.Name x p) (e :: es) [] pos) (tCall sp [] E0 t) := by
  obtain ⟨fd, G, b, kp⟩ := F.ok
  exact pe_call G hr hg F.g kp b .nil hx ha hdb he hpl
theorem pe_f (F : Has X.prog X.w X.K X.mg X.base CX0 k x ps sp) (hr : Room k X.A) (hg : Gl X x) (ha : PA X (e :: es) t) (hdb : (x == ("__debug__" : Str)) = false := by decide)
    (he : starEach (e :: es) X.env = (false, eval e X.env) :: starEach es X.env := by rfl) (hpl : (backTo pos (starEach es X.env)).any (·.1) = false := by rfl) : PE X (.Call (.Name x p) (e :: es) [] pos) (tCall sp [] E0 t) :=
  pe_f0 F hr hg pass0 ha hdb he hpl
/-- a call that may raise: the wish at the slots -/
theorem pe_fx (F : Has X.prog X.w X.K X.mg X.base (L2.CX X.prog X.w) k x ps sp) (hr : Room k X.A) (hg : Gl X x) (tk : Takes X W) (ha : PA X (e :: es) t) (hdb : (x == ("__debug__" : Str)) = false := by decide)
    (he : starEach (e :: es) X.env = (false, eval e X.env) :: starEach es X.env := by rfl) (hpl : (backTo pos (starEach es X.env)).any (·.1) = false := by rfl) : PE X (.Call (.Name x p) (e :: es) [] pos) (tCallS sp (WE W) t) := by
  obtain ⟨fd, G, b, kp⟩ := F.ok
  exact pe_callS G hr hg F.g kp b (fun σ => passAt tk σ) ha hdb he hpl
/-- a method of a night -/
theorem pe_nm {C : Addr} {pl : Sem Bool} (ho : PE X o ta) (F : HasM X.prog X.w X.K X.mg X.base CX k m ps sp) (hr : Room k X.A) (hx : Passes CX X E0) (ha : PA X (e :: es) t)
    (hst : starEach (e :: es) X.env = (false, eval e X.env) :: starEach es X.env := by rfl) (hpl : (backTo pos (starEach es X.env)).any (·.1) = false := by rfl)
    (ht : eval (.Call (.Attribute o m apos) (e :: es) [] pos) X.env = (do
      let ov ← eval o X.env
      standAt apos.atName
      let (f, first) ← holding [ov] (getMethod ov m pl)
      callWith pos f first (backTo pos (starEach (e :: es) X.env)) (backToKw pos (keywordEach [] X.env))) := by rfl) (hC : He.ga X.K "Night" = C := by rfl) :
    PE X (.Call (.Attribute o m apos) (e :: es) [] pos) (tMeth C m sp [] E0 ta t) := by
  subst hC
  obtain ⟨fd, G, b⟩ := F.ok
  exact pe_meth ho F.cl F.mt G hr b .nil hx ha hst hpl ht
theorem pe_nm0 {C : Addr} {pl : Sem Bool} (ho : PE X o ta) (F : HasM X.prog X.w X.K X.mg X.base CX k m ps sp) (hr : Room k X.A) (hx : Passes CX X E0)
    (ht : eval (.Call (.Attribute o m apos) [] [] pos) X.env = (do
      let ov ← eval o X.env
      standAt apos.atName
      let (f, first) ← holding [ov] (getMethod ov m pl)
      callWith pos f first (backTo pos (starEach [] X.env)) (backToKw pos (keywordEach [] X.env))) := by rfl) (hC : He.ga X.K "Night" = C := by rfl) :
    PE X (.Call (.Attribute o m apos) [] [] pos) (tMeth C m sp [] E0 ta tNil) := by
  subst hC
  obtain ⟨fd, G, b⟩ := F.ok
  exact pe_meth0 ho F.cl F.mt G hr b .nil hx ht
end
/-- raise C('..'), C an own exception -/
theorem ps_raiseOwn {X : Cx} {W : WX} {x m : Str} {j : Nat} {p p2 p3 pos : Pos} (hc : X.calm = true) (tk : Takes X W) (q : ExOk X.K (He.ga X.K x)) (gC : X.mg x = some (.ref (He.ga X.K x))) (hg : Gl X x) (hdb : (x == ("__debug__" : Str)) = false := by decide) :
    PS X (.Raise (some (.Call (.Name x p) [.Constant (.str m) j p2] [] p3)) none pos) (fun _ σ H => W (.ref (He.ga X.K x)) none σ H) :=
  ps_raise hc tk (pmk_own PySem.F.excBase_ValueError q.ex gC q.kp (raises_own q.sub q.ty) hg hdb)
/-! ### comprehensions whose items carry no list -/
section
variable {K : PySem.W.Frag} {g : TG} {tt : TT} {te : TE} {vs : List Nat} {σ : L2.St} {Hs : Hp}
/-- one turn, told by what it gives: f none: left out -/
def Turned (g : TG) (tt : TT) (te : TE) (vs : List Nat) (σ : L2.St) (x : V) (H : Hp) (C : Option V → Hp → Prop) : Prop :=
  g x (wipe σ vs) H fun σ2 H2 => wipe σ2 vs = wipe σ vs ∧ tt σ2 H2 fun b H3 => if b = true then te σ2 H3 fun y H4 => C (some y) H4 else C none H3
/-- what a turn must say: from any later heap, for any end that takes the due -/
def TurnOk (K : PySem.W.Frag) (g : TG) (tt : TT) (te : TE) (vs : List Nat) (σ : L2.St) (Hs : Hp) (x : V) (due : Option PyData) : Prop :=
  ∀ (H : Hp) (C : Option V → Hp → Prop), Ex Hs H → (∀ H', Ex H H' → due = none → C none H') → (∀ y d H', Ex H H' → due = some d → Dp K H' y d → C (some y) H') → Turned g tt te vs σ x H C
theorem turned_mono {x : V} {H : Hp} {C C' : Option V → Hp → Prop} (hC : ∀ o H, C o H → C' o H) (mono : ∀ C C' : Option V → Hp → Prop, (∀ o H, C o H → C' o H) → Turned g tt te vs σ x H C → Turned g tt te vs σ x H C') (h : Turned g tt te vs σ x H C) : Turned g tt te vs σ x H C' := mono C C' hC h
/-- the invariant of such a comprehension -/
def LcInv (K : PySem.W.Frag) (Hs : Hp) (D : Addr) (fs : Nat → Option PyData) (i : Nat) (H : Hp) : Prop := Hs D = none ∧ Ex Hs H ∧ ∃ acc, H D = some (.lst acc) ∧ DpAll K H acc ((List.range i).filterMap fs) ∧ acc.length ≤ i
theorem lc_turn {D : Addr} {fs : Nat → Option PyData} {i : Nat} {H : Hp} {x : V} (hn : ∀ d, fs i = some d → noL d = true) (hns : noLs ((List.range i).filterMap fs) = true) (hi : i < 1000000) (I : LcInv K Hs D fs i H) (ht : TurnOk K g tt te vs σ Hs x (fs i)) :
    g x (wipe σ vs) H fun σ2 H2 => wipe σ2 vs = wipe σ vs ∧ tt σ2 H2 fun b H3 => if b = true then te σ2 H3 fun y H4 => ∃ acc, H4 D = some (.lst acc) ∧ acc.length < sizeLine ∧ LcInv K Hs D fs (i + 1) (upd H4 D (.lst (acc ++ [y]))) else LcInv K Hs D fs (i + 1) H3 := by
  obtain ⟨n0, e0, acc, hD, ha, hl⟩ := I
  have q := ht H (fun o H4 => match o with
    | some y => ∃ acc, H4 D = some (.lst acc) ∧ acc.length < sizeLine ∧ LcInv K Hs D fs (i + 1) (upd H4 D (.lst (acc ++ [y])))
    | none => LcInv K Hs D fs (i + 1) H4) e0 (fun H' e hd => ?_) (fun y d H' e hd hy => ?_)
  · exact q
  · refine ⟨n0, e0.trans e, acc, e _ _ hD, ?_, by omega⟩
    rw [List.range_succ, List.filterMap_append]
    simp only [List.filterMap_cons, hd, List.filterMap_nil, List.append_nil]
    exact dpa_mono e _ _ ha
  · refine ⟨acc, e _ _ hD, Nat.lt_of_le_of_lt hl (Nat.lt_trans hi (by decide)), n0, (e0.trans e).mut n0, acc ++ [y], upd_same, ?_, by rw [List.length_append, List.length_singleton]; omega⟩
    have u : Up H' (upd H' D (.lst (acc ++ [y]))) := Up.lst (e _ _ hD)
    rw [List.range_succ, List.filterMap_append]
    simp only [List.filterMap_cons, hd, List.filterMap_nil]
    exact dpa_snoc (dpa_up u _ _ hns (dpa_mono e _ _ ha)) (dp_up u _ _ (hn d hd) hy)
theorem noLs_fm {fs : Nat → Option PyData} {n : Nat} (hn : ∀ i d, fs i = some d → noL d = true) : ∀ l : List Nat, noLs (l.filterMap fs) = true
  | [] => rfl
  | j :: l => by
    rw [List.filterMap_cons]
    cases h : fs j with
    | none => exact noLs_fm (n := n) hn l
    | some d => show (noL d && noLs _) = true; rw [hn j d h, noLs_fm (n := n) hn l]; rfl
/-- what is behind it: a new list of the items given -/
def LcEnd (K : PySem.W.Frag) (Hs : Hp) (ds : List PyData) (Q : VK) : Prop := ∀ D H' acc, Hs D = none → Ex Hs H' → H' D = some (.lst acc) → DpAll K H' acc ds → Q (.ref D) H'
theorem lcR {lo : Int} {n : Nat} {D : Addr} {Q : VK} (fs : Nat → Option PyData) (hn : ∀ i d, fs i = some d → noL d = true) (hz : n < 1000000) (hD : Hs D = none)
    (ht : ∀ i, i < n → TurnOk K g tt te vs σ Hs (.int (lo + i)) (fs i)) (q : LcEnd K Hs ((List.range n).filterMap fs) Q) :
    ∃ W : Nat → Nat → Hp → Prop, (∃ m, W 0 m (upd Hs D (.lst []))) ∧ ∀ i m H, W i m H →
      ((Itr lo n).stop i H ∧ Q (.ref D) H) ∨ ((Itr lo n).go i H ∧ ∃ Nx : Hp → Prop, (∀ H', Nx H' → ∃ m', m' < m ∧ W (i + 1) m' H') ∧ ∀ x H', (Itr lo n).yld i H x H' → g x (wipe σ vs) H' fun σ2 H2 => wipe σ2 vs = wipe σ vs ∧ tt σ2 H2 fun b H3 =>
        if b = true then te σ2 H3 fun y H4 => ∃ acc, H4 D = some (.lst acc) ∧ acc.length < sizeLine ∧ Nx (upd H4 D (.lst (acc ++ [y]))) else Nx H3) :=
  lc_range (LcInv K Hs D fs) ⟨hD, Evl.Ex.new hD, [], upd_same, .nil, Nat.le_refl _⟩ (fun i H hi I => lc_turn (hn i) (noLs_fm (n := 0) hn _) (Nat.lt_trans hi hz) I (ht i hi)) fun H ⟨n0, e0, acc, h1, h2, _⟩ => q D H acc n0 e0 h1 h2
theorem lcL {a : Addr} {xs : List V} {D : Addr} {Q : VK} (fs : Nat → Option PyData) (hn : ∀ i d, fs i = some d → noL d = true) (hz : xs.length < 1000000) (hD : Hs D = none) (hs : SqL K Hs a xs)
    (ht : ∀ i x, xs[i]? = some x → TurnOk K g tt te vs σ Hs x (fs i)) (q : LcEnd K Hs ((List.range xs.length).filterMap fs) Q) :
    ∃ W : Nat → Nat → Hp → Prop, (∃ m, W 0 m (upd Hs D (.lst []))) ∧ ∀ i m H, W i m H →
      ((Itl K a).stop i H ∧ Q (.ref D) H) ∨ ((Itl K a).go i H ∧ ∃ Nx : Hp → Prop, (∀ H', Nx H' → ∃ m', m' < m ∧ W (i + 1) m' H') ∧ ∀ x H', (Itl K a).yld i H x H' → g x (wipe σ vs) H' fun σ2 H2 => wipe σ2 vs = wipe σ vs ∧ tt σ2 H2 fun b H3 =>
        if b = true then te σ2 H3 fun y H4 => ∃ acc, H4 D = some (.lst acc) ∧ acc.length < sizeLine ∧ Nx (upd H4 D (.lst (acc ++ [y]))) else Nx H3) :=
  lc_list (xs := xs) (LcInv K Hs D fs) ⟨hD, Evl.Ex.new hD, [], upd_same, .nil, Nat.le_refl _⟩ (fun i H _ I => Evl.ex_l I.2.1 hs) (fun i x H hi I => lc_turn (hn i) (noLs_fm (n := 0) hn _) (Nat.lt_trans (List.getElem?_eq_some_iff.mp hi).1 hz) I (ht i x hi)) fun H ⟨n0, e0, acc, h1, h2, _⟩ => q D H acc n0 e0 h1 h2
theorem lcT {a : Addr} {xs : List V} {D : Addr} {Q : VK} (fs : Nat → Option PyData) (hn : ∀ i d, fs i = some d → noL d = true) (hz : xs.length < 1000000) (hD : Hs D = none) (hs : SqT K Hs a xs)
    (ht : ∀ i x, xs[i]? = some x → TurnOk K g tt te vs σ Hs x (fs i)) (q : LcEnd K Hs ((List.range xs.length).filterMap fs) Q) :
    ∃ W : Nat → Nat → Hp → Prop, (∃ m, W 0 m (upd Hs D (.lst []))) ∧ ∀ i m H, W i m H →
      ((Itt K a).stop i H ∧ Q (.ref D) H) ∨ ((Itt K a).go i H ∧ ∃ Nx : Hp → Prop, (∀ H', Nx H' → ∃ m', m' < m ∧ W (i + 1) m' H') ∧ ∀ x H', (Itt K a).yld i H x H' → g x (wipe σ vs) H' fun σ2 H2 => wipe σ2 vs = wipe σ vs ∧ tt σ2 H2 fun b H3 =>
        if b = true then te σ2 H3 fun y H4 => ∃ acc, H4 D = some (.lst acc) ∧ acc.length < sizeLine ∧ Nx (upd H4 D (.lst (acc ++ [y]))) else Nx H3) :=
  lc_tup (xs := xs) (LcInv K Hs D fs) ⟨hD, Evl.Ex.new hD, [], upd_same, .nil, Nat.le_refl _⟩ (fun i H _ I => Evl.ex_t I.2.1 hs) (fun i x H hi I => lc_turn (hn i) (noLs_fm (n := 0) hn _) (Nat.lt_trans (List.getElem?_eq_some_iff.mp hi).1 hz) I (ht i x hi)) fun H ⟨n0, e0, acc, h1, h2, _⟩ => q D H acc n0 e0 h1 h2
end

end Fy

namespace Fy
open PySem PySem.Spec PyProof.Rows L2
/-! ### exceptions whose context is None; making an object by slots; defs called while an exception is held -/
theorem zcOf {B : Heap} {l : List Env} {a L : Addr} {cls : Value} {d : Option Addr} {h : Heap} (x : L2.Sky B l a (L2N.Zn cls d) L h) : L2.Sky B l a (L2.Zc cls d) L h := by
  have tr : ∀ {b : Heap} {fl : Value}, HandSPX.TracedZ h b a (L2N.Zn cls d) fl → HandSPX.TracedZ h b a (L2.Zc cls d) fl := fun ⟨oe, vs, T, oT, ts, he, hz, r⟩ => ⟨oe, vs, T, oT, ts, he, hz.zc, r⟩
  rcases x with ⟨h1, h2, h3, oe, vs, h4, h5, h6⟩ | ⟨h1, h2, h3, h4⟩ | ⟨h1, h2, h3, h4⟩
  · exact .inl ⟨h1, h2, h3, oe, vs, h4, h5.zc, h6⟩
  · exact .inr (.inl ⟨h1, h2, h3, tr h4⟩)
  · exact .inr (.inr ⟨h1, h2, h3, tr h4⟩)
theorem takesN {X : Cx} {W : WX} (tk : L2.Takes X W) : L2N.Takes X W := fun u s' ⟨a, B, sI, pn, σ, H, cls, d, e, I, nb, up, sk, r⟩ => tk u s' ⟨a, B, sI, pn, σ, H, cls, d, e, I, nb, up, zcOf sk, r⟩
theorem passN {X : Cx} : Passes (L2N.CX X.prog X.w) X E0 := fun _ _ _ _ _ _ _ ⟨_, _, _, _, _, _, _, _, _, _, _, _, z⟩ => z.elim
theorem takes0N {X : Cx} : L2N.Takes X (fun _ _ _ _ => False) := fun _ _ ⟨_, _, _, _, _, _, _, _, _, _, _, _, _, _, _, _, z⟩ => z.elim
section
variable {X : Cx} {k : Nat} {x m : Str} {ps : List Str} {sp : Sp} {p pos : Pos} {e : Expr} {es : List Expr} {t : TA} {W : WX}
theorem pe_fxN (F : Has X.prog X.w X.K X.mg X.base (L2N.CX X.prog X.w) k x ps sp) (hr : Room k X.A) (hg : Gl X x) (tk : L2N.Takes X W) (ha : PA X (e :: es) t) (hdb : (x == ("__debug__" : Str)) = false := by decide)
    (he : starEach (e :: es) X.env = (false, eval e X.env) :: starEach es X.env := by rfl) (hpl : (backTo pos (starEach es X.env)).any (·.1) = false := by rfl) : PE X (.Call (.Name x p) (e :: es) [] pos) (tCallS sp (WE W) t) := by
  obtain ⟨fd, G, b, kp⟩ := F.ok
  exact pe_callS G hr hg F.g kp b (fun σ => L2N.passAt tk σ) ha hdb he hpl
theorem ps_raiseOwnN {j : Nat} {p2 p3 : Pos} (hc : X.calm = true) (tk : L2N.Takes X W) (q : ExOk X.K (He.ga X.K x)) (gC : X.mg x = some (.ref (He.ga X.K x))) (hg : Gl X x) (hdb : (x == ("__debug__" : Str)) = false := by decide) :
    PS X (.Raise (some (.Call (.Name x p) [.Constant (.str m) j p2] [] p3)) none pos) (fun _ σ H => W (.ref (He.ga X.K x)) none σ H) :=
  L2N.ps_raise hc tk (L2N.pmk_own PySem.F.excBase_ValueError q.ex gC q.kp (raises_own q.sub q.ty) hg hdb)
end
/-! making an own object, what is raised wished for at the slots -/
def tMakeS (C : Addr) (sp : Sp) (E : L2.St → XK) (t : TA) : TE := fun σ H Q => t σ H fun vs H1 => ∀ y dy, H1 y = none → H1 dy = none → dy ≠ y → sp (.ref y :: vs) (upd (upd H1 dy (.own y)) y (.ins C dy [])) (fun v H2 => v = .non ∧ Q (.ref y) H2) (E σ)
section
variable {X : Cx} {CX : CXT} {k : Nat} {f C : Addr} {fd : FuncData} {ps : List Str} {sp : Sp} {E : L2.St → XK} {x : Str} {p pos : Pos} {e : Expr} {es : List Expr} {t : TA}
theorem go_make {pns : List (Addr × Obj)} {σ : L2.St} {H : Hp} {s : Shared} {Q : VK} {us : List Value} {vs : List V} (M : Mk X.K C f) (F : FnOk X.prog X.w X.K X.mg X.base CX k f fd ps sp) (rm : Room (k + 1) X.A) (bd : Binds X.K fd ps []) (px : PassesAt CX X σ (E σ)) (I : Inv X pns σ H s) (rl : Vals vs us)
    (g : ∀ y dy, H y = none → H dy = none → dy ≠ y → sp (.ref y :: vs) (upd (upd H dy (.own y)) y (.ins C dy [])) (fun v H2 => v = .non ∧ Q (.ref y) H2) (E σ)) : wpAny (model X.prog X.w) X.A (call (.ref C) us) (EP X pns σ Q) X.xe s := by
  have sz := s.heap.objs.size
  have g1 := g (s.heap.objs.size + 1) s.heap.objs.size (I.hok.fresh (Nat.le_succ s.heap.objs.size)) (I.hok.fresh (Nat.le_refl s.heap.objs.size)) (fun z => absurd z (Nat.ne_of_lt (Nat.lt_succ_self _)))
  have J := Inv.made (C := C) I
  have rl2 : Vals (V.ref (s.heap.objs.size + 1) :: vs) (Value.ref (s.heap.objs.size + 1) :: us) := .cons rfl rl
  have ln : (Value.ref (s.heap.objs.size + 1) :: us).length = ps.length := rl2.length.symm.trans (F.len _ _ _ _ g1)
  have b1 := bd _ (Value.ref (s.heap.objs.size + 1) :: us) J.kIn (by rw [List.append_nil]; exact ln)
  rw [List.append_nil] at b1
  have w := F.run _ X.stack _ _ ⟨Value.ref (s.heap.objs.size + 1) :: us, []⟩ (Value.ref (s.heap.objs.size + 1) :: us) _ _ (E σ) (rm.make C us []) (J.env0.make C us []) b1 rl2 g1
  refine wpAny_call (make_map (f := f) I.kIn M.makes M.init (beq_iff_eq.mp M.fn) (codeAny_mono w ?_))
  rintro (u | fl) s2 q2
  · exact px pns _ _ u s2 J q2
  · rcases fl with _ | _ | _ | u
    case ret =>
      obtain ⟨v, H3, J3, rv, ev, q3⟩ := J.after q2
      cases ev
      exact ⟨rv, V.ref (s.heap.objs.size + 1), H3, J3, rfl, q3⟩
    all_goals exact False.elim q2
theorem pe_makeS (M : Mk X.K C f) (F : FnOk X.prog X.w X.K X.mg X.base CX k f fd ps sp) (rm : Room (k + 1) X.A) (hg : Gl X x) (hm : X.mg x = some (.ref C)) (bd : Binds X.K fd ps []) (px : ∀ σ, PassesAt CX X σ (E σ)) (ha : PA X (e :: es) t)
    (hdb : (x == ("__debug__" : Str)) = false := by decide) (he : starEach (e :: es) X.env = (false, eval e X.env) :: starEach es X.env := by rfl) (hpl : (backTo pos (starEach es X.env)).any (·.1) = false := by rfl) : PE X (.Call (.Name x p) (e :: es) [] pos) (tMakeS C sp E t) :=
  ⟨fun pns s σ H Q I q => wpAny_Call_Name_kw (ld_glob I hg hm (PySem.W.callWith_K (h₀ := X.base) I.ok.mod.kin M.kp (thn (ha.run pos pns s σ H _ I q) fun us s1 ⟨vs, H1, I1, r, q1⟩ => ⟨I1.kIn, go_make M F rm bd (px σ) I1 r q1⟩) he hpl) hdb)⟩
end

end Fy

namespace Fy
open PySem PySem.Spec PyProof.Rows L2
/-! ### readings by data: a term gives a datum, from any later heap -/
def EvD (K : PySem.W.Frag) (te : TE) (σ : L2.St) (H : Hp) (d : PyData) : Prop := ∀ H1, Ex H H1 → ∀ Q : VK, (∀ v H2, Ex H1 H2 → Dp K H2 v d → Q v H2) → te σ H1 Q
/-- a new list of one's own -/
def EvN (K : PySem.W.Frag) (te : TE) (σ : L2.St) (H : Hp) (ds : List PyData) : Prop := ∀ H1, Ex H H1 → ∀ Q : VK, (∀ v H2, Ex H1 H2 → NewL K H1 v H2 ds → Q v H2) → te σ H1 Q
def EvTD (tt : TT) (σ : L2.St) (H : Hp) (b : Bool) : Prop := Evl.EvT tt σ H b
def EvDs (K : PySem.W.Frag) (ta : TA) (σ : L2.St) (H : Hp) (ds : List PyData) : Prop := ∀ H1, Ex H H1 → ∀ Q : List V → Hp → Prop, (∀ vs H2, Ex H1 H2 → DpAll K H2 vs ds → Q vs H2) → ta σ H1 Q
section
variable {K : PySem.W.Frag} {σ : L2.St} {H H' : Hp} {ta tb tc te : TE} {t u : TT} {d e z : PyData} {ds es : List PyData}
theorem EvD.mono (x : Ex H H') (h : EvD K te σ H d) : EvD K te σ H' d := fun H1 a Q q => h H1 (x.trans a) Q q
theorem EvN.toD (h : EvN K te σ H ds) : EvD K te σ H (.list ds) := fun H1 x Q q => h H1 x Q fun v H2 x2 ⟨p, xs, e, n, h1, h2⟩ => q v H2 x2 (dp_lst.mpr ⟨p, xs, e, SqL.of h1, h2⟩)
theorem EvD.cast (h : EvD K te σ H d) (x : d = e) : EvD K te σ H e := x ▸ h
theorem EvN.cast (h : EvN K te σ H ds) (x : ds = es) : EvN K te σ H es := x ▸ h
theorem ed_var {i : Nat} {v : V} (h : σ[i]? = some (some v)) (hd : Dp K H v d) : EvD K (tVar i) σ H d := fun H1 x _ q => ⟨v, h, q v H1 (Evl.Ex.refl H1) (dp_mono x _ _ hd)⟩
theorem ed_int {i : Int} : EvD K (tC (.int i)) σ H (.int i) := fun H1 _ _ q => q _ H1 (Evl.Ex.refl H1) (.int i)
theorem ed_bl {i : Bool} : EvD K (tC (.bl i)) σ H (.bool i) := fun H1 _ _ q => q _ H1 (Evl.Ex.refl H1) (.bl i)
theorem ed_str {i : Str} : EvD K (tC (.str i)) σ H (.str i) := fun H1 _ _ q => q _ H1 (Evl.Ex.refl H1) (.str i)
theorem ed_non : EvD K (tC .non) σ H .none := fun H1 _ _ q => q _ H1 (Evl.Ex.refl H1) .non
/-- a two-place operation, by data -/
def RD (K : PySem.W.Frag) (r : R2) (d e z : PyData) : Prop := ∀ H x y, Dp K H x d → Dp K H y e → ∀ Q : VK, (∀ v H2, Ex H H2 → Dp K H2 v z → Q v H2) → r x y H Q
theorem ed_op {r : R2} (ha : EvD K ta σ H d) (hb : EvD K tb σ H e) (hr : RD K r d e z) : EvD K (tOp r ta tb) σ H z := fun H1 x Q q =>
  ha H1 x _ fun v1 H2 x2 h1 => hb H2 (x.trans x2) _ fun v2 H3 x3 h2 => hr H3 v1 v2 (dp_mono x3 _ _ h1) h2 Q fun v H4 x4 h => q v H4 ((x2.trans x3).trans x4) h
theorem rd_I0 {g : Int → Int → V} {i j : Int} (hz : ∀ H, Dp K H (g i j) z) : RD K (rI0 g) (.int i) (.int j) z := fun H x y hx hy Q q => ⟨i, j, dp_int.mp hx, dp_int.mp hy, q _ H (Evl.Ex.refl H) (hz H)⟩
theorem rd_I {C : Int → Int → Prop} {g : Int → Int → V} {i j : Int} (hc : C i j) (hz : ∀ H, Dp K H (g i j) z) : RD K (rI C g) (.int i) (.int j) z := fun H x y hx hy Q q => ⟨i, j, dp_int.mp hx, dp_int.mp hy, hc, q _ H (Evl.Ex.refl H) (hz H)⟩
theorem rd_eqI {i j : Int} : RD K rEq (.int i) (.int j) (.bool (decide (i = j))) := fun H x y hx hy Q q => by
  rw [dp_int.mp hx, dp_int.mp hy]
  refine ⟨rfl, ?_⟩
  rw [dec_int, Bool.beq_eq_decide_eq]
  exact q _ H (Evl.Ex.refl H) (.bl _)
theorem rd_neI {i j : Int} : RD K rNe (.int i) (.int j) (.bool (!decide (i = j))) := fun H x y hx hy Q q => by
  rw [dp_int.mp hx, dp_int.mp hy]
  refine ⟨rfl, ?_⟩
  rw [dec_int, Bool.beq_eq_decide_eq]
  exact q _ H (Evl.Ex.refl H) (.bl _)
theorem rd_eqB {i j : Bool} : RD K rEq (.bool i) (.bool j) (.bool (decide (i = j))) := fun H x y hx hy Q q => by
  rw [dp_bl.mp hx, dp_bl.mp hy]
  refine ⟨rfl, ?_⟩
  rw [dec_bl, Bool.beq_eq_decide_eq]
  exact q _ H (Evl.Ex.refl H) (.bl _)
theorem rd_neB {i j : Bool} : RD K rNe (.bool i) (.bool j) (.bool (!decide (i = j))) := fun H x y hx hy Q q => by
  rw [dp_bl.mp hx, dp_bl.mp hy]
  refine ⟨rfl, ?_⟩
  rw [dec_bl, Bool.beq_eq_decide_eq]
  exact q _ H (Evl.Ex.refl H) (.bl _)
theorem rd_eqS {i j : Str} : RD K rEq (.str i) (.str j) (.bool (decide (i = j))) := fun H x y hx hy Q q => by
  rw [dp_str.mp hx, dp_str.mp hy]
  refine ⟨rfl, ?_⟩
  have e : decide (V.str i = V.str j) = decide (i = j) := decide_eq_decide.mpr ⟨fun h => V.str.inj h, fun h => congrArg V.str h⟩
  rw [e]
  exact q _ H (Evl.Ex.refl H) (.bl _)
theorem rd_neS {i j : Str} : RD K rNe (.str i) (.str j) (.bool (!decide (i = j))) := fun H x y hx hy Q q => by
  rw [dp_str.mp hx, dp_str.mp hy]
  refine ⟨rfl, ?_⟩
  have e : decide (V.str i = V.str j) = decide (i = j) := decide_eq_decide.mpr ⟨fun h => V.str.inj h, fun h => congrArg V.str h⟩
  rw [e]
  exact q _ H (Evl.Ex.refl H) (.bl _)
theorem rd_eqD (hd : SeqAt.shaped d = true) (he : SeqAt.shaped e = true) : RD K (rEqD K) d e (.bool (PyData.eqv d e)) := fun H x y hx hy Q q => ⟨d, e, hx, hy, hd, he, q _ H (Evl.Ex.refl H) (.bl _)⟩
theorem rd_neD (hd : SeqAt.shaped d = true) (he : SeqAt.shaped e = true) : RD K (rNeD K) d e (.bool (!PyData.eqv d e)) := fun H x y hx hy Q q => ⟨d, e, hx, hy, hd, he, q _ H (Evl.Ex.refl H) (.bl _)⟩
theorem rd_inT {i : Int} {g : List Int} : RD K (rIn K false) (.int i) (eI g) (.bool (g.contains i)) := fun H x y hx hy Q q => by
  obtain ⟨a, rfl, hg⟩ := dp_eI.mp hy
  rw [dp_int.mp hx]
  refine ⟨a, _, rfl, .inr hg, rfl, flat_ints g, ?_⟩
  rw [if_neg Bool.false_ne_true, inV_ints]
  exact q _ H (Evl.Ex.refl H) (.bl _)
theorem rd_niT {i : Int} {g : List Int} : RD K (rIn K true) (.int i) (eI g) (.bool (!g.contains i)) := fun H x y hx hy Q q => by
  obtain ⟨a, rfl, hg⟩ := dp_eI.mp hy
  rw [dp_int.mp hx]
  refine ⟨a, _, rfl, .inr hg, rfl, flat_ints g, ?_⟩
  rw [if_pos rfl, inV_ints]
  exact q _ H (Evl.Ex.refl H) (.bl _)
theorem rd_inDL (hd : SeqAt.shaped d = true) (he : SeqAt.shaped (.list ds) = true) : RD K (rInD K) d (.list ds) (.bool (ds.any fun z => PyData.eqv z d)) := fun H x y hx hy Q q => ⟨d, ds, hx, hy, hd, he, q _ H (Evl.Ex.refl H) (.bl _)⟩
theorem rd_niDL (hd : SeqAt.shaped d = true) (he : SeqAt.shaped (.list ds) = true) : RD K (rNotInD K) d (.list ds) (.bool (!ds.any fun z => PyData.eqv z d)) := fun H x y hx hy Q q => ⟨d, ds, hx, hy, hd, he, q _ H (Evl.Ex.refl H) (.bl _)⟩
theorem atI_dpa {vs : List V} {i : Int} (h : DpAll K H vs ds) (ha : atI ds i = some d) : ∃ v, atI vs i = some v ∧ Dp K H v d := by
  unfold atI at ha ⊢
  rw [dpa_len h]
  cases hx : ixN ds.length i with
  | none => rw [hx] at ha; cases ha
  | some j =>
    rw [hx] at ha
    exact dpa_get' h ha
theorem rd_ixL {i : Int} (ha : atI ds i = some z) : RD K (rIxL K) (.list ds) (.int i) z := fun H x y hx hy Q q => by
  obtain ⟨a, xs, rfl, h1, h2⟩ := dp_lst.mp hx
  obtain ⟨v, h3, h4⟩ := atI_dpa h2 ha
  exact ⟨a, xs, i, v, rfl, dp_int.mp hy, h1, h3, q v H (Evl.Ex.refl H) h4⟩
theorem rd_ixT {i : Int} (ha : atI ds i = some z) : RD K (rIxT K) (.tuple ds) (.int i) z := fun H x y hx hy Q q => by
  obtain ⟨a, xs, rfl, h1, h2⟩ := dp_tup.mp hx
  obtain ⟨v, h3, h4⟩ := atI_dpa h2 ha
  exact ⟨a, xs, i, v, rfl, dp_int.mp hy, h1, h3, q v H (Evl.Ex.refl H) h4⟩
theorem ed_un {g : Int → V} {i : Int} (ha : EvD K ta σ H (.int i)) (hz : ∀ H, Dp K H (g i) z) : EvD K (tUn (rU g) ta) σ H z := fun H1 x Q q => ha H1 x _ fun v1 H2 x2 h1 => ⟨i, dp_int.mp h1, q _ H2 x2 (hz H2)⟩
theorem ed_chain {i j k : Int} (ha : EvD K ta σ H (.int i)) (hb : EvD K tb σ H (.int j)) (hc : EvD K tc σ H (.int k)) {p p' : Int → Int → Bool} :
    EvD K (tChain (rI0 fun i j => .bl (p i j)) (rI0 fun i j => .bl (p' i j)) ta tb tc) σ H (.bool (p i j && p' j k)) := fun H1 x Q q =>
  ha H1 x _ fun v1 H2 x2 h1 => hb H2 (x.trans x2) _ fun v2 H3 x3 h2 => by
    cases dp_int.mp h1
    cases dp_int.mp h2
    refine ⟨i, j, rfl, rfl, _, rfl, ?_⟩
    cases hp : p i j with
    | false => rw [if_neg Bool.false_ne_true]; rw [hp] at q; exact q _ H3 (x2.trans x3) (.bl false)
    | true =>
      rw [if_pos rfl]
      rw [hp, Bool.true_and] at q
      exact hc H3 ((x.trans x2).trans x3) _ fun v3 H4 x4 h3 => by
        cases dp_int.mp h3
        exact ⟨j, k, rfl, rfl, q _ H4 ((x2.trans x3).trans x4) (.bl _)⟩
theorem eds_nil : EvDs K tNil σ H [] := fun H1 _ _ q => q [] H1 (Evl.Ex.refl H1) .nil
theorem eds_cons {tr : TA} (h : EvD K te σ H d) (hr : EvDs K tr σ H ds) : EvDs K (tCons te tr) σ H (d :: ds) := fun H1 x _ q =>
  h H1 x _ fun v H2 x2 h1 => hr H2 (x.trans x2) _ fun vs H3 x3 h2 => q _ H3 (x2.trans x3) (.cons (dp_mono x3 _ _ h1) h2)
theorem ed_tup {tr : TA} (h : EvDs K tr σ H ds) (hl : ds.length ≤ 100000) : EvD K (tTup tr) σ H (.tuple ds) := fun H1 x _ q =>
  h H1 x _ fun vs H2 x2 h2 => ⟨Evl.sz_of (by rw [dpa_len h2]; exact hl), fun p hp => q _ _ (x2.trans (Evl.Ex.new hp)) (dp_tup.mpr ⟨p, vs, rfl, SqT.of upd_same, dpa_mono (Evl.Ex.new hp) _ _ h2⟩)⟩
theorem en_lst {tr : TA} (h : EvDs K tr σ H ds) (hl : ds.length ≤ 100000) : EvN K (tLst tr) σ H ds := fun H1 x _ q =>
  h H1 x _ fun vs H2 x2 h2 => ⟨Evl.sz_of (by rw [dpa_len h2]; exact hl), fun p hp => q _ _ (x2.trans (Evl.Ex.new hp)) ⟨p, vs, rfl, Evl.fresh_back x2 hp, upd_same, dpa_mono (Evl.Ex.new hp) _ _ h2⟩⟩
/-- a built-in's call, by data -/
def CD (K : PySem.W.Frag) (r : List V → Hp → VK → Prop) (ds : List PyData) (z : PyData) : Prop := ∀ H vs, DpAll K H vs ds → ∀ Q : VK, (∀ v H2, Ex H H2 → Dp K H2 v z → Q v H2) → r vs H Q
def CN (K : PySem.W.Frag) (r : List V → Hp → VK → Prop) (ds : List PyData) (zs : List PyData) : Prop := ∀ H vs, DpAll K H vs ds → ∀ Q : VK, (∀ v H2, Ex H H2 → NewL K H v H2 zs → Q v H2) → r vs H Q
theorem NewL.back {H0 H1 H2 : Hp} {v : V} (x : Ex H0 H1) (h : NewL K H1 v H2 ds) : NewL K H0 v H2 ds := by
  obtain ⟨p, xs, e, n, h1, h2⟩ := h
  exact ⟨p, xs, e, Evl.fresh_back x n, h1, h2⟩
theorem NewL.dp {H0 : Hp} {v : V} (h : NewL K H0 v H ds) : Dp K H v (.list ds) := by
  obtain ⟨p, xs, e, n, h1, h2⟩ := h
  exact dp_lst.mpr ⟨p, xs, e, SqL.of h1, h2⟩
theorem ed_cb {r : List V → Hp → VK → Prop} {tr : TA} (h : EvDs K tr σ H ds) (hr : CD K r ds z) : EvD K (tCB r tr) σ H z := fun H1 x Q q =>
  h H1 x _ fun vs H2 x2 h2 => hr H2 vs h2 Q fun v H3 x3 h3 => q v H3 (x2.trans x3) h3
theorem en_cb {r : List V → Hp → VK → Prop} {tr : TA} (h : EvDs K tr σ H ds) (hr : CN K r ds es) : EvN K (tCB r tr) σ H es := fun H1 x Q q =>
  h H1 x _ fun vs H2 x2 h2 => hr H2 vs h2 Q fun v H3 x3 h3 => q v H3 (x2.trans x3) (h3.back x2)
abbrev rLenQ (K : PySem.W.Frag) : List V → Hp → VK → Prop := fun xs H Q => ∃ p ys, xs = [.ref p] ∧ (SqL K H p ys ∨ SqT K H p ys) ∧ Q (.int ys.length) H
theorem cd_lenL : CD K (rLenQ K) [.list ds] (.int ds.length) := fun H vs h Q q => by
  cases h with
  | cons h1 h2 =>
    cases h2
    obtain ⟨a, xs, rfl, h3, h4⟩ := dp_lst.mp h1
    refine ⟨a, xs, rfl, .inl h3, ?_⟩
    rw [dpa_len h4]
    exact q _ H (Evl.Ex.refl H) (.int _)
theorem cd_lenT : CD K (rLenQ K) [.tuple ds] (.int ds.length) := fun H vs h Q q => by
  cases h with
  | cons h1 h2 =>
    cases h2
    obtain ⟨a, xs, rfl, h3, h4⟩ := dp_tup.mp h1
    refine ⟨a, xs, rfl, .inr h3, ?_⟩
    rw [dpa_len h4]
    exact q _ H (Evl.Ex.refl H) (.int _)
theorem cd_lenI {g : List Int} : CD K (rLenQ K) [eI g] (.int g.length) := by
  have h := cd_lenT (K := K) (ds := g.map .int)
  rw [List.length_map] at h
  exact h
abbrev rTupQ (K : PySem.W.Frag) : List V → Hp → VK → Prop := fun xs H Q => ∃ p ys, xs = [.ref p] ∧ ((SqL K H p ys ∧ ∀ l, H l = none → Q (.ref l) (upd H l (.tup ys))) ∨ (SqT K H p ys ∧ Q (.ref p) H))
theorem cd_tupL : CD K (rTupQ K) [.list ds] (.tuple ds) := fun H vs h Q q => by
  cases h with
  | cons h1 h2 =>
    cases h2
    obtain ⟨a, xs, rfl, h3, h4⟩ := dp_lst.mp h1
    exact ⟨a, xs, rfl, .inl ⟨h3, fun l hl => q _ _ (Evl.Ex.new hl) (dp_tup.mpr ⟨l, xs, rfl, SqT.of upd_same, dpa_mono (Evl.Ex.new hl) _ _ h4⟩)⟩⟩
abbrev rListQ (K : PySem.W.Frag) : List V → Hp → VK → Prop := fun xs H Q => ∃ p ys, xs = [.ref p] ∧ (SqL K H p ys ∨ SqT K H p ys) ∧ ∀ l, H l = none → Q (.ref l) (upd H l (.lst ys))
theorem cn_listL : CN K (rListQ K) [.list ds] ds := fun H vs h Q q => by
  cases h with
  | cons h1 h2 =>
    cases h2
    obtain ⟨a, xs, rfl, h3, h4⟩ := dp_lst.mp h1
    exact ⟨a, xs, rfl, .inl h3, fun l hl => q _ _ (Evl.Ex.new hl) ⟨l, xs, rfl, hl, upd_same, dpa_mono (Evl.Ex.new hl) _ _ h4⟩⟩
/-- isinstance(x, T), T built-in -/
def tyN : PyData → String
  | .none => "NoneType"
  | .bool _ => "bool"
  | .int _ => "int"
  | .str _ => "str"
  | .list _ => "list"
  | .tuple _ => "tuple"
  | .dict _ => "dict"
theorem tyx_L {a : Addr} {xs : List V} (h : SqL K H a xs) : TyX K H (.ref a) (.type "list") := by
  rcases h with (h | ⟨o, h⟩) | ⟨o, its, n, hk, hc, _⟩
  · exact .base (.lst h)
  · exact .base (.frz h)
  · exact .kList hk hc
theorem tyx_T {a : Addr} {xs : List V} (h : SqT K H a xs) : TyX K H (.ref a) (.type "tuple") := by
  rcases h with (h | ⟨o, h⟩) | ⟨o, its, n, hk, hc, _⟩
  · exact .base (.tup h)
  · exact .fTuple h
  · exact .kTuple hk hc
theorem dp_tyx {v : V} : ∀ {d : PyData}, Dp K H v d → TyX K H v (.type (tyN d))
  | .none, h => by cases h; exact .base .non
  | .bool b, h => by cases h; exact .base (.bl b)
  | .int i, h => by cases h; exact .base (.int i)
  | .str x, h => by cases h; exact .base (.str x)
  | .list ds, h => by
    obtain ⟨a, xs, rfl, h1, _⟩ := dp_lst.mp h
    exact tyx_L h1
  | .tuple ds, h => by
    obtain ⟨a, xs, rfl, h1, _⟩ := dp_tup.mp h
    exact tyx_T h1
  | .dict _, h => by cases h
/-- a call of isinstance upon a built-in class -/
def isT (T : String) : PyData → Bool
  | .none => T == "NoneType"
  | .bool _ => T == "bool" || T == "int"
  | .int _ => T == "int"
  | .str _ => T == "str"
  | .list _ => T == "list"
  | .tuple _ => T == "tuple"
  | .dict _ => T == "dict"
theorem kb_int : ∀ d, kitB (tyN d) "int" = some (isT "int" d)
  | .none => by show kitB "NoneType" "int" = some false; decide +kernel
  | .bool _ => by show kitB "bool" "int" = some true; decide +kernel
  | .int _ => by show kitB "int" "int" = some true; decide +kernel
  | .str _ => by show kitB "str" "int" = some false; decide +kernel
  | .list _ => by show kitB "list" "int" = some false; decide +kernel
  | .tuple _ => by show kitB "tuple" "int" = some false; decide +kernel
  | .dict _ => by show kitB "dict" "int" = some false; decide +kernel
theorem kb_bool : ∀ d, kitB (tyN d) "bool" = some (isT "bool" d)
  | .none => by show kitB "NoneType" "bool" = some false; decide +kernel
  | .bool _ => by show kitB "bool" "bool" = some true; decide +kernel
  | .int _ => by show kitB "int" "bool" = some false; decide +kernel
  | .str _ => by show kitB "str" "bool" = some false; decide +kernel
  | .list _ => by show kitB "list" "bool" = some false; decide +kernel
  | .tuple _ => by show kitB "tuple" "bool" = some false; decide +kernel
  | .dict _ => by show kitB "dict" "bool" = some false; decide +kernel
theorem kb_list : ∀ d, kitB (tyN d) "list" = some (isT "list" d)
  | .none => by show kitB "NoneType" "list" = some false; decide +kernel
  | .bool _ => by show kitB "bool" "list" = some false; decide +kernel
  | .int _ => by show kitB "int" "list" = some false; decide +kernel
  | .str _ => by show kitB "str" "list" = some false; decide +kernel
  | .list _ => by show kitB "list" "list" = some true; decide +kernel
  | .tuple _ => by show kitB "tuple" "list" = some false; decide +kernel
  | .dict _ => by show kitB "dict" "list" = some false; decide +kernel
theorem kb_tuple : ∀ d, kitB (tyN d) "tuple" = some (isT "tuple" d)
  | .none => by show kitB "NoneType" "tuple" = some false; decide +kernel
  | .bool _ => by show kitB "bool" "tuple" = some false; decide +kernel
  | .int _ => by show kitB "int" "tuple" = some false; decide +kernel
  | .str _ => by show kitB "str" "tuple" = some false; decide +kernel
  | .list _ => by show kitB "list" "tuple" = some false; decide +kernel
  | .tuple _ => by show kitB "tuple" "tuple" = some true; decide +kernel
  | .dict _ => by show kitB "dict" "tuple" = some false; decide +kernel
theorem kb_str : ∀ d, kitB (tyN d) "str" = some (isT "str" d)
  | .none => by show kitB "NoneType" "str" = some false; decide +kernel
  | .bool _ => by show kitB "bool" "str" = some false; decide +kernel
  | .int _ => by show kitB "int" "str" = some false; decide +kernel
  | .str _ => by show kitB "str" "str" = some true; decide +kernel
  | .list _ => by show kitB "list" "str" = some false; decide +kernel
  | .tuple _ => by show kitB "tuple" "str" = some false; decide +kernel
  | .dict _ => by show kitB "dict" "str" = some false; decide +kernel
theorem ed_isi {T : String} {b : Bool} (h : EvD K te σ H d) (hb : kitB (tyN d) T = some b) : EvD K (tCB (rIsi K) (tCons te (tCons (tC (.ty T)) tNil))) σ H (.bool b) := fun H1 x _ q =>
  h H1 x _ fun v H2 x2 h1 => ⟨v, .ty T, _, _, b, rfl, .ty T, dp_tyx h1, kit_ty hb, q _ H2 x2 (.bl b)⟩
theorem ed_isiI (h : EvD K te σ H d) : EvD K (tCB (rIsi K) (tCons te (tCons (tC (.ty "int")) tNil))) σ H (.bool (isT "int" d)) := ed_isi h (kb_int d)
theorem ed_isiB (h : EvD K te σ H d) : EvD K (tCB (rIsi K) (tCons te (tCons (tC (.ty "bool")) tNil))) σ H (.bool (isT "bool" d)) := ed_isi h (kb_bool d)
theorem ed_isiL (h : EvD K te σ H d) : EvD K (tCB (rIsi K) (tCons te (tCons (tC (.ty "list")) tNil))) σ H (.bool (isT "list" d)) := ed_isi h (kb_list d)
theorem ed_isiT (h : EvD K te σ H d) : EvD K (tCB (rIsi K) (tCons te (tCons (tC (.ty "tuple")) tNil))) σ H (.bool (isT "tuple" d)) := ed_isi h (kb_tuple d)
theorem ed_isiS (h : EvD K te σ H d) : EvD K (tCB (rIsi K) (tCons te (tCons (tC (.ty "str")) tNil))) σ H (.bool (isT "str" d)) := ed_isi h (kb_str d)
/-! calls of one's own defs -/
/-- a promise told by data: x stands for the arguments -/
def spP (K : PySem.W.Frag) {α : Type} (dom : α → Prop) (enc : α → List PyData) (out : α → PyData) : Sp := fun vs H Q _ => ∃ x : α, dom x ∧ DpAll K H vs (enc x) ∧ RetR (fun v H' => Dp K H' v (out x)) H Q
def spL (K : PySem.W.Frag) {α : Type} (dom : α → Prop) (enc : α → List PyData) (out : α → List PyData) : Sp := fun vs H Q _ => ∃ x : α, dom x ∧ DpAll K H vs (enc x) ∧ RetR (fun v H' => NewL K H v H' (out x)) H Q
theorem spP.len {α : Type} {dom : α → Prop} {enc : α → List PyData} {out : α → PyData} {n : Nat} (hn : ∀ x, (enc x).length = n) {vs : List V} {Q : VK} {E : XK} (h : spP K dom enc out vs H Q E) : vs.length = n := by
  obtain ⟨x, _, h1, _⟩ := h
  rw [dpa_len h1, hn]
theorem spL.len {α : Type} {dom : α → Prop} {enc : α → List PyData} {out : α → List PyData} {n : Nat} (hn : ∀ x, (enc x).length = n) {vs : List V} {Q : VK} {E : XK} (h : spL K dom enc out vs H Q E) : vs.length = n := by
  obtain ⟨x, _, h1, _⟩ := h
  rw [dpa_len h1, hn]
theorem ed_call {α : Type} {dom : α → Prop} {enc : α → List PyData} {out : α → PyData} {E : XK} {tr : TA} (x : α) (hx : dom x) (h : EvDs K tr σ H (enc x)) : EvD K (tCall (spP K dom enc out) [] E tr) σ H (out x) := fun H1 e Q q =>
  h H1 e _ fun vs H2 x2 h2 => ⟨x, hx, by rw [List.append_nil]; exact h2, fun v H3 x3 h3 => q v H3 (x2.trans x3) h3⟩
theorem en_call {α : Type} {dom : α → Prop} {enc : α → List PyData} {out : α → List PyData} {E : XK} {tr : TA} (x : α) (hx : dom x) (h : EvDs K tr σ H (enc x)) : EvN K (tCall (spL K dom enc out) [] E tr) σ H (out x) := fun H1 e Q q =>
  h H1 e _ fun vs H2 x2 h2 => ⟨x, hx, by rw [List.append_nil]; exact h2, fun v H3 x3 h3 => q v H3 (x2.trans x3) (h3.back x2)⟩
/-! tests -/
theorem et_d {b : Bool} (h : EvD K te σ H (.bool b)) : Evl.EvT (tTest te) σ H b := fun H1 x _ q => h H1 x _ fun v H2 x2 h1 => ⟨b, dp_bl.mp h1, q H2 x2⟩
theorem et_dB {b : Bool} (h : EvD K te σ H (.bool b)) : Evl.EvT (tB te) σ H b := fun H1 x _ q => h H1 x _ fun v H2 x2 h1 => ⟨b, dp_bl.mp h1, q H2 x2⟩
theorem et_and1 {a b : Bool} (h1 : Evl.EvT t σ H a) (h2 : Evl.EvT u σ H b) : Evl.EvT (tAnd t u) σ H (a && b) := Evl.et_and h1 fun _ => h2
theorem et_or1 {a b : Bool} (h1 : Evl.EvT t σ H a) (h2 : Evl.EvT u σ H b) : Evl.EvT (tOr t u) σ H (a || b) := Evl.et_or h1 fun _ => h2
theorem ed_andV {a b : Bool} (h1 : EvD K ta σ H (.bool a)) (h2 : a = true → EvD K tb σ H (.bool b)) : EvD K (tAndV ta tb) σ H (.bool (a && b)) := fun H1 x Q q => h1 H1 x _ fun v H2 x2 hv => ⟨a, dp_bl.mp hv, by
  cases a with
  | true => rw [if_pos rfl]; exact h2 rfl H2 (x.trans x2) Q fun v H3 x3 h3 => q v H3 (x2.trans x3) h3
  | false => rw [if_neg Bool.false_ne_true]; exact q _ H2 x2 (.bl false)⟩
theorem ed_orV {a b : Bool} (h1 : EvD K ta σ H (.bool a)) (h2 : a = false → EvD K tb σ H (.bool b)) : EvD K (tOrV ta tb) σ H (.bool (a || b)) := fun H1 x Q q => h1 H1 x _ fun v H2 x2 hv => ⟨a, dp_bl.mp hv, by
  cases a with
  | false => rw [if_neg Bool.false_ne_true]; exact h2 rfl H2 (x.trans x2) Q fun v H3 x3 h3 => q v H3 (x2.trans x3) h3
  | true => rw [if_pos rfl]; exact q _ H2 x2 (.bl true)⟩
theorem ed_notV {a : Bool} (h1 : EvD K ta σ H (.bool a)) : EvD K (tNotV ta) σ H (.bool (!a)) := fun H1 x Q q => h1 H1 x _ fun v H2 x2 hv => ⟨a, dp_bl.mp hv, q _ H2 x2 (.bl _)⟩
/-! statements, something behind -/
variable {D : Ends} {tu tw tz : TS}
theorem w_asg {i : Nat} (h : EvD K te σ H d) (k : ∀ v H1, Ex H H1 → Dp K H1 v d → tz D (σ.set i (some v)) H1) : tSeq (tAsg te (gName i)) tz D σ H := h H (Evl.Ex.refl H) _ fun v H1 x hv => k v H1 x hv
theorem w_asgN {i : Nat} (h : EvN K te σ H ds) (k : ∀ v H1, Ex H H1 → NewL K H v H1 ds → tz D (σ.set i (some v)) H1) : tSeq (tAsg te (gName i)) tz D σ H := h H (Evl.Ex.refl H) _ fun v H1 x hv => k v H1 x hv
theorem w_asg1 {i : Nat} (h : EvD K te σ H d) (k : ∀ v H1, Ex H H1 → Dp K H1 v d → D.nx (σ.set i (some v)) H1) : tAsg te (gName i) D σ H := h H (Evl.Ex.refl H) _ fun v H1 x hv => k v H1 x hv
theorem w_ret1 (h : EvD K te σ H d) (k : ∀ v H1, Ex H H1 → Dp K H1 v d → D.rt v H1) : tRet te D σ H := h H (Evl.Ex.refl H) _ k
theorem w_retN1 (h : EvN K te σ H ds) (k : ∀ v H1, Ex H H1 → NewL K H v H1 ds → D.rt v H1) : tRet te D σ H := h H (Evl.Ex.refl H) _ k
theorem w_ret (h : EvD K te σ H d) (k : RetR (fun v H' => Dp K H' v d) H D.rt) : tRet te D σ H := h H (Evl.Ex.refl H) _ fun v H1 x hv => k v H1 x hv
theorem w_retN (h : EvN K te σ H ds) (k : RetR (fun v H' => NewL K H v H' ds) H D.rt) : tRet te D σ H := h H (Evl.Ex.refl H) _ fun v H1 x hv => k v H1 x hv
/-! comprehensions -/
theorem turn_of {tt : TT} {vs : List Nat} {j : Nat} {x : V} {b : Bool} (hw : wipe ((wipe σ vs).set j (some x)) vs = wipe σ vs) (ht : Evl.EvT tt ((wipe σ vs).set j (some x)) H b) (he : b = true → EvD K te ((wipe σ vs).set j (some x)) H d) :
    TurnOk K (gName j) tt te vs σ H x (if b = true then some d else none) := by
  intro H1 C x1 c0 c1
  refine ⟨hw, ht H1 x1 _ fun H2 x2 => ?_⟩
  cases b with
  | false => rw [if_neg Bool.false_ne_true]; exact c0 H2 x2 (if_neg Bool.false_ne_true)
  | true => rw [if_pos rfl]; exact he rfl H2 (x1.trans x2) _ fun v H3 x3 h3 => c1 v d H3 (x2.trans x3) (if_pos rfl) h3
theorem turn_all {vs : List Nat} {j : Nat} {x : V} (hw : wipe ((wipe σ vs).set j (some x)) vs = wipe σ vs) (he : EvD K te ((wipe σ vs).set j (some x)) H d) :
    TurnOk K (gName j) tYes te vs σ H x (some d) := by
  intro H1 C x1 c0 c1
  refine ⟨hw, ?_⟩
  show if true = true then te ((wipe σ vs).set j (some x)) H1 (fun y H4 => C (some y) H4) else C none H1
  rw [if_pos rfl]
  exact he H1 x1 _ fun v H3 x3 h3 => c1 v d H3 x3 rfl h3
theorem TurnOk.mono {g : TG} {tt : TT} {vs : List Nat} {x : V} {o : Option PyData} (e : Ex H H') (h : TurnOk K g tt te vs σ H x o) : TurnOk K g tt te vs σ H' x o := fun H1 C x1 c0 c1 => h H1 C (e.trans x1) c0 c1
theorem en_lcR {g : TG} {tt : TT} {ta : TA} {vs : List Nat} {n : Int} (fs : Nat → Option PyData) (hn : ∀ i d, fs i = some d → noL d = true) (h : EvDs K ta σ H [.int n]) (h0 : 0 ≤ n) (hz : n ≤ 100000)
    (ht : ∀ i : Nat, (i : Int) < n → TurnOk K g tt te vs σ H (.int (i : Int)) (fs i)) : EvN K (tLc (iRng1 ta) g tt te vs) σ H ((List.range n.toNat).filterMap fs) := fun H1 x Q q =>
  h H1 x _ fun us H2 x2 h2 => by
    cases h2 with
    | cons h3 h4 =>
      cases h4
      cases dp_int.mp h3
      refine ⟨n, rfl, by omega, by omega, fun D hD => lcR (lo := 0) (n := n.toNat) fs hn (by omega) hD (fun i hi => ?_) fun D' H' acc n0 e0 h1 h2 => q _ H' (x2.trans e0) ⟨D', acc, rfl, Evl.fresh_back x2 n0, h1, h2⟩⟩
      have z := (ht i (by omega)).mono (x.trans x2)
      rw [Int.zero_add]
      exact z
theorem en_lcL {g : TG} {tt : TT} {tl : TE} {vs : List Nat} (fs : Nat → Option PyData) (hn : ∀ i d, fs i = some d → noL d = true) (h : EvD K tl σ H (.list ds)) (hz : ds.length ≤ 100000)
    (ht : ∀ (i : Nat) (d : PyData), ds[i]? = some d → ∀ x H1, Ex H H1 → Dp K H1 x d → TurnOk K g tt te vs σ H1 x (fs i)) : EvN K (tLc (iList K tl) g tt te vs) σ H ((List.range ds.length).filterMap fs) := fun H1 x Q q =>
  h H1 x _ fun v H2 x2 h2 => by
    obtain ⟨a, xs, rfl, h3, h4⟩ := dp_lst.mp h2
    have hl := dpa_len h4
    refine ⟨a, rfl, ⟨xs, h3⟩, fun D hD => lcL (xs := xs) fs hn (by omega) hD h3 (fun i y hy => ?_) fun D' H' acc n0 e0 h1 h2 => q _ H' (x2.trans e0) ⟨D', acc, rfl, Evl.fresh_back x2 n0, h1, by rw [← hl]; exact h2⟩⟩
    obtain ⟨d, hd, hdy⟩ := dpa_get h4 hy
    exact ht i d hd y H2 (x.trans x2) hdy
theorem en_lcT {g : TG} {tt : TT} {tl : TE} {vs : List Nat} (fs : Nat → Option PyData) (hn : ∀ i d, fs i = some d → noL d = true) (h : EvD K tl σ H (.tuple ds)) (hz : ds.length ≤ 100000)
    (ht : ∀ (i : Nat) (d : PyData), ds[i]? = some d → ∀ x H1, Ex H H1 → Dp K H1 x d → TurnOk K g tt te vs σ H1 x (fs i)) : EvN K (tLc (iTup K tl) g tt te vs) σ H ((List.range ds.length).filterMap fs) := fun H1 x Q q =>
  h H1 x _ fun v H2 x2 h2 => by
    obtain ⟨a, xs, rfl, h3, h4⟩ := dp_tup.mp h2
    have hl := dpa_len h4
    refine ⟨a, rfl, ⟨xs, h3⟩, fun D hD => lcT (xs := xs) fs hn (by omega) hD h3 (fun i y hy => ?_) fun D' H' acc n0 e0 h1 h2 => q _ H' (x2.trans e0) ⟨D', acc, rfl, Evl.fresh_back x2 n0, h1, by rw [← hl]; exact h2⟩⟩
    obtain ⟨d, hd, hdy⟩ := dpa_get h4 hy
    exact ht i d hd y H2 (x.trans x2) hdy
end

end Fy

namespace Fy
open PySem PySem.Spec PyProof.Rows L2
/-! ### what a night is, in plain Lean -/
structure Nt where
  things : List (Int × Bool)
  room : Int
  quarrels : List (Int × Int × Int)
def paceOk (t : Int × Bool) : Bool := decide (1 ≤ t.1 ∧ t.1 ≤ 1000000000)
def thingsOk (ts : List (Int × Bool)) : Bool := decide (1 ≤ ts.length ∧ ts.length ≤ 6) && ts.all paceOk
def roomOk (r : Int) : Bool := decide (1 ≤ r ∧ r ≤ 3)
def quarrelIn (many : Int) (q : Int × Int × Int) : Bool := decide (0 ≤ q.1 ∧ q.1 < many) && (decide (0 ≤ q.2.1 ∧ q.2.1 < many) && decide (-1 ≤ q.2.2 ∧ q.2.2 < many))
def quarrelTwo (q : Int × Int × Int) : Bool := decide (q.1 = q.2.1) || (decide (q.2.2 = q.1) || decide (q.2.2 = q.2.1))
def quarrelOk (many : Int) (q : Int × Int × Int) : Bool := quarrelIn many q && !quarrelTwo q
def quarrelsOk (many : Int) (qs : List (Int × Int × Int)) : Bool := decide (qs.length ≤ 30) && qs.all (quarrelOk many)
def Nt.ok (n : Nt) : Bool := thingsOk n.things && (roomOk n.room && quarrelsOk n.things.length n.quarrels)
/-- lo, lo + 1, .. as ints -/
def rng (n : Nat) : List Int := (List.range n).map fun i : Nat => (i : Int)
def atWar (g : List Int) (q : Int × Int × Int) : Bool := g.contains q.1 && (g.contains q.2.1 && !g.contains q.2.2)
def peace (qs : List (Int × Int × Int)) (g : List Int) : Bool := qs.all fun q => !atWar g q
def restOf (g : List Int) (many : Nat) : List Int := (rng many).filter fun t => !g.contains t
theorem rng_len (n : Nat) : (rng n).length = n := by simp [rng]
theorem mem_rng {n : Nat} {i : Int} : i ∈ rng n ↔ 0 ≤ i ∧ i < n := by
  simp only [rng, List.mem_map, List.mem_range]
  constructor
  · rintro ⟨a, h, rfl⟩; omega
  · intro h; exact ⟨i.toNat, by omega, by omega⟩
theorem rng_get {n i : Nat} (h : i < n) : (rng n)[i]? = some (i : Int) := by
  simp [rng, h]
/-- a list met by its places -/
theorem fm_range_map {α : Type} (xs : List α) : (List.range xs.length).filterMap (fun i => xs[i]?) = xs := by
  induction xs with
  | nil => rfl
  | cons a r ih =>
    rw [List.length_cons, List.range_succ_eq_map, List.filterMap_cons]
    simp only [List.getElem?_cons_zero, List.filterMap_map]
    have e : ((fun i => (a :: r)[i]?) ∘ Nat.succ) = fun i => r[i]? := by funext i; simp
    rw [e, ih]
theorem fm_range {α β : Type} (xs : List α) (f : α → Option β) : (List.range xs.length).filterMap (fun i => (xs[i]?).bind f) = xs.filterMap f := by
  have h : (List.range xs.length).filterMap (fun i => (xs[i]?).bind f) = ((List.range xs.length).filterMap (fun i => xs[i]?)).filterMap f := by
    rw [List.filterMap_filterMap]
  rw [h, fm_range_map]
theorem fm_ints (n : Nat) (p : Int → Bool) : (List.range n).filterMap (fun i : Nat => if p (i : Int) = true then some (PyData.int (i : Int)) else none) = ((rng n).filter p).map PyData.int := by
  unfold rng
  induction List.range n with
  | nil => rfl
  | cons a r ih =>
    rw [List.filterMap_cons, List.map_cons, List.filter_cons]
    by_cases h : p (a : Int) = true
    · rw [if_pos h, if_pos h]; simp [ih]
    · rw [if_neg h, if_neg h]; simpa using ih

end Fy

namespace Fy
open PySem PySem.Spec PyProof.Rows L2
/-! guards: a form is met by its head alone -/
section
variable {K : PySem.W.Frag} {σ : L2.St} {H : Hp} {ta tb tc te : TE} {t u : TT} {d e z : PyData} {ds : List PyData} {b : Bool} {v : V} {i : Nat} {r r' : R2} {tr : TA}
theorem i_C (h : EvD K (tC v) σ H d) : EvD K (tC v) σ H d := h
theorem i_Var (h : EvD K (tVar i) σ H d) : EvD K (tVar i) σ H d := h
theorem i_Op (h : EvD K (tOp r ta tb) σ H d) : EvD K (tOp r ta tb) σ H d := h
theorem i_Chain (h : EvD K (tChain r r' ta tb tc) σ H d) : EvD K (tChain r r' ta tb tc) σ H d := h
theorem i_Isi {K' : PySem.W.Frag} (h : EvD K (tCB (rIsi K') tr) σ H d) : EvD K (tCB (rIsi K') tr) σ H d := h
theorem i_IsiI {K' : PySem.W.Frag} (h : EvD K (tCB (rIsi K') (tCons te (tCons (tC (.ty "int")) tNil))) σ H d) : EvD K (tCB (rIsi K') (tCons te (tCons (tC (.ty "int")) tNil))) σ H d := h
theorem i_IsiB {K' : PySem.W.Frag} (h : EvD K (tCB (rIsi K') (tCons te (tCons (tC (.ty "bool")) tNil))) σ H d) : EvD K (tCB (rIsi K') (tCons te (tCons (tC (.ty "bool")) tNil))) σ H d := h
theorem i_IsiL {K' : PySem.W.Frag} (h : EvD K (tCB (rIsi K') (tCons te (tCons (tC (.ty "list")) tNil))) σ H d) : EvD K (tCB (rIsi K') (tCons te (tCons (tC (.ty "list")) tNil))) σ H d := h
theorem i_IsiT {K' : PySem.W.Frag} (h : EvD K (tCB (rIsi K') (tCons te (tCons (tC (.ty "tuple")) tNil))) σ H d) : EvD K (tCB (rIsi K') (tCons te (tCons (tC (.ty "tuple")) tNil))) σ H d := h
theorem i_IsiS {K' : PySem.W.Frag} (h : EvD K (tCB (rIsi K') (tCons te (tCons (tC (.ty "str")) tNil))) σ H d) : EvD K (tCB (rIsi K') (tCons te (tCons (tC (.ty "str")) tNil))) σ H d := h
theorem i_CB {rr : List V → Hp → VK → Prop} (h : EvD K (tCB rr tr) σ H d) : EvD K (tCB rr tr) σ H d := h
theorem i_Un {rr : V → Hp → VK → Prop} (h : EvD K (tUn rr ta) σ H d) : EvD K (tUn rr ta) σ H d := h
theorem i_Tup (h : EvD K (tTup tr) σ H d) : EvD K (tTup tr) σ H d := h
theorem i_AndV (h : EvD K (tAndV ta tb) σ H d) : EvD K (tAndV ta tb) σ H d := h
theorem i_OrV (h : EvD K (tOrV ta tb) σ H d) : EvD K (tOrV ta tb) σ H d := h
theorem i_NotV (h : EvD K (tNotV ta) σ H d) : EvD K (tNotV ta) σ H d := h
theorem i_Call {sp : Sp} {dvs : List V} {E : XK} (h : EvD K (tCall sp dvs E tr) σ H d) : EvD K (tCall sp dvs E tr) σ H d := h
theorem i_Nil (h : EvDs K tNil σ H ds) : EvDs K tNil σ H ds := h
theorem i_Cons (h : EvDs K (tCons ta tr) σ H ds) : EvDs K (tCons ta tr) σ H ds := h
theorem i_I0 {g : Int → Int → V} (h : RD K (rI0 g) d e z) : RD K (rI0 g) d e z := h
theorem i_I {C : Int → Int → Prop} {g : Int → Int → V} (h : RD K (rI C g) d e z) : RD K (rI C g) d e z := h
theorem i_Eq (h : RD K rEq d e z) : RD K rEq d e z := h
theorem i_Ne (h : RD K rNe d e z) : RD K rNe d e z := h
theorem i_In {K' : PySem.W.Frag} {n : Bool} (h : RD K (rIn K' n) d e z) : RD K (rIn K' n) d e z := h
theorem i_IxL {K' : PySem.W.Frag} (h : RD K (rIxL K') d e z) : RD K (rIxL K') d e z := h
theorem i_IxT {K' : PySem.W.Frag} (h : RD K (rIxT K') d e z) : RD K (rIxT K') d e z := h
/-- a test, told with K -/
def EvB (_ : PySem.W.Frag) (t : TT) (σ : L2.St) (H : Hp) (b : Bool) : Prop := Evl.EvT t σ H b
theorem i_Test (h : EvB K (tTest te) σ H b) : EvB K (tTest te) σ H b := h
theorem i_B (h : EvB K (tB te) σ H b) : EvB K (tB te) σ H b := h
theorem i_Not (h : EvB K (tNot t) σ H b) : EvB K (tNot t) σ H b := h
theorem i_And (h : EvB K (tAnd t u) σ H b) : EvB K (tAnd t u) σ H b := h
theorem i_Or (h : EvB K (tOr t u) σ H b) : EvB K (tOr t u) σ H b := h
theorem eb_d (h : EvD K te σ H (.bool b)) : EvB K (tTest te) σ H b := et_d h
theorem eb_dB (h : EvD K te σ H (.bool b)) : EvB K (tB te) σ H b := et_dB h
theorem eb_not (h : EvB K t σ H b) : EvB K (tNot t) σ H (!b) := Evl.et_not h
theorem eb_and {c : Bool} (h1 : EvB K t σ H b) (h2 : b = true → EvB K u σ H c) : EvB K (tAnd t u) σ H (b && c) := Evl.et_and h1 h2
theorem eb_or {c : Bool} (h1 : EvB K t σ H b) (h2 : b = false → EvB K u σ H c) : EvB K (tOr t u) σ H (b || c) := Evl.et_or h1 h2
variable {D : Ends} {tu tw tz : TS}
theorem w_if (K : PySem.W.Frag) (h : EvB K t σ H b) (h1 : b = true → ∀ H1, Ex H H1 → tu { D with nx := tz D } σ H1) (h2 : b = false → ∀ H1, Ex H H1 → tw { D with nx := tz D } σ H1) : tSeq (tIfS t tu tw) tz D σ H := Evl.q_if h h1 h2
theorem w_when (K : PySem.W.Frag) (h : EvB K t σ H b) (h1 : b = true → ∀ H1, Ex H H1 → tu { D with nx := tz D } σ H1) (h2 : b = false → ∀ H1, Ex H H1 → tz D σ H1) : tSeq (tIfS t tu tNext) tz D σ H := Evl.q_when h h1 h2
theorem w_if1 (K : PySem.W.Frag) (h : EvB K t σ H b) (h1 : b = true → ∀ H1, Ex H H1 → tu D σ H1) (h2 : b = false → ∀ H1, Ex H H1 → tw D σ H1) : tIfS t tu tw D σ H := Evl.s_if h h1 h2
theorem w_when1 (K : PySem.W.Frag) (h : EvB K t σ H b) (h1 : b = true → ∀ H1, Ex H H1 → tu D σ H1) (h2 : b = false → ∀ H1, Ex H H1 → D.nx σ H1) : tIfS t tu tNext D σ H := Evl.s_when h h1 h2
end

end Fy

namespace Fy
open PySem PySem.Spec PyProof.Rows L2
/-! ### loops by data -/
section
variable {K : PySem.W.Frag} {σ : L2.St} {H : Hp} {tl te : TE} {ds : List PyData} {D : Ends} {tu tz : TS} {g : TG}
theorem w_forL (h : EvD K tl σ H (.list ds)) (k : ∀ a xs H1, Ex H H1 → SqL K H1 a xs → DpAll K H1 xs ds → ∃ Pv : Nat → L2.St → Hp → Prop, Pv 0 σ H1 ∧ (∀ i σ' H', i ≤ xs.length → Pv i σ' H' → SqL K H' a xs) ∧
    (∀ i d x σ' H', ds[i]? = some d → xs[i]? = some x → Dp K H1 x d → Pv i σ' H' → g x σ' H' fun σ2 H2 => tu { D with nx := Pv (i + 1), ct := Pv (i + 1), bk := tz D } σ2 H2) ∧ (∀ σ' H', Pv ds.length σ' H' → tz D σ' H')) : tSeq (tFor (iList K tl) g tu) tz D σ H :=
  h H (Evl.Ex.refl H) _ fun v H1 x hv => by
    obtain ⟨a, xs, rfl, h1, h2⟩ := dp_lst.mp hv
    obtain ⟨Pv, p0, p1, p2, p3⟩ := k a xs H1 x h1 h2
    have hl := dpa_len h2
    refine ⟨a, rfl, ⟨xs, h1⟩, for_list (K := K) (a := a) (xs := xs) (D := { D with nx := tz D }) Pv p0 p1 (fun i y σ' H' hi hp => ?_) (by rw [hl]; exact p3)⟩
    obtain ⟨d, hd, hdy⟩ := dpa_get h2 hi
    exact p2 i d y σ' H' hd hi hdy hp
/-- where all that stood ahead of the loop stays -/
theorem w_forLx (h : EvD K tl σ H (.list ds)) (Pv : Nat → L2.St → Hp → Prop) (h0 : ∀ H1, Ex H H1 → Pv 0 σ H1)
    (hs : ∀ i d x σ' H', ds[i]? = some d → Ex H H' → Dp K H' x d → Pv i σ' H' → g x σ' H' fun σ2 H2 => tu { D with nx := fun σ3 H3 => Ex H' H3 ∧ Pv (i + 1) σ3 H3, ct := fun σ3 H3 => Ex H' H3 ∧ Pv (i + 1) σ3 H3, bk := tz D } σ2 H2)
    (hd : ∀ σ' H', Ex H H' → Pv ds.length σ' H' → tz D σ' H') : tSeq (tFor (iList K tl) g tu) tz D σ H :=
  h H (Evl.Ex.refl H) _ fun v H1 x hv => by
    obtain ⟨a, xs, rfl, h1, h2⟩ := dp_lst.mp hv
    have hl := dpa_len h2
    refine ⟨a, rfl, ⟨xs, h1⟩, fun i m σ' H' => m = xs.length - i ∧ i ≤ xs.length ∧ Ex H1 H' ∧ Pv i σ' H', ⟨xs.length, by simp, Nat.zero_le _, Evl.Ex.refl H1, h0 H1 x⟩, ?_⟩
    rintro i m σ' H' ⟨rfl, hi, e, p⟩
    have q := Evl.ex_l e h1
    by_cases hlt : i < xs.length
    · refine .inr ⟨⟨xs, xs[i], q, by simp [hlt]⟩, fun σ3 H3 => Ex H' H3 ∧ Pv (i + 1) σ3 H3, fun σ3 H3 p3 => ⟨xs.length - (i + 1), by omega, rfl, hlt, e.trans p3.1, p3.2⟩, fun y H2 yy => ?_⟩
      obtain ⟨e2, yy⟩ := yy
      subst e2
      obtain ⟨d, hd', hdy⟩ := dpa_get h2 (yy xs q)
      exact hs i d y σ' _ hd' (x.trans e) (dp_mono e _ _ hdy) p
    · have e2 : i = xs.length := by omega
      subst e2
      rw [hl] at p
      exact .inl ⟨⟨xs, q, Nat.le_refl _⟩, hd σ' H' (x.trans e) p⟩
theorem w_forTx (h : EvD K tl σ H (.tuple ds)) (Pv : Nat → L2.St → Hp → Prop) (h0 : ∀ H1, Ex H H1 → Pv 0 σ H1)
    (hs : ∀ i d x σ' H', ds[i]? = some d → Ex H H' → Dp K H' x d → Pv i σ' H' → g x σ' H' fun σ2 H2 => tu { D with nx := fun σ3 H3 => Ex H' H3 ∧ Pv (i + 1) σ3 H3, ct := fun σ3 H3 => Ex H' H3 ∧ Pv (i + 1) σ3 H3, bk := tz D } σ2 H2)
    (hd : ∀ σ' H', Ex H H' → Pv ds.length σ' H' → tz D σ' H') : tSeq (tFor (iTup K tl) g tu) tz D σ H :=
  h H (Evl.Ex.refl H) _ fun v H1 x hv => by
    obtain ⟨a, xs, rfl, h1, h2⟩ := dp_tup.mp hv
    have hl := dpa_len h2
    refine ⟨a, rfl, ⟨xs, h1⟩, fun i m σ' H' => m = xs.length - i ∧ i ≤ xs.length ∧ Ex H1 H' ∧ Pv i σ' H', ⟨xs.length, by simp, Nat.zero_le _, Evl.Ex.refl H1, h0 H1 x⟩, ?_⟩
    rintro i m σ' H' ⟨rfl, hi, e, p⟩
    have q := Evl.ex_t e h1
    by_cases hlt : i < xs.length
    · refine .inr ⟨⟨xs, xs[i], q, by simp [hlt]⟩, fun σ3 H3 => Ex H' H3 ∧ Pv (i + 1) σ3 H3, fun σ3 H3 p3 => ⟨xs.length - (i + 1), by omega, rfl, hlt, e.trans p3.1, p3.2⟩, fun y H2 yy => ?_⟩
      obtain ⟨e2, yy⟩ := yy
      subst e2
      obtain ⟨d, hd', hdy⟩ := dpa_get h2 (yy xs q)
      exact hs i d y σ' _ hd' (x.trans e) (dp_mono e _ _ hdy) p
    · have e2 : i = xs.length := by omega
      subst e2
      rw [hl] at p
      exact .inl ⟨⟨xs, q, Nat.le_refl _⟩, hd σ' H' (x.trans e) p⟩
/-- where all that stood ahead of the loop stays -/
theorem w_forLx1 (h : EvD K tl σ H (.list ds)) (Pv : Nat → L2.St → Hp → Prop) (h0 : ∀ H1, Ex H H1 → Pv 0 σ H1)
    (hs : ∀ i d x σ' H', ds[i]? = some d → Ex H H' → Dp K H' x d → Pv i σ' H' → g x σ' H' fun σ2 H2 => tu { D with nx := fun σ3 H3 => Ex H' H3 ∧ Pv (i + 1) σ3 H3, ct := fun σ3 H3 => Ex H' H3 ∧ Pv (i + 1) σ3 H3, bk := D.nx } σ2 H2)
    (hd : ∀ σ' H', Ex H H' → Pv ds.length σ' H' → D.nx σ' H') : tFor (iList K tl) g tu D σ H :=
  h H (Evl.Ex.refl H) _ fun v H1 x hv => by
    obtain ⟨a, xs, rfl, h1, h2⟩ := dp_lst.mp hv
    have hl := dpa_len h2
    refine ⟨a, rfl, ⟨xs, h1⟩, fun i m σ' H' => m = xs.length - i ∧ i ≤ xs.length ∧ Ex H1 H' ∧ Pv i σ' H', ⟨xs.length, by simp, Nat.zero_le _, Evl.Ex.refl H1, h0 H1 x⟩, ?_⟩
    rintro i m σ' H' ⟨rfl, hi, e, p⟩
    have q := Evl.ex_l e h1
    by_cases hlt : i < xs.length
    · refine .inr ⟨⟨xs, xs[i], q, by simp [hlt]⟩, fun σ3 H3 => Ex H' H3 ∧ Pv (i + 1) σ3 H3, fun σ3 H3 p3 => ⟨xs.length - (i + 1), by omega, rfl, hlt, e.trans p3.1, p3.2⟩, fun y H2 yy => ?_⟩
      obtain ⟨e2, yy⟩ := yy
      subst e2
      obtain ⟨d, hd', hdy⟩ := dpa_get h2 (yy xs q)
      exact hs i d y σ' _ hd' (x.trans e) (dp_mono e _ _ hdy) p
    · have e2 : i = xs.length := by omega
      subst e2
      rw [hl] at p
      exact .inl ⟨⟨xs, q, Nat.le_refl _⟩, hd σ' H' (x.trans e) p⟩
theorem w_forTx1 (h : EvD K tl σ H (.tuple ds)) (Pv : Nat → L2.St → Hp → Prop) (h0 : ∀ H1, Ex H H1 → Pv 0 σ H1)
    (hs : ∀ i d x σ' H', ds[i]? = some d → Ex H H' → Dp K H' x d → Pv i σ' H' → g x σ' H' fun σ2 H2 => tu { D with nx := fun σ3 H3 => Ex H' H3 ∧ Pv (i + 1) σ3 H3, ct := fun σ3 H3 => Ex H' H3 ∧ Pv (i + 1) σ3 H3, bk := D.nx } σ2 H2)
    (hd : ∀ σ' H', Ex H H' → Pv ds.length σ' H' → D.nx σ' H') : tFor (iTup K tl) g tu D σ H :=
  h H (Evl.Ex.refl H) _ fun v H1 x hv => by
    obtain ⟨a, xs, rfl, h1, h2⟩ := dp_tup.mp hv
    have hl := dpa_len h2
    refine ⟨a, rfl, ⟨xs, h1⟩, fun i m σ' H' => m = xs.length - i ∧ i ≤ xs.length ∧ Ex H1 H' ∧ Pv i σ' H', ⟨xs.length, by simp, Nat.zero_le _, Evl.Ex.refl H1, h0 H1 x⟩, ?_⟩
    rintro i m σ' H' ⟨rfl, hi, e, p⟩
    have q := Evl.ex_t e h1
    by_cases hlt : i < xs.length
    · refine .inr ⟨⟨xs, xs[i], q, by simp [hlt]⟩, fun σ3 H3 => Ex H' H3 ∧ Pv (i + 1) σ3 H3, fun σ3 H3 p3 => ⟨xs.length - (i + 1), by omega, rfl, hlt, e.trans p3.1, p3.2⟩, fun y H2 yy => ?_⟩
      obtain ⟨e2, yy⟩ := yy
      subst e2
      obtain ⟨d, hd', hdy⟩ := dpa_get h2 (yy xs q)
      exact hs i d y σ' _ hd' (x.trans e) (dp_mono e _ _ hdy) p
    · have e2 : i = xs.length := by omega
      subst e2
      rw [hl] at p
      exact .inl ⟨⟨xs, q, Nat.le_refl _⟩, hd σ' H' (x.trans e) p⟩
/-- over a list that may be changed elsewhere: what stands in the list walked and its items (that carry no list) stays -/
theorem w_forLu (h : EvD K tl σ H (.list ds)) (hn : noLs ds = true) (Pv : Hp → Nat → L2.St → Hp → Prop) (h0 : ∀ H1, Ex H H1 → Pv H1 0 σ H1)
    (hk : ∀ H1 i σ' H' a xs, Ex H H1 → SqL K H1 a xs → DpAll K H1 xs ds → Pv H1 i σ' H' → SqL K H' a xs ∧ Up H1 H')
    (hs : ∀ H1 i d x σ' H', Ex H H1 → ds[i]? = some d → Dp K H' x d → Pv H1 i σ' H' → g x σ' H' fun σ2 H2 => tu { D with nx := Pv H1 (i + 1), ct := Pv H1 (i + 1), bk := tz D } σ2 H2)
    (hd : ∀ H1 σ' H', Ex H H1 → Pv H1 ds.length σ' H' → tz D σ' H') : tSeq (tFor (iList K tl) g tu) tz D σ H :=
  w_forL h fun a xs H1 x h1 h2 => ⟨Pv H1, h0 H1 x, fun i σ' H' _ p => (hk H1 i σ' H' a xs x h1 h2 p).1, fun i d y σ' H' hd' hy hdy p => by
    have u := (hk H1 i σ' H' a xs x h1 h2 p).2
    have nd : noL d = true := by
      have : ∀ (es : List PyData) (i : Nat), noLs es = true → es[i]? = some d → noL d = true := by
        intro es
        induction es with
        | nil => intro i _ e; simp at e
        | cons c r ih =>
          intro i n e
          have n' : noL c = true ∧ noLs r = true := by simpa [noLs] using n
          cases i with
          | zero => simp at e; rw [← e]; exact n'.1
          | succ j => exact ih j n'.2 (by simpa using e)
      exact this ds i hn hd'
    exact hs H1 i d y σ' H' x hd' (dp_up u _ _ nd hdy) p, fun σ' H' p => hd H1 σ' H' x p⟩
theorem w_callS {sp : Sp} {E : L2.St → XK} {tr : TA} (h : EvDs K tr σ H ds) (k : ∀ vs H1, Ex H H1 → DpAll K H1 vs ds → sp vs H1 (fun _ H2 => tz D σ H2) (E σ)) : tSeq (tDrop (tCallS sp E tr)) tz D σ H := h H (Evl.Ex.refl H) _ fun vs H1 x hv => k vs H1 x hv
theorem w_callS1 {sp : Sp} {E : L2.St → XK} {tr : TA} (h : EvDs K tr σ H ds) (k : ∀ vs H1, Ex H H1 → DpAll K H1 vs ds → sp vs H1 (fun _ H2 => D.nx σ H2) (E σ)) : tDrop (tCallS sp E tr) D σ H := h H (Evl.Ex.refl H) _ fun vs H1 x hv => k vs H1 x hv
theorem eva_1 {n : Int} (h : EvD K te σ H (.int n)) : Evl.EvA (tCons te tNil) σ H [.int n] := fun H1 x _ q => h H1 x _ fun v H2 x2 hv => by
  cases dp_int.mp hv
  exact q H2 x2
theorem w_forR {j : Nat} {n : Int} (h : EvD K te σ H (.int n)) (hn : 0 ≤ n ∧ n ≤ 100000) (Pv : Nat → L2.St → Hp → Prop) (h0 : ∀ H1, Ex H H1 → Pv 0 σ H1)
    (hs : ∀ (i : Nat) σ' H', (i : Int) < n → Pv i σ' H' → tu { D with nx := Pv (i + 1), ct := Pv (i + 1), bk := tz D } (σ'.set j (some (.int (i : Int)))) H') (hd : ∀ σ' H', Pv n.toNat σ' H' → tz D σ' H') : tSeq (tFor (iRng1 (tCons te tNil)) (gName j) tu) tz D σ H :=
  Evl.q_forR1 (eva_1 h) hn Pv h0 hs hd
/-- a tuple taken apart -/
theorem g_tup2 {v x y : V} {i j : Nat} {a : Addr} {Q : L2.St → Hp → Prop} (e : v = .ref a) (hs : SqT K H a [x, y]) (q : Q ((σ.set i (some x)).set j (some y)) H) : gTup K 2 (gCons (gName i) (gCons (gName j) gNil)) v σ H Q :=
  ⟨a, _, e, hs, rfl, x, _, rfl, y, _, rfl, rfl, q⟩
theorem g_tup3 {v x y z : V} {i j l : Nat} {a : Addr} {Q : L2.St → Hp → Prop} (e : v = .ref a) (hs : SqT K H a [x, y, z]) (q : Q (((σ.set i (some x)).set j (some y)).set l (some z)) H) : gTup K 3 (gCons (gName i) (gCons (gName j) (gCons (gName l) gNil))) v σ H Q :=
  ⟨a, _, e, hs, rfl, x, _, rfl, y, _, rfl, z, _, rfl, rfl, q⟩
end
theorem get_map {α β : Type} {f : α → β} {xs : List α} {i : Nat} {y : β} (h : (xs.map f)[i]? = some y) : ∃ x, xs[i]? = some x ∧ y = f x := by
  rw [List.getElem?_map] at h
  cases e : xs[i]? with
  | none => rw [e] at h; cases h
  | some x => rw [e] at h; exact ⟨x, rfl, (Option.some.inj h).symm⟩
theorem take_snoc {α : Type} {xs : List α} {i : Nat} {x : α} (h : xs[i]? = some x) : xs.take (i + 1) = xs.take i ++ [x] := by
  rw [List.take_add_one, h]; rfl
theorem lt_of_get {α : Type} {xs : List α} {i : Nat} {x : α} (h : xs[i]? = some x) : i < xs.length := (List.getElem?_eq_some_iff.mp h).1
theorem all_take {α : Type} {p : α → Bool} {xs : List α} {i : Nat} {x : α} (h : xs[i]? = some x) (ht : (xs.take i).all p = true) : (xs.take (i + 1)).all p = p x := by
  rw [take_snoc h, List.all_append, ht]
  simp
theorem all_not {α : Type} {p : α → Bool} {xs : List α} {i : Nat} {x : α} (h : xs[i]? = some x) (hp : p x = false) : xs.all p = false := by
  rw [Bool.eq_false_iff]
  intro q
  have := List.all_eq_true.mp q x (List.mem_of_getElem? h)
  rw [hp] at this
  cases this
/-! ### comprehensions in their common shapes -/
section
variable {K : PySem.W.Frag} {σ : L2.St} {H : Hp} {tl te : TE} {tt : TT} {ta : TA} {vs : List Nat} {j : Nat}
theorem fm_some {α β : Type} (f : α → β) (l : List α) : l.filterMap (fun i => some (f i)) = l.map f := by
  induction l with
  | nil => rfl
  | cons a r ih => simp [ih]
/-- [t for t in range(n) if p(t)] -/
theorem en_filR {n : Int} (p : Int → Bool) (h : EvDs K ta σ H [.int n]) (h0 : 0 ≤ n ∧ n ≤ 100000) (hw : ∀ x, wipe ((wipe σ vs).set j (some x)) vs = wipe σ vs) (hj : ∀ x, ((wipe σ vs).set j (some x))[j]? = some (some x))
    (ht : ∀ i : Nat, (i : Int) < n → EvB K tt ((wipe σ vs).set j (some (.int (i : Int)))) H (p (i : Int))) : EvN K (tLc (iRng1 ta) (gName j) tt (tVar j) vs) σ H (((rng n.toNat).filter p).map .int) :=
  EvN.cast (en_lcR (fun i : Nat => if p (i : Int) = true then some (.int (i : Int)) else none) (fun i d h => by
    split at h
    · cases h; rfl
    · cases h) h h0.1 h0.2 fun i hi => turn_of (hw _) (ht i hi) fun _ => ed_var (hj _) (.int _)) (fm_ints _ p)
/-- [e for t in range(n)] -/
theorem en_mapR {n : Int} (f : Nat → PyData) (hn : ∀ i, noL (f i) = true) (h : EvDs K ta σ H [.int n]) (h0 : 0 ≤ n ∧ n ≤ 100000) (hw : ∀ x, wipe ((wipe σ vs).set j (some x)) vs = wipe σ vs)
    (he : ∀ i : Nat, (i : Int) < n → EvD K te ((wipe σ vs).set j (some (.int (i : Int)))) H (f i)) : EvN K (tLc (iRng1 ta) (gName j) tYes te vs) σ H ((List.range n.toNat).map f) :=
  EvN.cast (en_lcR (fun i => some (f i)) (fun i d h => by cases h; exact hn i) h h0.1 h0.2 fun i hi => turn_all (hw _) (he i hi)) (fm_some f _)
theorem fm_filter {α : Type} (xs : List α) (p : α → Bool) (f : α → PyData) : (List.range xs.length).filterMap (fun i => (xs[i]?).bind fun x => if p x = true then some (f x) else none) = (xs.filter p).map f := by
  rw [fm_range]
  induction xs with
  | nil => rfl
  | cons a r ih =>
    rw [List.filterMap_cons, List.filter_cons]
    by_cases h : p a = true
    · rw [if_pos h, if_pos h]; simp [ih]
    · rw [if_neg h, if_neg h]; simpa using ih
theorem noL_fm {α : Type} {xs : List α} {p : α → Bool} {f : α → PyData} (hf : ∀ x, noL (f x) = true) (i : Nat) (d : PyData) (h : (xs[i]?).bind (fun x => if p x = true then some (f x) else none) = some d) : noL d = true := by
  cases e : xs[i]? with
  | none => rw [e] at h; cases h
  | some x =>
    rw [e] at h
    by_cases hp : p x = true
    · have h' : some (f x) = some d := by rw [Option.bind_some, if_pos hp] at h; exact h
      cases h'; exact hf x
    · rw [Option.bind_some, if_neg hp] at h; cases h
/-- [f(x) for x in xs if p(x)], xs a list -/
theorem en_fmL {α : Type} (enc : α → PyData) {xs : List α} (p : α → Bool) (f : α → PyData) (hf : ∀ x, noL (f x) = true) (h : EvD K tl σ H (.list (xs.map enc))) (hz : xs.length ≤ 100000) (hw : ∀ x, wipe ((wipe σ vs).set j (some x)) vs = wipe σ vs)
    (ht : ∀ (i : Nat) (a : α) v H1, xs[i]? = some a → Ex H H1 → Dp K H1 v (enc a) → EvB K tt ((wipe σ vs).set j (some v)) H1 (p a)) (he : ∀ (i : Nat) (a : α) v H1, xs[i]? = some a → p a = true → Ex H H1 → Dp K H1 v (enc a) → EvD K te ((wipe σ vs).set j (some v)) H1 (f a)) :
    EvN K (tLc (iList K tl) (gName j) tt te vs) σ H ((xs.filter p).map f) := by
  have z := en_lcL (K := K) (g := gName j) (tt := tt) (te := te) (vs := vs) (σ := σ) (H := H) (fun i => (xs[i]?).bind fun x => if p x = true then some (f x) else none) (noL_fm hf) h (by rw [List.length_map]; exact hz) (fun i d hd x H1 x1 hx => by
    obtain ⟨a, ha, rfl⟩ := get_map hd
    have t := turn_of (K := K) (te := te) (d := f a) (hw x) (ht i a x H1 ha x1 hx) fun hp => he i a x H1 ha hp x1 hx
    simp only [ha, Option.bind_some]
    exact t)
  rw [List.length_map, fm_filter] at z
  exact z
theorem en_fmT {α : Type} (enc : α → PyData) {xs : List α} (p : α → Bool) (f : α → PyData) (hf : ∀ x, noL (f x) = true) (h : EvD K tl σ H (.tuple (xs.map enc))) (hz : xs.length ≤ 100000) (hw : ∀ x, wipe ((wipe σ vs).set j (some x)) vs = wipe σ vs)
    (ht : ∀ (i : Nat) (a : α) v H1, xs[i]? = some a → Ex H H1 → Dp K H1 v (enc a) → EvB K tt ((wipe σ vs).set j (some v)) H1 (p a)) (he : ∀ (i : Nat) (a : α) v H1, xs[i]? = some a → p a = true → Ex H H1 → Dp K H1 v (enc a) → EvD K te ((wipe σ vs).set j (some v)) H1 (f a)) :
    EvN K (tLc (iTup K tl) (gName j) tt te vs) σ H ((xs.filter p).map f) := by
  have z := en_lcT (K := K) (g := gName j) (tt := tt) (te := te) (vs := vs) (σ := σ) (H := H) (fun i => (xs[i]?).bind fun x => if p x = true then some (f x) else none) (noL_fm hf) h (by rw [List.length_map]; exact hz) (fun i d hd x H1 x1 hx => by
    obtain ⟨a, ha, rfl⟩ := get_map hd
    have t := turn_of (K := K) (te := te) (d := f a) (hw x) (ht i a x H1 ha x1 hx) fun hp => he i a x H1 ha hp x1 hx
    simp only [ha, Option.bind_some]
    exact t)
  rw [List.length_map, fm_filter] at z
  exact z
theorem eb_yes : EvB K tYes σ H true := fun H1 _ _ q => q H1 (Evl.Ex.refl H1)
/-- without a test -/
theorem en_mapL {α : Type} (enc : α → PyData) {xs : List α} (f : α → PyData) (hf : ∀ x, noL (f x) = true) (h : EvD K tl σ H (.list (xs.map enc))) (hz : xs.length ≤ 100000) (hw : ∀ x, wipe ((wipe σ vs).set j (some x)) vs = wipe σ vs)
    (he : ∀ (i : Nat) (a : α) v H1, xs[i]? = some a → Ex H H1 → Dp K H1 v (enc a) → EvD K te ((wipe σ vs).set j (some v)) H1 (f a)) : EvN K (tLc (iList K tl) (gName j) tYes te vs) σ H (xs.map f) :=
  EvN.cast (en_fmL enc (fun _ => true) f hf h hz hw (fun _ _ _ _ _ _ _ => eb_yes) fun i a v H1 ha _ x hv => he i a v H1 ha x hv) (by rw [List.filter_eq_self.mpr (fun _ _ => rfl)])
theorem en_mapT {α : Type} (enc : α → PyData) {xs : List α} (f : α → PyData) (hf : ∀ x, noL (f x) = true) (h : EvD K tl σ H (.tuple (xs.map enc))) (hz : xs.length ≤ 100000) (hw : ∀ x, wipe ((wipe σ vs).set j (some x)) vs = wipe σ vs)
    (he : ∀ (i : Nat) (a : α) v H1, xs[i]? = some a → Ex H H1 → Dp K H1 v (enc a) → EvD K te ((wipe σ vs).set j (some v)) H1 (f a)) : EvN K (tLc (iTup K tl) (gName j) tYes te vs) σ H (xs.map f) :=
  EvN.cast (en_fmT enc (fun _ => true) f hf h hz hw (fun _ _ _ _ _ _ _ => eb_yes) fun i a v H1 ha _ x hv => he i a v H1 ha x hv) (by rw [List.filter_eq_self.mpr (fun _ _ => rfl)])
end
theorem atI_zero {d : PyData} {ds : List PyData} : L2.atI (d :: ds) 0 = some d := by show L2.atI (d :: ds) ((0 : Nat) : Int) = some d; exact atI_nat rfl

end Fy

namespace Fy
open PySem PySem.Spec PyProof.Rows L2
end Fy
local macro_rules | `(tactic| walk_at "ex") => `(tactic| first | assumption | exact Evl.Ex.refl _ | (refine Evl.Ex.trans (by assumption) ?_; walk_at "ex"))
local macro_rules | `(tactic| walk_at "dp") => `(tactic| first | with_reducible exact L2.Dp.int _ | with_reducible exact L2.Dp.bl _ | with_reducible exact L2.Dp.str _ | with_reducible exact L2.Dp.non | assumption | (refine Fy.dp_mono ?_ _ _ (by assumption); walk_at "ex"))
local macro_rules | `(tactic| walk_at "side") => `(tactic| first | decide | assumption | omega | exact ⟨by decide, by decide⟩ | exact Or.inl ⟨by decide, by decide⟩ | exact Or.inr ⟨by decide, by decide⟩)
local macro_rules | `(tactic| walk_at "rd") => `(tactic| first
  | ((with_reducible refine' Fy.i_I0 ?hh); (case hh => first | exact Fy.rd_I0 (fun _ => L2.Dp.int _) | exact Fy.rd_I0 (fun _ => L2.Dp.bl _)))
  | ((with_reducible refine' Fy.i_I ?hh); (case hh => exact Fy.rd_I (by walk_at "side") (fun _ => L2.Dp.int _)))
  | ((with_reducible refine' Fy.i_Eq ?hh); (case hh => first | exact Fy.rd_eqI | exact Fy.rd_eqB | exact Fy.rd_eqS))
  | ((with_reducible refine' Fy.i_Ne ?hh); (case hh => first | exact Fy.rd_neI | exact Fy.rd_neB | exact Fy.rd_neS))
  | ((with_reducible refine' Fy.i_In ?hh); (case hh => first | exact Fy.rd_inT | exact Fy.rd_niT))
  | ((with_reducible refine' Fy.i_IxL ?hh); (case hh => exact Fy.rd_ixL (by first | rfl | exact Fy.atI_zero)))
  | ((with_reducible refine' Fy.i_IxT ?hh); (case hh => exact Fy.rd_ixT (by rfl))))
local macro_rules | `(tactic| walk_at "cd") => `(tactic| first | exact Fy.cd_lenI | exact Fy.cd_lenL | exact Fy.cd_lenT | exact Fy.cd_tupL)
local macro_rules | `(tactic| walk_at "eds") => `(tactic| first
  | ((with_reducible refine' Fy.i_Nil ?hh); (case hh => exact Fy.eds_nil))
  | ((with_reducible refine' Fy.i_Cons ?hh); (case hh => exact Fy.eds_cons (by walk_at "ed") (by walk_at "eds"))))
local macro_rules | `(tactic| walk_at "ed") => `(tactic| first
  | ((with_reducible refine' Fy.i_C ?hh); (case hh => first | exact Fy.ed_int | exact Fy.ed_bl | exact Fy.ed_str | exact Fy.ed_non))
  | ((with_reducible refine' Fy.i_Var ?hh); (case hh => exact Fy.ed_var rfl (by walk_at "dp")))
  | ((with_reducible refine' Fy.i_Op ?hh); (case hh => exact Fy.ed_op (by walk_at "ed") (by walk_at "ed") (by walk_at "rd")))
  | ((with_reducible refine' Fy.i_Chain ?hh); (case hh => exact Fy.ed_chain (by walk_at "ed") (by walk_at "ed") (by walk_at "ed")))
  | ((with_reducible refine' Fy.i_IsiI ?hh); (case hh => exact Fy.ed_isiI (by walk_at "ed")))
  | ((with_reducible refine' Fy.i_IsiB ?hh); (case hh => exact Fy.ed_isiB (by walk_at "ed")))
  | ((with_reducible refine' Fy.i_IsiL ?hh); (case hh => exact Fy.ed_isiL (by walk_at "ed")))
  | ((with_reducible refine' Fy.i_IsiT ?hh); (case hh => exact Fy.ed_isiT (by walk_at "ed")))
  | ((with_reducible refine' Fy.i_IsiS ?hh); (case hh => exact Fy.ed_isiS (by walk_at "ed")))
  | ((with_reducible refine' Fy.i_CB ?hh); (case hh => exact Fy.ed_cb (by walk_at "eds") (by walk_at "cd")))
  | ((with_reducible refine' Fy.i_Un ?hh); (case hh => exact Fy.ed_un (by walk_at "ed") (fun _ => L2.Dp.int _)))
  | ((with_reducible refine' Fy.i_Tup ?hh); (case hh => exact Fy.ed_tup (by walk_at "eds") (by simp only [List.length_cons, List.length_nil]; decide)))
  | ((with_reducible refine' Fy.i_AndV ?hh); (case hh => exact Fy.ed_andV (by walk_at "ed") (fun _ => by walk_at "ed")))
  | ((with_reducible refine' Fy.i_OrV ?hh); (case hh => exact Fy.ed_orV (by walk_at "ed") (fun _ => by walk_at "ed")))
  | ((with_reducible refine' Fy.i_NotV ?hh); (case hh => exact Fy.ed_notV (by walk_at "ed"))))
local macro_rules | `(tactic| walk_at "et") => `(tactic| first
  | ((with_reducible refine' Fy.i_Test ?hh); (case hh => exact Fy.eb_d (by walk_at "ed")))
  | ((with_reducible refine' Fy.i_B ?hh); (case hh => exact Fy.eb_dB (by walk_at "ed")))
  | ((with_reducible refine' Fy.i_Not ?hh); (case hh => exact Fy.eb_not (by walk_at "et")))
  | ((with_reducible refine' Fy.i_And ?hh); (case hh => exact Fy.eb_and (by walk_at "et") (fun _ => by walk_at "et")))
  | ((with_reducible refine' Fy.i_Or ?hh); (case hh => exact Fy.eb_or (by walk_at "et") (fun _ => by walk_at "et"))))

namespace Fy
open PySem PySem.Spec PyProof.Rows L2
/-! ### a night as an object -/
theorem n_tp : ¬ (("all_things" : Str) = "places") := by decide +kernel
theorem n_tq : ¬ (("all_things" : Str) = "all_quarrels") := by decide +kernel
theorem n_pq : ¬ (("places" : Str) = "all_quarrels") := by decide +kernel
def nf (a : Addr) (r : Int) (b : Addr) : List (Str × V) := putF "all_quarrels" (.ref b) (putF "places" (.int r) (putF "all_things" (.ref a) []))
theorem nf_t (a : Addr) (r : Int) (b : Addr) : (nf a r b).lookup ("all_things" : Str) = some (.ref a) := by
  unfold nf
  rw [lookup_putF, if_neg n_tq, lookup_putF, if_neg n_tp, lookup_putF, if_pos rfl]
theorem nf_p (a : Addr) (r : Int) (b : Addr) : (nf a r b).lookup ("places" : Str) = some (.int r) := by
  unfold nf
  rw [lookup_putF, if_neg n_pq, lookup_putF, if_pos rfl]
theorem nf_q (a : Addr) (r : Int) (b : Addr) : (nf a r b).lookup ("all_quarrels" : Str) = some (.ref b) := by
  unfold nf
  rw [lookup_putF, if_pos rfl]
theorem nf_no (a : Addr) (r : Int) (b : Addr) {m : Str} (h1 : ¬ m = "all_quarrels") (h2 : ¬ m = "places") (h3 : ¬ m = "all_things") : (nf a r b).lookup m = none := by
  unfold nf
  rw [lookup_putF, if_neg h1, lookup_putF, if_neg h2, lookup_putF, if_neg h3]
  rfl
structure NightAt (K : PySem.W.Frag) (H : Hp) (v : V) (n : Nt) : Prop where
  at_ : ∃ p dx a b ts qs, v = .ref p ∧ H p = some (.ins (He.ga K "Night") dx (nf a n.room b)) ∧ H a = some (.lst ts) ∧ DpAll K H ts (n.things.map eT) ∧ H b = some (.lst qs) ∧ DpAll K H qs (n.quarrels.map eQ)
theorem NightAt.mono {K : PySem.W.Frag} {H H' : Hp} {v : V} {n : Nt} (e : Ex H H') (h : NightAt K H v n) : NightAt K H' v n := by
  obtain ⟨p, dx, a, b, ts, qs, h0, h1, h2, h3, h4, h5⟩ := h.at_
  exact ⟨p, dx, a, b, ts, qs, h0, e _ _ h1, e _ _ h2, dpa_mono e _ _ h3, e _ _ h4, dpa_mono e _ _ h5⟩
/-- its own lists are new behind H0 -/
structure NightI (K : PySem.W.Frag) (H0 H : Hp) (v : V) (n : Nt) : Prop where
  at_ : ∃ p dx a b ts qs, v = .ref p ∧ H p = some (.ins (He.ga K "Night") dx (nf a n.room b)) ∧ H a = some (.lst ts) ∧ DpAll K H ts (n.things.map eT) ∧ H b = some (.lst qs) ∧ DpAll K H qs (n.quarrels.map eQ) ∧ H0 a = none ∧ H0 b = none
theorem NightI.na {K : PySem.W.Frag} {H0 H : Hp} {v : V} {n : Nt} (h : NightI K H0 H v n) : NightAt K H v n := by
  obtain ⟨p, dx, a, b, ts, qs, h0, h1, h2, h3, h4, h5, _⟩ := h.at_
  exact ⟨p, dx, a, b, ts, qs, h0, h1, h2, h3, h4, h5⟩
theorem NightI.mono {K : PySem.W.Frag} {H0 H H' : Hp} {v : V} {n : Nt} (e : Ex H H') (h : NightI K H0 H v n) : NightI K H0 H' v n := by
  obtain ⟨p, dx, a, b, ts, qs, h0, h1, h2, h3, h4, h5, h6⟩ := h.at_
  exact ⟨p, dx, a, b, ts, qs, h0, e _ _ h1, e _ _ h2, dpa_mono e _ _ h3, e _ _ h4, dpa_mono e _ _ h5, h6⟩
theorem NightI.back {K : PySem.W.Frag} {H0 H1 H : Hp} {v : V} {n : Nt} (e : Ex H0 H1) (h : NightI K H1 H v n) : NightI K H0 H v n := by
  obtain ⟨p, dx, a, b, ts, qs, h0, h1, h2, h3, h4, h5, h6, h7⟩ := h.at_
  exact ⟨p, dx, a, b, ts, qs, h0, h1, h2, h3, h4, h5, Evl.fresh_back e h6, Evl.fresh_back e h7⟩
/-- a list that stood ahead of its making is changed -/
theorem NightI.lst {K : PySem.W.Frag} {H0 H : Hp} {v : V} {n : Nt} {l : Addr} {o o' : HO} {xs : List V} (h : NightI K H0 H v n) (hl : H0 l = some o) (hx : H l = some (.lst xs)) : NightI K H0 (upd H l o') v n := by
  obtain ⟨p, dx, a, b, ts, qs, h0, h1, h2, h3, h4, h5, h6, h7⟩ := h.at_
  have u : Up H (upd H l o') := Up.lst hx
  refine ⟨p, dx, a, b, ts, qs, h0, ?_, ?_, dpa_up u _ _ (noLs_map noL_eT _) h3, ?_, dpa_up u _ _ (noLs_map noL_eQ _) h5, h6, h7⟩
  · rw [upd_ne (fun e => by rw [e, hx] at h1; cases h1)]; exact h1
  · rw [upd_ne (fun e => by rw [e, hl] at h6; cases h6)]; exact h2
  · rw [upd_ne (fun e => by rw [e, hl] at h7; cases h7)]; exact h4
theorem rgV_eq (n : Nat) : rgV 0 (n : Int) = (rng n).map V.int := by
  unfold rgV rng
  rw [List.map_map]
  have e : ((n : Int) - 0).toNat = n := by omega
  rw [e]
  exact List.map_congr_left fun i _ => by show V.int (0 + (i : Int)) = V.int (i : Int); rw [Int.zero_add]
/-! ### the promises -/
def spNThings (K : PySem.W.Frag) : Sp := fun vs H Q _ => ∃ v n, vs = [v] ∧ NightAt K H v n ∧ RetR (fun u H' => NewL K H u H' (n.things.map eT)) H Q
def spNQuarrels (K : PySem.W.Frag) : Sp := fun vs H Q _ => ∃ v n, vs = [v] ∧ NightAt K H v n ∧ RetR (fun u H' => NewL K H u H' (n.quarrels.map eQ)) H Q
def spNRoom (K : PySem.W.Frag) : Sp := fun vs H Q _ => ∃ v n, vs = [v] ∧ NightAt K H v n ∧ RetV (.int n.room) H Q
def spNBegins (K : PySem.W.Frag) : Sp := fun vs H Q _ => ∃ v n, vs = [v] ∧ NightAt K H v n ∧ n.things.length ≤ 1000 ∧ RetR (fun u H' => Dp K H' u (eS (rng n.things.length, 0))) H Q
def spNEnds (K : PySem.W.Frag) : Sp := fun vs H Q _ => ∃ v n, vs = [v] ∧ NightAt K H v n ∧ RetR (fun u H' => Dp K H' u (eS ([], 1))) H Q
def spNPeace (K : PySem.W.Frag) : Sp := fun vs H Q _ => ∃ v n u g, vs = [v, u] ∧ NightAt K H v n ∧ Dp K H u (eI g) ∧ RetV (.bl (peace n.quarrels g)) H Q
def spNOver (K : PySem.W.Frag) : Sp := fun vs H Q _ => ∃ v n u g, vs = [v, u] ∧ NightAt K H v n ∧ Dp K H u (eI g) ∧ n.things.length ≤ 1000 ∧ RetR (fun u H' => Dp K H' u (eI (restOf g n.things.length))) H Q
section
variable {P : Program} {w : World} {K : PySem.W.Frag} {mg : Str → Option Value} {base : Heap}
theorem sc_Night_things : FnScope ["self"] ["self"] (defScope s_Night_things) := ⟨rfl, rfl, rfl, by decide +kernel, rfl, by decide +kernel, by decide +kernel⟩
theorem ok_Night_things (T : Tx K mg) : HasM P w K mg base CX0 1 "things" ["self"] (spNThings K) := by
  obtain ⟨fd, F⟩ := T.f_Night_things
  refine ⟨T.cl, T.m_things, fd, F.ok sc_Night_things (fun vs H Q E h => ?_) (fun cdv A outer s H vs Q E hr h => ⟨_, PSs.nox (pss_one (ps_ret (pe_callTy (r := rListQ K) call_list_of (by rfl) T.b_list (by decide +kernel) (pa_cons (pe_fld (pv 0) rfl) pa_nil)))), ?_⟩), F.bindsN fun _ _ _ _ _ _ us hl => match us, hl with | [_], _ => rfl⟩
  · obtain ⟨v, n, rfl, _⟩ := h
    rfl
  · obtain ⟨v, n, rfl, N, k⟩ := h
    obtain ⟨p, dx, a, b, ts, qs, rfl, h1, h2, h3, h4, h5⟩ := N.at_
    refine ⟨_, rfl, p, _, dx, _, _, rfl, h1, T.cl, T.na_all_things, nf_t _ _ _, a, ts, rfl, .inl (SqL.of h2), fun l hl => ?_⟩
    have e := Evl.Ex.new (o := .lst ts) hl
    exact k _ _ e ⟨l, ts, rfl, hl, upd_same, dpa_mono e _ _ h3⟩
theorem sc_Night_quarrels : FnScope ["self"] ["self"] (defScope s_Night_quarrels) := ⟨rfl, rfl, rfl, by decide +kernel, rfl, by decide +kernel, by decide +kernel⟩
theorem ok_Night_quarrels (T : Tx K mg) : HasM P w K mg base CX0 1 "quarrels" ["self"] (spNQuarrels K) := by
  obtain ⟨fd, F⟩ := T.f_Night_quarrels
  refine ⟨T.cl, T.m_quarrels, fd, F.ok sc_Night_quarrels (fun vs H Q E h => ?_) (fun cdv A outer s H vs Q E hr h => ⟨_, PSs.nox (pss_one (ps_ret (pe_callTy (r := rListQ K) call_list_of (by rfl) T.b_list (by decide +kernel) (pa_cons (pe_fld (pv 0) rfl) pa_nil)))), ?_⟩), F.bindsN fun _ _ _ _ _ _ us hl => match us, hl with | [_], _ => rfl⟩
  · obtain ⟨v, n, rfl, _⟩ := h
    rfl
  · obtain ⟨v, n, rfl, N, k⟩ := h
    obtain ⟨p, dx, a, b, ts, qs, rfl, h1, h2, h3, h4, h5⟩ := N.at_
    refine ⟨_, rfl, p, _, dx, _, _, rfl, h1, T.cl, T.na_all_quarrels, nf_q _ _ _, b, qs, rfl, .inl (SqL.of h4), fun l hl => ?_⟩
    have e := Evl.Ex.new (o := .lst qs) hl
    exact k _ _ e ⟨l, qs, rfl, hl, upd_same, dpa_mono e _ _ h5⟩
theorem sc_Night_room : FnScope ["self"] ["self"] (defScope s_Night_room) := ⟨rfl, rfl, rfl, by decide +kernel, rfl, by decide +kernel, by decide +kernel⟩
theorem ok_Night_room (T : Tx K mg) : HasM P w K mg base CX0 1 "room" ["self"] (spNRoom K) := by
  obtain ⟨fd, F⟩ := T.f_Night_room
  refine ⟨T.cl, T.m_room, fd, F.ok sc_Night_room (fun vs H Q E h => ?_) (fun cdv A outer s H vs Q E hr h => ⟨_, PSs.nox (pss_one (ps_ret (pe_fld (pv 0) rfl))), ?_⟩), F.bindsN fun _ _ _ _ _ _ us hl => match us, hl with | [_], _ => rfl⟩
  · obtain ⟨v, n, rfl, _⟩ := h
    rfl
  · obtain ⟨v, n, rfl, N, k⟩ := h
    obtain ⟨p, dx, a, b, ts, qs, rfl, h1, h2, h3, h4, h5⟩ := N.at_
    exact ⟨_, rfl, p, _, dx, _, _, rfl, h1, T.cl, T.na_places, nf_p _ _ _, k _ (Evl.Ex.refl H)⟩
theorem sc_Night_begins : FnScope ["self"] ["self"] (defScope s_Night_begins) := ⟨rfl, rfl, rfl, by decide +kernel, rfl, by decide +kernel, by decide +kernel⟩
theorem ok_Night_begins (T : Tx K mg) : HasM P w K mg base CX0 1 "begins" ["self"] (spNBegins K) := by
  obtain ⟨fd, F⟩ := T.f_Night_begins
  refine ⟨T.cl, T.m_begins, fd, F.ok sc_Night_begins (fun vs H Q E h => ?_) (fun cdv A outer s H vs Q E hr h => ⟨_, PSs.nox (pss_one (ps_ret (pe_tup (pa_cons (pe_tupRg rfl rfl T.b_tuple (prg_1 rfl T.b_range (pe_callB (r := rLenQ K) call_len_seq (by rfl) T.b_len (by decide +kernel) (pa_cons (pe_fld (pv 0) rfl) pa_nil)))) (pa_cons pe_int pa_nil))))), ?_⟩), F.bindsN fun _ _ _ _ _ _ us hl => match us, hl with | [_], _ => rfl⟩
  · obtain ⟨v, n, rfl, _⟩ := h
    rfl
  · obtain ⟨v, n, rfl, N, hn, k⟩ := h
    obtain ⟨p, dx, a, b, ts, qs, rfl, h1, h2, h3, h4, h5⟩ := N.at_
    have hl : ts.length = n.things.length := by have := dpa_len h3; rw [List.length_map] at this; exact this
    refine ⟨_, rfl, p, _, dx, _, _, rfl, h1, T.cl, T.na_all_things, nf_t _ _ _, a, ts, rfl, .inl (SqL.of h2), (ts.length : Int), rfl, ?_⟩
    refine ⟨RgOk.of_le (by omega) (by omega) (by omega) (by omega), fun q hq => ?_⟩
    refine ⟨by show 2 ≤ sizeLine; decide, fun r hr2 => ?_⟩
    have e1 := Evl.Ex.new (o := HO.tup (rgV 0 (ts.length : Int))) hq
    refine k _ _ (e1.trans (Evl.Ex.new hr2)) (dp_eS.mpr ⟨r, _, rfl, SqT.of upd_same, dp_eI.mpr ⟨q, rfl, SqT.of ?_⟩⟩)
    rw [upd_ne (ne_of_none upd_same hr2), upd_same, rgV_eq, hl]
theorem sc_Night_ends : FnScope ["self"] ["self"] (defScope s_Night_ends) := ⟨rfl, rfl, rfl, by decide +kernel, rfl, by decide +kernel, by decide +kernel⟩
theorem ok_Night_ends (T : Tx K mg) : HasM P w K mg base CX0 1 "ends" ["self"] (spNEnds K) := by
  obtain ⟨fd, F⟩ := T.f_Night_ends
  refine ⟨T.cl, T.m_ends, fd, F.ok sc_Night_ends (fun vs H Q E h => ?_) (fun cdv A outer s H vs Q E hr h => ⟨_, PSs.nox (pss_one (ps_ret (pe_tup (pa_cons (pe_tup pa_nil) (pa_cons pe_int pa_nil))))), ?_⟩), F.bindsN fun _ _ _ _ _ _ us hl => match us, hl with | [_], _ => rfl⟩
  · obtain ⟨v, n, rfl, _⟩ := h
    rfl
  · obtain ⟨v, n, rfl, N, k⟩ := h
    refine ⟨Nat.zero_le _, fun q hq => ?_⟩
    refine ⟨by show 2 ≤ sizeLine; decide, fun r hr2 => ?_⟩
    have e1 := Evl.Ex.new (o := HO.tup []) hq
    refine k _ _ (e1.trans (Evl.Ex.new hr2)) (dp_eS.mpr ⟨r, _, rfl, SqT.of upd_same, dp_eI.mpr ⟨q, rfl, SqT.of ?_⟩⟩)
    rw [upd_ne (ne_of_none upd_same hr2), upd_same]
    rfl
theorem sc_Night_peace : FnScope ["self", "group", "one", "other", "keeper"] ["self", "group"] (defScope s_Night_peace) := ⟨rfl, rfl, rfl, by decide +kernel, rfl, by decide +kernel, by decide +kernel⟩
theorem ok_Night_peace (T : Tx K mg) : HasM P w K mg base CX0 1 "peace" ["self", "group"] (spNPeace K) := by
  obtain ⟨fd, F⟩ := T.f_Night_peace
  refine ⟨T.cl, T.m_peace, fd, F.ok sc_Night_peace (fun vs H Q E h => ?_) (fun cdv A outer s H vs Q E hr h => ⟨_, PSs.nox (pss_cons (ps_for PassesOwn.never rfl (pi_list (pe_fld (pv 0) rfl)) (pg_tup (by rfl) (pgs_cons (pg_name (i := 2) sc_Night_peace.nd rfl (.inl rfl)) (pgs_cons (pg_name (i := 3) sc_Night_peace.nd rfl (.inl rfl)) (pgs_cons (pg_name (i := 4) sc_Night_peace.nd rfl (.inl rfl)) pgs_nil)))) (pss_one (ps_if (PW.pt (pw_and (pt_cmpR (r := rIn K false) op_in_seq (pv 2) (pv 1) (by rfl)) (pw_and (pt_cmpR (r := rIn K false) op_in_seq (pv 3) (pv 1) (by rfl)) (pw_and1 (pt_cmpR (r := rIn K true) op_notIn_seq (pv 4) (pv 1) (by rfl)))))) (pss_one (ps_ret pe_bl)) pss_nil)))
      (pss_one (ps_ret pe_bl))), ?_⟩), F.bindsN fun _ _ _ _ _ _ us hl => match us, hl with | [_, _], _ => rfl⟩
  · obtain ⟨v, n, u, g, rfl, _⟩ := h
    rfl
  · obtain ⟨v, n, u, g, rfl, N, G, k⟩ := h
    obtain ⟨p, dx, a, b, ts, qs, rfl, h1, h2, h3, h4, h5⟩ := N.at_
    obtain ⟨ga, rfl, hg⟩ := dp_eI.mp G
    refine ⟨_, rfl, p, _, dx, _, _, rfl, h1, T.cl, T.na_all_quarrels, nf_q _ _ _, b, rfl, ⟨_, SqL.of h4⟩, for_list (K := K) (a := b) (xs := qs) (fun i σ H' => ∃ x y z, σ = [some (.ref p), some (.ref ga), x, y, z] ∧ H' = H ∧ peace (n.quarrels.take i) g = true) ⟨none, none, none, rfl, rfl, rfl⟩ (fun i σ H' _ ⟨_, _, _, _, e, _⟩ => by rw [e]; exact SqL.of h4) ?_ ?_⟩
    · rintro i x σ H' hi ⟨x0, y0, z0, rfl, rfl, hp⟩
      obtain ⟨d, hd, hx⟩ := dpa_get h5 hi
      rw [List.getElem?_map] at hd
      cases hq : n.quarrels[i]? with
      | none => rw [hq] at hd; cases hd
      | some q =>
        rw [hq] at hd
        cases hd
        obtain ⟨qa, rfl, hqa⟩ := dp_eQ.mp hx
        refine ⟨qa, _, rfl, hqa, rfl, _, _, rfl, _, _, rfl, _, _, rfl, rfl, ?_⟩
        have tk : n.quarrels.take (i + 1) = n.quarrels.take i ++ [q] := by rw [List.take_add_one, hq]; rfl
        have pk : peace (n.quarrels.take (i + 1)) g = !atWar g q := by rw [tk]; unfold peace at hp ⊢; rw [List.all_append, hp]; simp
        refine ⟨_, rfl, _, rfl, ga, _, rfl, .inr hg, rfl, flat_ints g, _, rfl, ?_⟩
        have fin : (if atWar g q = true then Q (.bl false) H' else (∃ x y z, [some (V.ref p), some (V.ref ga), some (.int q.1), some (.int q.2.1), some (.int q.2.2)] = [some (V.ref p), some (V.ref ga), x, y, z] ∧ H' = H' ∧ peace (n.quarrels.take (i + 1)) g = true)) := by
          cases hw : atWar g q with
          | true =>
            rw [if_pos rfl]
            have e : peace n.quarrels g = false := by
              unfold peace
              rw [Bool.eq_false_iff]
              intro h
              have := List.all_eq_true.mp h q (List.mem_of_getElem? hq)
              rw [hw] at this
              cases this
            have := k H' (Evl.Ex.refl H')
            rw [e] at this
            exact this
          | false =>
            rw [if_neg Bool.false_ne_true]
            exact ⟨_, _, _, rfl, rfl, by rw [pk, hw]; rfl⟩
        rw [if_neg Bool.false_ne_true, inV_ints]
        unfold atWar at fin
        cases c1 : g.contains q.1 with
        | false => rw [c1, Bool.false_and] at fin; exact fin
        | true =>
          rw [c1, Bool.true_and] at fin
          refine ⟨_, rfl, _, rfl, ga, _, rfl, .inr hg, rfl, flat_ints g, _, rfl, ?_⟩
          rw [if_neg Bool.false_ne_true, inV_ints]
          cases c2 : g.contains q.2.1 with
          | false => rw [c2, Bool.false_and] at fin; exact fin
          | true =>
            rw [c2, Bool.true_and] at fin
            refine ⟨_, rfl, _, rfl, ga, _, rfl, .inr hg, rfl, flat_ints g, _, rfl, ?_⟩
            rw [if_pos rfl, inV_ints]
            exact fin
    · rintro σ H' ⟨x0, y0, z0, rfl, rfl, hp⟩
      have hl : qs.length = n.quarrels.length := by have := dpa_len h5; rw [List.length_map] at this; exact this
      rw [hl, List.take_length] at hp
      have := k H' (Evl.Ex.refl H')
      rw [hp] at this
      exact this
theorem sc_Night_over_there : FnScope ["self", "group", "thing"] ["self", "group"] (defScope s_Night_over_there) := ⟨rfl, rfl, rfl, by decide +kernel, rfl, by decide +kernel, by decide +kernel⟩
theorem ok_Night_over_there (T : Tx K mg) : HasM P w K mg base CX0 1 "over_there" ["self", "group"] (spNOver K) := by
  obtain ⟨fd, F⟩ := T.f_Night_over_there
  refine ⟨T.cl, T.m_over_there, fd, F.ok sc_Night_over_there (fun vs H Q E h => ?_) (fun cdv A outer s H vs Q E hr h => ⟨_, PSs.nox (pss_one (ps_ret (pe_callTy (r := rTupQ K) call_tuple_of (by rfl) T.b_tuple (by decide +kernel) (pa_cons (pe_lc (own := [("thing", 2)]) (g := gName 2) (by rfl) sc_Night_over_there.nd (pi_range1 rfl T.b_range (pa_cons (pe_callB (r := rLenQ K) call_len_seq (by rfl) T.b_len (by decide +kernel) (pa_cons (pe_fld (pv 0) rfl) pa_nil)) pa_nil)) (blkOk_by (N := ["self", "group", "thing"]) (sc := defScope s_Night_over_there) (by decide +kernel)) (fun _ _ _ _ _ => pg_name (i := 2) sc_Night_over_there.nd rfl (.inl rfl)) (fun _ _ _ _ _ => (pts_one (pt_cmpR (r := rIn K true) op_notIn_seq (pv 2) (pv 1) (by rfl)))) (fun _ _ _ _ _ => (pv 2))) pa_nil)))), ?_⟩), F.bindsN fun _ _ _ _ _ _ us hl => match us, hl with | [_, _], _ => rfl⟩
  · obtain ⟨v, n, u, g, rfl, _⟩ := h
    rfl
  · obtain ⟨v, n, u, g, rfl, N, G, hl, k⟩ := h
    obtain ⟨p, dx, a, b, ts, qs, rfl, h1, h2, h3, h4, h5⟩ := N.at_
    have lf : EvD K (tCB (rLenQ K) (tCons (tFld K (tVar 0) "all_things") tNil)) [some (.ref p), some u, none] H (.int (n.things.length : Nat)) := by
      have e : EvD K (tFld K (tVar 0) "all_things") [some (.ref p), some u, none] H (.list (n.things.map eT)) := fun H1 x Q q =>
        ⟨_, rfl, p, _, dx, _, _, rfl, x _ _ h1, T.cl, T.na_all_things, nf_t _ _ _, q _ H1 (Evl.Ex.refl H1) (dp_lst.mpr ⟨a, ts, rfl, SqL.of (x _ _ h2), dpa_mono x _ _ h3⟩)⟩
      have z := ed_cb (eds_cons e eds_nil) (cd_lenL (K := K))
      rw [List.length_map] at z
      exact z
    refine' w_ret1 (K := K) (d := eI (restOf g n.things.length)) (ed_cb (eds_cons (en_filR (n := (n.things.length : Int)) (fun t => !g.contains t) (eds_cons lf eds_nil) (by omega) (fun _ => rfl) (fun _ => rfl) (fun i hi => ?b)).toD eds_nil) cd_tupL) (fun v4 H4 x4 h4 => k v4 H4 x4 h4)
    case b => walk_at "et"
end

end Fy

namespace Fy
open PySem PySem.Spec PyProof.Rows L2
/-! ### the making of a night -/
def spThings (K : PySem.W.Frag) : Sp := fun vs H Q E => ∃ v ts, vs = [v] ∧ Dp K H v (.list (ts.map eT)) ∧ (thingsOk ts = true → ∀ H', Ex H H' → Q .non H') ∧ (thingsOk ts = false → ∀ H', Ex H H' → E (.ref (He.ga K "BadThing")) none H')
def spQuarrel (K : PySem.W.Frag) : Sp := fun vs H Q E => ∃ (many : Int) (q : Int × Int × Int), DpAll K H vs ([many, q.1, q.2.1, q.2.2].map PyData.int) ∧ (quarrelOk many q = true → ∀ H', Ex H H' → Q .non H') ∧ (quarrelOk many q = false → ∀ H', Ex H H' → E (.ref (He.ga K "BadQuarrel")) none H')
/-- Night(..): what it raises, or a night -/
def spInit (K : PySem.W.Frag) : Sp := fun vs H Q E => ∃ (p dx : Addr) (t q : V) (n : Nt), vs = [.ref p, t, .int n.room, q] ∧ H p = some (.ins (He.ga K "Night") dx []) ∧ Dp K H t (.list (n.things.map eT)) ∧ Dp K H q (.list (n.quarrels.map eQ)) ∧
  (∀ H', n.ok = true → (∀ b o, H b = some o → b ≠ p → H' b = some o) → NightI K H H' (.ref p) n → Q .non H') ∧
  (∀ H', thingsOk n.things = false → Ex H H' → E (.ref (He.ga K "BadThing")) none H') ∧
  (∀ H', thingsOk n.things = true → roomOk n.room = false → Ex H H' → E (.ref (He.ga K "BadRoom")) none H') ∧
  (∀ H', thingsOk n.things = true → roomOk n.room = true → quarrelsOk n.things.length n.quarrels = false → Ex H H' → E (.ref (He.ga K "BadQuarrel")) none H')
section
variable {P : Program} {w : World} {K : PySem.W.Frag} {mg : Str → Option Value} {base : Heap}
theorem sc_look_at_things : FnScope ["things", "pace", "rows"] ["things"] (defScope s_look_at_things) := ⟨rfl, rfl, rfl, by decide +kernel, rfl, by decide +kernel, by decide +kernel⟩
theorem ok_look_at_things (T : Tx K mg) : Has P w K mg base (L2N.CX P w) 1 "look_at_things" ["things"] (spThings K) := by
  obtain ⟨fd, F⟩ := T.f_look_at_things
  obtain ⟨t_SLOWEST, m_SLOWEST⟩ := T.i_SLOWEST
  obtain ⟨t_MOST_THINGS, m_MOST_THINGS⟩ := T.i_MOST_THINGS
  refine ⟨T.g_look_at_things, fd, F.ok sc_look_at_things (fun vs H Q E h => ?_) (fun cdv A outer s H vs Q E hr h => ⟨_, (pss_cons (ps_if (pt_not (pt_chain op_le op_le pe_int (pe_callB (r := rLenQ K) call_len_seq (by rfl) T.b_len (by decide +kernel) (pa_cons (pv 0) pa_nil)) (pe_glob rfl m_MOST_THINGS (v := .int 6) ⟨_, rfl⟩))) (pss_one (ps_raiseOwnN rfl (L2N.takes_of rfl rfl rfl rfl) T.x_BadThing T.g_BadThing rfl)) pss_nil)
      (pss_one (ps_for (passes_of rfl) rfl (pi_list (pv 0)) (pg_tup (by rfl) (pgs_cons (pg_name (i := 1) sc_look_at_things.nd rfl (.inl rfl)) (pgs_cons (pg_name (i := 2) sc_look_at_things.nd rfl (.inl rfl)) pgs_nil))) (pss_one (ps_if (pt_not (pt_chain op_le op_le pe_int (pv 1) (pe_glob rfl m_SLOWEST (v := .int 1000000000) ⟨_, rfl⟩))) (pss_one (ps_raiseOwnN rfl (L2N.takes_of rfl rfl rfl rfl) T.x_BadThing T.g_BadThing rfl)) pss_nil))))), ?_⟩), F.bindsN fun _ _ _ _ _ _ us hl => match us, hl with | [_], _ => rfl, F.kp⟩
  · obtain ⟨v, n, rfl, _⟩ := h
    rfl
  · obtain ⟨v, ts, rfl, hv, kq, ke⟩ := h
    refine' w_when K ?t (fun hb H1 x1 => ?_) (fun hb H1 x1 => ?_)
    case t => walk_at "et"
    · refine ke ?_ H1 x1
      rw [List.length_map] at hb
      unfold thingsOk
      rw [show decide (1 ≤ ts.length ∧ ts.length ≤ 6) = false from decide_eq_false (by simp at hb; omega)]
      rfl
    · rw [List.length_map] at hb
      have hlen : decide (1 ≤ ts.length ∧ ts.length ≤ 6) = true := decide_eq_true (by simp at hb; omega)
      refine w_forLx1 (K := K) (ed_var rfl (dp_mono x1 _ _ hv)) (fun i σ H' => ∃ x y, σ = [some v, x, y] ∧ (ts.take i).all paceOk = true) (fun H2 x2 => ⟨none, none, rfl, rfl⟩) ?_ ?_
      · rintro i d x σ H' hd x2 hx ⟨y, z, rfl, ha⟩
        obtain ⟨t, ht, rfl⟩ := get_map hd
        obtain ⟨a, rfl, hs⟩ := dp_eT.mp hx
        refine g_tup2 rfl hs ?_
        refine' w_when1 K ?t (fun hb H3 x3 => ?_) (fun hb H3 x3 => ?_)
        case t => walk_at "et"
        · refine ke ?_ H3 ((x1.trans x2).trans x3)
          unfold thingsOk
          rw [all_not ht (show paceOk t = false from decide_eq_false (by simp at hb; omega)), Bool.and_false]
        · refine ⟨x3, _, _, rfl, ?_⟩
          rw [all_take ht ha]
          exact decide_eq_true (by simp at hb; omega)
      · rintro σ H' x2 ⟨y, z, rfl, ha⟩
        rw [List.length_map, List.take_length] at ha
        refine kq ?_ H' (x1.trans x2)
        unfold thingsOk
        rw [hlen, ha]
        rfl
theorem sc_look_at_quarrel : FnScope ["many", "one", "other", "keeper"] ["many", "one", "other", "keeper"] (defScope s_look_at_quarrel) := ⟨rfl, rfl, rfl, by decide +kernel, rfl, by decide +kernel, by decide +kernel⟩
theorem ok_look_at_quarrel (T : Tx K mg) : Has P w K mg base (L2N.CX P w) 1 "look_at_quarrel" ["many", "one", "other", "keeper"] (spQuarrel K) := by
  obtain ⟨fd, F⟩ := T.f_look_at_quarrel
  refine ⟨T.g_look_at_quarrel, fd, F.ok sc_look_at_quarrel (fun vs H Q E h => ?_) (fun cdv A outer s H vs Q E hr h => ⟨_, (pss_cons (ps_if (PW.pt (pw_or (pt_not (pt_chain op_le op_lt pe_int (pv 1) (pv 0))) (pw_or (pt_not (pt_chain op_le op_lt pe_int (pv 2) (pv 0))) (pw_or1 (pt_not (pt_chain op_le op_lt (pe_un un_neg pe_int) (pv 3) (pv 0))))))) (pss_one (ps_raiseOwnN rfl (L2N.takes_of rfl rfl rfl rfl) T.x_BadQuarrel T.g_BadQuarrel rfl)) pss_nil)
      (pss_one (ps_if (PW.pt (pw_or (pt_cmpR op_eq (pv 1) (pv 2) (nomark _)) (pw_or (pt_cmpR op_eq (pv 3) (pv 1) (nomark _)) (pw_or1 (pt_cmpR op_eq (pv 3) (pv 2) (nomark _)))))) (pss_one (ps_raiseOwnN rfl (L2N.takes_of rfl rfl rfl rfl) T.x_BadQuarrel T.g_BadQuarrel rfl)) pss_nil))), ?_⟩), F.bindsN fun _ _ _ _ _ _ us hl => match us, hl with | [_, _, _, _], _ => rfl, F.kp⟩
  · obtain ⟨many, q, h, _⟩ := h
    exact dpa_len h
  · obtain ⟨many, q, h, kq, ke⟩ := h
    obtain rfl := dpa_ints.mp h
    refine' w_when K ?t (fun hb H1 x1 => ?_) (fun hb H1 x1 => ?_)
    case t => walk_at "et"
    · refine ke ?_ H1 x1
      unfold quarrelOk quarrelIn
      rw [Bool.and_eq_false_iff]
      left
      simp at hb ⊢
      omega
    · have hin : quarrelIn many q = true := by
        unfold quarrelIn
        simp at hb ⊢
        omega
      refine' w_when1 K ?t (fun hb H2 x2 => ?_) (fun hb H2 x2 => ?_)
      case t => walk_at "et"
      · refine ke ?_ H2 (x1.trans x2)
        unfold quarrelOk quarrelTwo
        rw [Bool.and_eq_false_iff]
        right
        simp at hb ⊢
        omega
      · refine kq ?_ H2 (x1.trans x2)
        unfold quarrelOk quarrelTwo
        rw [hin]
        simp at hb ⊢
        omega
theorem sc_Night___init__ : FnScope ["self", "things", "room", "quarrels", "one", "other", "keeper"] ["self", "things", "room", "quarrels"] (defScope s_Night___init__) := ⟨rfl, rfl, rfl, by decide +kernel, rfl, by decide +kernel, by decide +kernel⟩
theorem ok_Night___init__ (T : Tx K mg) : ∃ fd, FnOk P w K mg base (L2N.CX P w) 2 (He.ma K (He.ga K "Night") "__init__") fd ["self", "things", "room", "quarrels"] (spInit K) ∧ Binds K fd ["self", "things", "room", "quarrels"] [] := by
  obtain ⟨fd, F⟩ := T.f_Night___init__
  have G_look_at_quarrel := ok_look_at_quarrel (P := P) (w := w) (base := base) T
  have G_look_at_things := ok_look_at_things (P := P) (w := w) (base := base) T
  obtain ⟨t_MOST_QUARRELS, m_MOST_QUARRELS⟩ := T.i_MOST_QUARRELS
  obtain ⟨t_MOST_ROOM, m_MOST_ROOM⟩ := T.i_MOST_ROOM
  refine ⟨fd, F.ok sc_Night___init__ (fun vs H Q E h => ?_) (fun cdv A outer s H vs Q E hr h => ⟨_, (pss_cons (ps_expr (pe_fxN G_look_at_things (hr.mono (by decide)) rfl (L2N.takes_of rfl rfl rfl rfl) (pa_cons (pv 1) pa_nil)))
      (pss_cons (ps_if (pt_not (pt_chain op_le op_le pe_int (pv 2) (pe_glob rfl m_MOST_ROOM (v := .int 3) ⟨_, rfl⟩))) (pss_one (ps_raiseOwnN rfl (L2N.takes_of rfl rfl rfl rfl) T.x_BadRoom T.g_BadRoom rfl)) pss_nil)
      (pss_cons (ps_if (pt_cmpR op_gt (pe_callB (r := rLenQ K) call_len_seq (by rfl) T.b_len (by decide +kernel) (pa_cons (pv 3) pa_nil)) (pe_glob rfl m_MOST_QUARRELS (v := .int 30) ⟨_, rfl⟩) (nomark _)) (pss_one (ps_raiseOwnN rfl (L2N.takes_of rfl rfl rfl rfl) T.x_BadQuarrel T.g_BadQuarrel rfl)) pss_nil)
      (pss_cons (ps_for (passes_of rfl) rfl (pi_list (pv 3)) (pg_tup (by rfl) (pgs_cons (pg_name (i := 4) sc_Night___init__.nd rfl (.inl rfl)) (pgs_cons (pg_name (i := 5) sc_Night___init__.nd rfl (.inl rfl)) (pgs_cons (pg_name (i := 6) sc_Night___init__.nd rfl (.inl rfl)) pgs_nil)))) (pss_one (ps_expr (pe_fxN G_look_at_quarrel (hr.mono (by decide)) rfl (L2N.takes_of rfl rfl rfl rfl) (pa_cons (pe_callB (r := rLenQ K) call_len_seq (by rfl) T.b_len (by decide +kernel) (pa_cons (pv 1) pa_nil)) (pa_cons (pv 4) (pa_cons (pv 5) (pa_cons (pv 6) pa_nil))))))))
      (pss_cons (ps_fld (pv 0) (pe_callTy (r := rListQ K) call_list_of (by rfl) T.b_list (by decide +kernel) (pa_cons (pv 1) pa_nil)) rfl)
      (pss_cons (ps_fld (pv 0) (pv 2) rfl)
      (pss_one (ps_fld (pv 0) (pe_callTy (r := rListQ K) call_list_of (by rfl) T.b_list (by decide +kernel) (pa_cons (pv 3) pa_nil)) rfl)))))))), ?_⟩), F.bindsN fun _ _ _ _ _ _ us hl => match us, hl with | [_, _, _, _], _ => rfl⟩
  · obtain ⟨p, dx, t, q, n, rfl, _⟩ := h
    rfl
  · obtain ⟨p, dx, t, q, n, rfl, hp, ht, hq, kq, kT, kR, kQ⟩ := h
    refine' w_callS (K := K) (ds := [.list (n.things.map eT)]) ?a (fun vs H0 x0 hv => ?_)
    case a => walk_at "eds"
    obtain ⟨t', rfl, ht'⟩ : ∃ t', vs = [t'] ∧ Dp K H0 t' (.list (n.things.map eT)) := by
      cases hv with
      | cons h1 h2 => cases h2; exact ⟨_, rfl, h1⟩
    refine ⟨t', n.things, rfl, ht', fun okT H1 x1' => ?_, fun okT H1 x1' => kT H1 okT (x0.trans x1')⟩
    have x1 := x0.trans x1'
    clear x1'
    have fr : ∀ b o, H b = some o → b ≠ p → H1 b = some o := fun b o e _ => x1 b o e
    refine' w_when K ?t (fun hb H2 x2 => ?_) (fun hb H2 x2 => ?_)
    case t => walk_at "et"
    · exact kR H2 okT (decide_eq_false (by simp at hb; omega)) (x1.trans x2)
    · have okR : roomOk n.room = true := decide_eq_true (by simp at hb; omega)
      refine' w_when K ?t (fun hb H3 x3 => ?_) (fun hb H3 x3 => ?_)
      case t => walk_at "et"
      · refine kQ H3 okT okR ?_ ((x1.trans x2).trans x3)
        unfold quarrelsOk
        rw [decide_eq_false (by simp at hb; omega)]
        rfl
      · have hlen : n.quarrels.length ≤ 30 := by simp at hb; omega
        have e3 := (x1.trans x2).trans x3
        refine w_forLx (K := K) (ed_var rfl (dp_mono e3 _ _ hq)) (fun i σ H' => ∃ x y z, σ = [some (.ref p), some t, some (.int n.room), some q, x, y, z] ∧ (n.quarrels.take i).all (quarrelOk n.things.length) = true) (fun H4 x4 => ⟨none, none, none, rfl, rfl⟩) ?_ ?_
        · rintro i d x σ H' hd x4 hx ⟨y0, y1, y2, rfl, ha⟩
          obtain ⟨u, hu, rfl⟩ := get_map hd
          obtain ⟨a, rfl, hs⟩ := dp_eQ.mp hx
          refine g_tup3 rfl hs ?_
          have ht4 := dp_mono (e3.trans x4) _ _ ht
          refine' w_callS1 (K := K) (ds := [.int ((n.things.map eT).length : Nat), .int u.1, .int u.2.1, .int u.2.2]) ?a (fun vs H5 x5 hvs => ?_)
          case a => walk_at "eds"
          rw [List.length_map] at hvs
          refine ⟨(n.things.length : Int), u, hvs, fun ok H6 x6 => ?_, fun ok H6 x6 => ?_⟩
          · refine ⟨x5.trans x6, _, _, _, rfl, ?_⟩
            rw [all_take hu ha]
            exact ok
          · refine kQ H6 okT okR ?_ (((e3.trans x4).trans x5).trans x6)
            unfold quarrelsOk
            rw [all_not hu ok, Bool.and_false]
        · rintro σ H' x4 ⟨y0, y1, y2, rfl, ha⟩
          rw [List.length_map, List.take_length] at ha
          have okQ : quarrelsOk n.things.length n.quarrels = true := by
            unfold quarrelsOk
            rw [ha, decide_eq_true hlen]
            rfl
          have okN : n.ok = true := by
            unfold Nt.ok
            rw [okT, okR, okQ]
            rfl
          have e4 := e3.trans x4
          obtain ⟨ta, ts, rfl, hta, hts⟩ := dp_lst.mp (dp_mono e4 _ _ ht)
          obtain ⟨qa, qs, rfl, hqa, hqs⟩ := dp_lst.mp (dp_mono e4 _ _ hq)
          have hp4 := e4 _ _ hp
          refine ⟨_, rfl, ta, ts, rfl, .inl hta, fun l hl => ?_⟩
          have el := Evl.Ex.new (o := .lst ts) hl
          have npl : p ≠ l := ne_of_none hp4 hl
          have tl : DpAll K (upd H' l (.lst ts)) ts (n.things.map eT) := dpa_mono el _ _ hts
          have ql : DpAll K (upd H' l (.lst ts)) qs (n.quarrels.map eQ) := dpa_mono el _ _ hqs
          have hqa' : SqL K (upd H' l (.lst ts)) qa qs := Evl.ex_l el hqa
          refine ⟨_, rfl, p, _, dx, [], rfl, el _ _ hp4, T.cl, T.na_all_things, (by show 0 < 1000; decide), ?_⟩
          -- self.all_things stands
          have up1 : ∀ (H : Hp) (o : HO) (C dx : Addr) (fs : List (Str × V)), H p = some (.ins C dx fs) → Up H (upd H p o) := fun H o C dx fs h => ⟨fun a xs e => by rw [upd_ne (fun q => by rw [q, h] at e; cases e)]; exact e, fun a ob u e => by rw [upd_ne (fun q => by rw [q, h] at e; cases e)]; exact e⟩
          have nT : noLs (n.things.map eT) = true := noLs_map noL_eT _
          have nQ : noLs (n.quarrels.map eQ) = true := noLs_map noL_eQ _
          refine ⟨_, rfl, _, rfl, p, _, dx, _, rfl, upd_same, T.cl, T.na_places, (by have := length_putF "all_things" (.ref l) []; simp at this; omega), ?_⟩
          have sq : ∀ (o : HO) (H0 : Hp) (C dx : Addr) (fs : List (Str × V)), H0 p = some (.ins C dx fs) → SqL K H0 qa qs → SqL K (upd H0 p o) qa qs := fun o H0 C dx fs h0 h => by
            rcases h with (h | ⟨ob, h⟩) | h
            · exact .inl (.inl (by rw [upd_ne (fun q => by rw [q, h0] at h; cases h)]; exact h))
            · exact .inl (.inr ⟨ob, by rw [upd_ne (fun q => by rw [q, h0] at h; cases h)]; exact h⟩)
            · exact .inr h
          have hqa2 := sq (.ins (He.ga K "Night") dx (putF "places" (.int n.room) (putF "all_things" (.ref l) []))) _ _ _ _ upd_same (sq (.ins (He.ga K "Night") dx (putF "all_things" (.ref l) [])) _ _ _ _ (el _ _ hp4) hqa')
          refine ⟨_, rfl, qa, qs, rfl, .inl hqa2, fun m hm => ?_⟩
          have npm : p ≠ m := fun z => by rw [z, upd_same] at hm; cases hm
          have nlm : l ≠ m := fun z => by rw [← z, upd_ne npl.symm, upd_ne npl.symm, upd_same] at hm; cases hm
          refine ⟨_, rfl, p, _, dx, _, rfl, Eq.trans (upd_ne npm) upd_same, T.cl, T.na_all_quarrels, (by have h1 := length_putF "places" (.int n.room) (putF "all_things" (.ref l) []); have h2 := length_putF "all_things" (.ref l) []; simp at h2; omega), ?_⟩
          have hm4 : H' m = none := by
            rw [upd_ne npm.symm, upd_ne npm.symm, upd_ne nlm.symm] at hm
            exact hm
          have uA := up1 (upd H' l (.lst ts)) (.ins (He.ga K "Night") dx (putF "all_things" (.ref l) [])) _ _ _ (el _ _ hp4)
          have uB := up1 (upd (upd H' l (.lst ts)) p (.ins (He.ga K "Night") dx (putF "all_things" (.ref l) []))) (.ins (He.ga K "Night") dx (putF "places" (.int n.room) (putF "all_things" (.ref l) []))) _ _ _ upd_same
          have uC : Up _ (upd (upd (upd (upd H' l (.lst ts)) p (.ins (He.ga K "Night") dx (putF "all_things" (.ref l) []))) p (.ins (He.ga K "Night") dx (putF "places" (.int n.room) (putF "all_things" (.ref l) [])))) m (.lst qs)) := Up.new hm
          have uD := up1 (upd (upd (upd (upd H' l (.lst ts)) p (.ins (He.ga K "Night") dx (putF "all_things" (.ref l) []))) p (.ins (He.ga K "Night") dx (putF "places" (.int n.room) (putF "all_things" (.ref l) [])))) m (.lst qs)) (.ins (He.ga K "Night") dx (nf l n.room m)) _ _ _ (Eq.trans (upd_ne npm) upd_same)
          have uu := ((uA.trans uB).trans uC).trans uD
          refine kq _ okN (fun b o e hb => ?_) ⟨p, dx, l, m, ts, qs, rfl, upd_same, ?_, dpa_up uu _ _ nT tl, ?_, dpa_up uu _ _ nQ ql, Evl.fresh_back e4 hl, Evl.fresh_back e4 hm4⟩
          · have eb := e4 b o e
            rw [upd_ne hb, upd_ne (ne_of_none eb hm4), upd_ne hb, upd_ne hb, upd_ne (ne_of_none eb hl)]
            exact eb
          · rw [upd_ne npl.symm, upd_ne nlm, upd_ne npl.symm, upd_ne npl.symm, upd_same]
          · rw [upd_ne npm.symm, upd_same]
end

end Fy

namespace Fy
open PySem PySem.Spec PyProof.Rows L2
/-! ### what the laws' own helpers reckon -/
def cell (ns : List Int) (k : Int) : Int := ns.getD k.toNat 0
def lqOther (c m : Int) : Int := (c % m + 1 + c / m % (m - 1)) % m
def lqLeft (c m : Int) : List Int := (rng m.toNat).filter fun t => !decide (t = c % m) && !decide (t = lqOther c m)
def lqKeep (c m : Int) : Int := if (decide (0 < c / (m * (m - 1)) % 3) && decide (0 < ((lqLeft c m).length : Int))) = true then (lqLeft c m).getD ((c / (m * (m - 1)) / 3) % ((lqLeft c m).length : Int)).toNat 0 else -1
def lawQuarrel (c m : Int) : Int × Int × Int := (c % m, lqOther c m, lqKeep c m)
def lawQuarrels (ns : List Int) (start m : Int) : List (Int × Int × Int) := if m = 1 then [] else (List.range (cell ns start % 5).toNat).map fun k : Nat => lawQuarrel (cell ns (start + 1 + k) % 1000000000) m
def ltMost (ns : List Int) (start : Int) : Int := ([20, 4, 1000000000] : List Int).getD (cell ns start % 3).toNat 0
def lawThing (ns : List Int) (start k : Int) : Int × Bool := (1 + cell ns (start + 1 + k) / 3 % ltMost ns start, decide (cell ns (start + 1 + k) % 3 < 2))
def lawThings (ns : List Int) (start m : Int) : List (Int × Bool) := (List.range m.toNat).map fun k : Nat => lawThing ns start k
def lawMany (ns : List Int) (most : Int) : Int := if cell ns 0 / 8 % 2 = 1 then most else 1 + cell ns 0 % most
def lawRoom (ns : List Int) : Int := ([2, 3, 2, 1] : List Int).getD (cell ns 1 % 4).toNat 0
def lawNight (ns : List Int) (most : Int) : Nt := ⟨lawThings ns 2 (lawMany ns most), lawRoom ns, lawQuarrels ns 10 (lawMany ns most)⟩
def bitsL (x : Int) (m : Nat) : List Int := (rng m).filter fun i => decide (x / 2 ^ i.toNat % 2 = 1)
def groups (m : Nat) : List (List Int) := (List.range (2 ^ m)).map fun x : Nat => bitsL x m
def good (qs : List (Int × Int × Int)) (g : List Int) (m : Nat) : Bool := peace qs g && peace qs (restOf g m)
theorem rng_succ (n : Nat) : rng (n + 1) = rng n ++ [(n : Int)] := by simp [rng, List.range_succ]
theorem rng_nodup (n : Nat) : (rng n).Nodup := by
  unfold rng
  rw [List.nodup_iff_pairwise_ne, List.pairwise_map]
  have h := List.nodup_range (n := n)
  rw [List.nodup_iff_pairwise_ne] at h
  exact h.imp fun {a b} h e => h (by omega)
theorem lawMany_le {ns : List Int} {most : Int} (h : 1 ≤ most) : 1 ≤ lawMany ns most ∧ lawMany ns most ≤ most := by
  unfold lawMany
  have h1 := Int.emod_nonneg (cell ns 0) (show most ≠ 0 by omega)
  have h2 := Int.emod_lt_of_pos (cell ns 0) (show 0 < most by omega)
  split <;> omega
theorem lawThings_len (ns : List Int) (start m : Int) : (lawThings ns start m).length = m.toNat := by simp [lawThings]
theorem ltMost_ok (ns : List Int) (start : Int) : 0 < ltMost ns start ∧ ltMost ns start ≤ 1000000000 := by
  unfold ltMost
  have h1 := Int.emod_nonneg (cell ns start) (show (3 : Int) ≠ 0 by decide)
  have h2 := Int.emod_lt_of_pos (cell ns start) (show (0 : Int) < 3 by decide)
  obtain h | h | h : cell ns start % 3 = 0 ∨ cell ns start % 3 = 1 ∨ cell ns start % 3 = 2 := by omega
  all_goals rw [h]; decide
theorem lawRoom_ok (ns : List Int) : roomOk (lawRoom ns) = true := by
  unfold lawRoom roomOk
  have h1 := Int.emod_nonneg (cell ns 1) (show (4 : Int) ≠ 0 by decide)
  have h2 := Int.emod_lt_of_pos (cell ns 1) (show (0 : Int) < 4 by decide)
  obtain h | h | h | h : cell ns 1 % 4 = 0 ∨ cell ns 1 % 4 = 1 ∨ cell ns 1 % 4 = 2 ∨ cell ns 1 % 4 = 3 := by omega
  all_goals rw [h]; decide
theorem lawThing_ok (ns : List Int) (start k : Int) : paceOk (lawThing ns start k) = true := by
  obtain ⟨h0, h1⟩ := ltMost_ok ns start
  have h2 := Int.emod_nonneg (cell ns (start + 1 + k) / 3) (show ltMost ns start ≠ 0 by omega)
  have h3 := Int.emod_lt_of_pos (cell ns (start + 1 + k) / 3) h0
  exact decide_eq_true ⟨show 1 ≤ 1 + _ by omega, show 1 + _ ≤ 1000000000 by omega⟩
theorem lawThings_ok (ns : List Int) (start m : Int) (h1 : 1 ≤ m) (h2 : m ≤ 6) : thingsOk (lawThings ns start m) = true := by
  unfold thingsOk
  rw [lawThings_len, decide_eq_true (by omega : 1 ≤ m.toNat ∧ m.toNat ≤ 6)]
  simp only [lawThings, Bool.true_and, List.all_map, List.all_eq_true]
  intro x _
  exact lawThing_ok ns start x
theorem lqOther_ok (c m : Int) (h : 2 ≤ m) : 0 ≤ lqOther c m ∧ lqOther c m < m ∧ lqOther c m ≠ c % m := by
  unfold lqOther
  have a1 := Int.emod_nonneg c (show m ≠ 0 by omega)
  have a2 := Int.emod_lt_of_pos c (show 0 < m by omega)
  have b1 := Int.emod_nonneg (c / m) (show m - 1 ≠ 0 by omega)
  have b2 := Int.emod_lt_of_pos (c / m) (show 0 < m - 1 by omega)
  refine ⟨Int.emod_nonneg _ (by omega), Int.emod_lt_of_pos _ (by omega), ?_⟩
  by_cases hc : c % m + 1 + c / m % (m - 1) < m
  · rw [Int.emod_eq_of_lt (by omega) hc]; omega
  · have e : (c % m + 1 + c / m % (m - 1)) % m = c % m + 1 + c / m % (m - 1) - m := by
      rw [← Int.sub_emod_right, Int.emod_eq_of_lt (by omega) (by omega)]
    rw [e]; omega
theorem lawQuarrel_ok (c m : Int) (h : 2 ≤ m) : quarrelOk m (lawQuarrel c m) = true := by
  have a1 := Int.emod_nonneg c (show m ≠ 0 by omega)
  have a2 := Int.emod_lt_of_pos c (show 0 < m by omega)
  obtain ⟨o1, o2, o3⟩ := lqOther_ok c m h
  have k : (lqKeep c m = -1) ∨ (0 ≤ lqKeep c m ∧ lqKeep c m < m ∧ lqKeep c m ≠ c % m ∧ lqKeep c m ≠ lqOther c m) := by
    unfold lqKeep
    split
    · rename_i hc
      right
      simp only [Bool.and_eq_true, decide_eq_true_eq] at hc
      have hl : 0 < ((lqLeft c m).length : Int) := hc.2
      have i1 := Int.emod_nonneg (c / (m * (m - 1)) / 3) (show ((lqLeft c m).length : Int) ≠ 0 by omega)
      have i2 := Int.emod_lt_of_pos (c / (m * (m - 1)) / 3) hl
      have hi : ((c / (m * (m - 1)) / 3) % ((lqLeft c m).length : Int)).toNat < (lqLeft c m).length := by omega
      have hm : (lqLeft c m).getD ((c / (m * (m - 1)) / 3) % ((lqLeft c m).length : Int)).toNat 0 ∈ lqLeft c m := by
        rw [List.getD_eq_getElem?_getD, List.getElem?_eq_getElem hi]
        exact List.getElem_mem hi
      have hm2 := hm
      unfold lqLeft at hm2
      rw [List.mem_filter, mem_rng] at hm2
      simp only [Bool.and_eq_true, Bool.not_eq_true', decide_eq_false_iff_not] at hm2
      obtain ⟨⟨g1, g2⟩, g3, g4⟩ := hm2
      have e : (m.toNat : Int) = m := by omega
      rw [e] at g2
      exact ⟨g1, g2, g3, g4⟩
    · left; rfl
  unfold quarrelOk quarrelIn quarrelTwo lawQuarrel
  simp only [Bool.and_eq_true, Bool.not_eq_true', Bool.or_eq_false_iff, decide_eq_true_eq, decide_eq_false_iff_not]
  omega
theorem lawQuarrels_ok (ns : List Int) (start m : Int) (h : 1 ≤ m) : quarrelsOk m (lawQuarrels ns start m) = true ∧ (lawQuarrels ns start m).length ≤ 4 := by
  have h1 := Int.emod_nonneg (cell ns start) (show (5 : Int) ≠ 0 by decide)
  have h2 := Int.emod_lt_of_pos (cell ns start) (show (0 : Int) < 5 by decide)
  have hl : (lawQuarrels ns start m).length ≤ 4 := by
    unfold lawQuarrels
    split
    · simp
    · rw [List.length_map, List.length_range]; omega
  refine ⟨?_, hl⟩
  unfold quarrelsOk
  rw [decide_eq_true (Nat.le_trans hl (by decide)), Bool.true_and]
  unfold lawQuarrels
  split
  · rfl
  · rw [List.all_map, List.all_eq_true]
    intro x _
    exact lawQuarrel_ok _ _ (by omega)
theorem lawNight_ok (ns : List Int) (most : Int) (h1 : 1 ≤ most) (h2 : most ≤ 6) : (lawNight ns most).ok = true := by
  obtain ⟨a, b⟩ := lawMany_le (ns := ns) h1
  unfold Nt.ok lawNight
  rw [lawThings_ok _ _ _ a (by omega), lawRoom_ok]
  simp only [Bool.true_and]
  rw [lawThings_len, show (((lawMany ns most).toNat : Nat) : Int) = lawMany ns most by omega]
  exact (lawQuarrels_ok ns 10 _ a).1
theorem bitsL_succ (x : Int) (m : Nat) : bitsL x (m + 1) = bitsL x m ++ (if x / 2 ^ m % 2 = 1 then [(m : Int)] else []) := by
  unfold bitsL
  rw [rng_succ, List.filter_append]
  congr 1
  rw [List.filter_cons]
  by_cases h : x / 2 ^ m % 2 = 1
  · rw [if_pos (by simpa using h), if_pos h]; rfl
  · rw [if_neg (by simpa using h), if_neg h]; rfl
theorem pow_step (x : Int) (m : Nat) : x / 2 ^ m / 2 = x / 2 ^ (m + 1) := by
  rw [Int.pow_succ, Int.ediv_ediv_of_nonneg (Int.le_of_lt (Int.pow_pos (by decide)))]

end Fy

namespace Fy
open PySem PySem.Spec PyProof.Rows L2
/-! ### the laws' own helpers, walked -/
def eNt (n : Nt) : PyData := .tuple [.list (n.things.map eT), .int n.room, .list (n.quarrels.map eQ)]
def eScript (ns : List Int) : PyData := .list (ns.map .int)
def spCell (K : PySem.W.Frag) : Sp := spP K (fun x : List Int × Int => 0 ≤ x.2 ∧ x.1.length ≤ 63) (fun x => [eScript x.1, .int x.2]) (fun x => .int (cell x.1 x.2))
def spQ1 (K : PySem.W.Frag) : Sp := spP K (fun x : Int × Int => 2 ≤ x.2 ∧ x.2 ≤ 1000) (fun x => [.int x.1, .int x.2]) (fun x => eQ (lawQuarrel x.1 x.2))
def spQs (K : PySem.W.Frag) : Sp := spL K (fun x : List Int × Int × Int => 0 ≤ x.2.1 ∧ 1 ≤ x.2.2 ∧ x.2.2 ≤ 1000 ∧ x.1.length ≤ 63) (fun x => [eScript x.1, .int x.2.1, .int x.2.2]) (fun x => (lawQuarrels x.1 x.2.1 x.2.2).map eQ)
def spTs (K : PySem.W.Frag) : Sp := spL K (fun x : List Int × Int × Int => 0 ≤ x.2.1 ∧ 1 ≤ x.2.2 ∧ x.2.2 ≤ 1000 ∧ x.1.length ≤ 63) (fun x => [eScript x.1, .int x.2.1, .int x.2.2]) (fun x => (lawThings x.1 x.2.1 x.2.2).map eT)
/-- the law's own night: a tuple whose lists are its own -/
def NightT (K : PySem.W.Frag) (H0 : Hp) (v : V) (H : Hp) (n : Nt) : Prop := ∃ a t q, v = .ref a ∧ SqT K H a [t, .int n.room, q] ∧ NewL K H0 t H (n.things.map eT) ∧ NewL K H0 q H (n.quarrels.map eQ)
theorem NightT.dp {K : PySem.W.Frag} {H0 H : Hp} {v : V} {n : Nt} (h : NightT K H0 v H n) : Dp K H v (eNt n) := by
  obtain ⟨a, t, q, rfl, h1, h2, h3⟩ := h
  exact dp_tup.mpr ⟨a, _, rfl, h1, .cons h2.dp (.cons (.int _) (.cons h3.dp .nil))⟩
theorem NewL.mono {K : PySem.W.Frag} {H0 H H' : Hp} {v : V} {ds : List PyData} (e : Ex H H') (h : NewL K H0 v H ds) : NewL K H0 v H' ds := by
  obtain ⟨p, xs, e1, n, h1, h2⟩ := h
  exact ⟨p, xs, e1, n, e _ _ h1, dpa_mono e _ _ h2⟩
theorem NightT.mono {K : PySem.W.Frag} {H0 H H' : Hp} {v : V} {n : Nt} (e : Ex H H') (h : NightT K H0 v H n) : NightT K H0 v H' n := by
  obtain ⟨a, t, q, rfl, h1, h2, h3⟩ := h
  exact ⟨a, t, q, rfl, Evl.ex_t e h1, h2.mono e, h3.mono e⟩
def spNt (K : PySem.W.Frag) : Sp := fun vs H Q _ => ∃ x : List Int × Int, (1 ≤ x.2 ∧ x.2 ≤ 6 ∧ x.1.length ≤ 63) ∧ DpAll K H vs [eScript x.1, .int x.2] ∧ RetR (fun v H' => NightT K H v H' (lawNight x.1 x.2)) H Q
theorem w_asgNt {K : PySem.W.Frag} {σ : L2.St} {H : Hp} {tr : TA} {i : Nat} {D : Ends} {tz : TS} (ns : List Int) (most : Int) (hx : 1 ≤ most ∧ most ≤ 6 ∧ ns.length ≤ 63) (h : EvDs K tr σ H [eScript ns, .int most])
    (k : ∀ v H1, Ex H H1 → NightT K H v H1 (lawNight ns most) → tz D (σ.set i (some v)) H1) : tSeq (tAsg (tCall (spNt K) [] E0 tr) (gName i)) tz D σ H :=
  h H (Evl.Ex.refl H) _ fun vs H2 x2 h2 => ⟨(ns, most), hx, by rw [List.append_nil]; exact h2, fun v H3 x3 h3 => k v H3 (x2.trans x3) (by
    obtain ⟨a, t, q, e, h1, h4, h5⟩ := h3
    exact ⟨a, t, q, e, h1, h4.back x2, h5.back x2⟩)⟩
section
variable {K : PySem.W.Frag} {σ : L2.St} {H : Hp} {ta tb tc : TE} {E : XK}
theorem ed_cell {ns : List Int} {k : Int} (hs : EvD K ta σ H (eScript ns)) (hk : EvD K tb σ H (.int k)) (h0 : 0 ≤ k ∧ ns.length ≤ 63) : EvD K (tCall (spCell K) [] E (tCons ta (tCons tb tNil))) σ H (.int (cell ns k)) :=
  ed_call (x := (ns, k)) h0 (eds_cons hs (eds_cons hk eds_nil))
theorem ed_q1 {c m : Int} (hs : EvD K ta σ H (.int c)) (hk : EvD K tb σ H (.int m)) (h0 : 2 ≤ m ∧ m ≤ 1000) : EvD K (tCall (spQ1 K) [] E (tCons ta (tCons tb tNil))) σ H (eQ (lawQuarrel c m)) :=
  ed_call (x := (c, m)) h0 (eds_cons hs (eds_cons hk eds_nil))
theorem i_Cell {tr : TA} {d : PyData} {K' : PySem.W.Frag} (h : EvD K (tCall (spCell K') [] E tr) σ H d) : EvD K (tCall (spCell K') [] E tr) σ H d := h
theorem i_Q1 {tr : TA} {d : PyData} {K' : PySem.W.Frag} (h : EvD K (tCall (spQ1 K') [] E tr) σ H d) : EvD K (tCall (spQ1 K') [] E tr) σ H d := h
end
def spPe (K : PySem.W.Frag) : Sp := spP K (fun _ : List (Int × Int × Int) × List Int => True) (fun x => [.list (x.1.map eQ), eI x.2]) (fun x => .bool (peace x.1 x.2))
def spBits (K : PySem.W.Frag) : Sp := spP K (fun x : Int × Nat => x.2 ≤ 1000) (fun x => [.int x.1, .int (x.2 : Int)]) (fun x => eI (bitsL x.1 x.2))
def spGroups (K : PySem.W.Frag) : Sp := spL K (fun x : Nat => x ≤ 6) (fun x => [.int (x : Int)]) (fun x => (groups x).map eI)
def spRest (K : PySem.W.Frag) : Sp := spP K (fun x : List Int × Nat => x.2 ≤ 1000) (fun x => [eI x.1, .int (x.2 : Int)]) (fun x => eI (restOf x.1 x.2))
def spGood (K : PySem.W.Frag) : Sp := spP K (fun x : List (Int × Int × Int) × List Int × Nat => x.2.2 ≤ 1000) (fun x => [.list (x.1.map eQ), eI x.2.1, .int (x.2.2 : Int)]) (fun x => .bool (good x.1 x.2.1 x.2.2))
def spWhole (K : PySem.W.Frag) : Sp := spP K (fun _ : PyData => True) (fun x => [x]) (fun x => .bool (decide (tyN x = "int")))
section
variable {K : PySem.W.Frag} {σ : L2.St} {H : Hp} {ta tb tc : TE} {E : XK}
theorem ed_pe {qs : List (Int × Int × Int)} {g : List Int} (h1 : EvD K ta σ H (.list (qs.map eQ))) (h2 : EvD K tb σ H (eI g)) : EvD K (tCall (spPe K) [] E (tCons ta (tCons tb tNil))) σ H (.bool (peace qs g)) :=
  ed_call (x := (qs, g)) trivial (eds_cons h1 (eds_cons h2 eds_nil))
theorem ed_bits {c : Int} {m : Nat} (h1 : EvD K ta σ H (.int c)) (h2 : EvD K tb σ H (.int (m : Int))) (h0 : m ≤ 1000) : EvD K (tCall (spBits K) [] E (tCons ta (tCons tb tNil))) σ H (eI (bitsL c m)) :=
  ed_call (x := (c, m)) h0 (eds_cons h1 (eds_cons h2 eds_nil))
theorem en_groups {m : Nat} (h2 : EvD K tb σ H (.int (m : Int))) (h0 : m ≤ 6) : EvN K (tCall (spGroups K) [] E (tCons tb tNil)) σ H ((groups m).map eI) :=
  en_call (x := m) h0 (eds_cons h2 eds_nil)
theorem ed_rest {g : List Int} {m : Nat} (h1 : EvD K ta σ H (eI g)) (h2 : EvD K tb σ H (.int (m : Int))) (h0 : m ≤ 1000) : EvD K (tCall (spRest K) [] E (tCons ta (tCons tb tNil))) σ H (eI (restOf g m)) :=
  ed_call (x := (g, m)) h0 (eds_cons h1 (eds_cons h2 eds_nil))
theorem ed_good {qs : List (Int × Int × Int)} {g : List Int} {m : Nat} (h1 : EvD K ta σ H (.list (qs.map eQ))) (h2 : EvD K tb σ H (eI g)) (h3 : EvD K tc σ H (.int (m : Int))) (h0 : m ≤ 1000) : EvD K (tCall (spGood K) [] E (tCons ta (tCons tb (tCons tc tNil)))) σ H (.bool (good qs g m)) :=
  ed_call (x := (qs, g, m)) h0 (eds_cons h1 (eds_cons h2 (eds_cons h3 eds_nil)))
theorem ed_whole {d : PyData} (h1 : EvD K ta σ H d) : EvD K (tCall (spWhole K) [] E (tCons ta tNil)) σ H (.bool (decide (tyN d = "int"))) := ed_call (x := d) trivial (eds_cons h1 eds_nil)
variable {tr : TA} {d : PyData} {K' : PySem.W.Frag}
theorem i_Pe (h : EvD K (tCall (spPe K') [] E tr) σ H d) : EvD K (tCall (spPe K') [] E tr) σ H d := h
theorem i_Bits (h : EvD K (tCall (spBits K') [] E tr) σ H d) : EvD K (tCall (spBits K') [] E tr) σ H d := h
theorem i_Rest (h : EvD K (tCall (spRest K') [] E tr) σ H d) : EvD K (tCall (spRest K') [] E tr) σ H d := h
theorem i_Good (h : EvD K (tCall (spGood K') [] E tr) σ H d) : EvD K (tCall (spGood K') [] E tr) σ H d := h
theorem i_Whole (h : EvD K (tCall (spWhole K') [] E tr) σ H d) : EvD K (tCall (spWhole K') [] E tr) σ H d := h
end
def spSame (K : PySem.W.Frag) : Sp := spP K (fun x : List PyData × List PyData => SeqAt.shaped (.list x.1) = true ∧ SeqAt.shaped (.list x.2) = true) (fun x => [.list x.1, .list x.2]) (fun x => .bool (PyData.eqvAll x.1 x.2 && x.1.all (isT "tuple")))
theorem ed_same {K : PySem.W.Frag} {σ : L2.St} {H : Hp} {ta tb : TE} {E : XK} {α : Type} [DecidableEq α] {f : α → PyData} (hf : ∀ x y, PyData.eqv (f x) (f y) = decide (x = y)) (ht : ∀ x, isT "tuple" (f x) = true) (hs : ∀ xs : List α, SeqAt.shaped (.list (xs.map f)) = true) {xs ys : List α} (h1 : EvD K ta σ H (.list (xs.map f))) (h2 : EvD K tb σ H (.list (ys.map f))) :
    EvD K (tCall (spSame K) [] E (tCons ta (tCons tb tNil))) σ H (.bool (decide (xs = ys))) :=
  EvD.cast (ed_call (x := (xs.map f, ys.map f)) ⟨hs xs, hs ys⟩ (eds_cons h1 (eds_cons h2 eds_nil))) (by
    have e : (xs.map f).all (isT "tuple") = true := by rw [List.all_eq_true]; intro d hd; obtain ⟨a, _, rfl⟩ := List.mem_map.mp hd; exact ht a
    show PyData.bool (PyData.eqvAll _ _ && _) = _
    rw [e, Bool.and_true, eqvs_map hf])

end Fy

namespace Fy
open PySem PySem.Spec PyProof.Rows L2
end Fy
local macro_rules | `(tactic| walk_at "side") => `(tactic| first | decide | assumption | omega | exact ⟨by decide, by decide⟩ | exact Or.inl ⟨by decide, by decide⟩ | exact Or.inr ⟨by decide, by decide⟩ | exact ⟨by omega, by assumption⟩ | exact ⟨by omega, by omega⟩)
local macro_rules | `(tactic| walk_at "ed") => `(tactic| ((with_reducible refine' Fy.i_Cell ?hh); (case hh => exact Fy.ed_cell (by walk_at "ed") (by walk_at "ed") (by walk_at "side"))))
local macro_rules | `(tactic| walk_at "ed") => `(tactic| ((with_reducible refine' Fy.i_Q1 ?hh); (case hh => exact Fy.ed_q1 (by walk_at "ed") (by walk_at "ed") (by walk_at "side"))))
local macro_rules | `(tactic| walk_at "ed") => `(tactic| ((with_reducible refine' Fy.i_Pe ?hh); (case hh => exact Fy.ed_pe (by walk_at "ed") (by walk_at "ed"))))
local macro_rules | `(tactic| walk_at "ed") => `(tactic| ((with_reducible refine' Fy.i_Bits ?hh); (case hh => exact Fy.ed_bits (by walk_at "ed") (by walk_at "ed") (by walk_at "side"))))
local macro_rules | `(tactic| walk_at "ed") => `(tactic| ((with_reducible refine' Fy.i_Rest ?hh); (case hh => exact Fy.ed_rest (by walk_at "ed") (by walk_at "ed") (by walk_at "side"))))
local macro_rules | `(tactic| walk_at "ed") => `(tactic| ((with_reducible refine' Fy.i_Good ?hh); (case hh => exact Fy.ed_good (by walk_at "ed") (by walk_at "ed") (by walk_at "ed") (by walk_at "side"))))
local macro_rules | `(tactic| walk_at "ed") => `(tactic| ((with_reducible refine' Fy.i_Whole ?hh); (case hh => exact Fy.ed_whole (by walk_at "ed"))))

namespace Fy
open PySem PySem.Spec PyProof.Rows L2
theorem dpa2 {K : PySem.W.Frag} {H : Hp} {vs : List V} {d e : PyData} (h : DpAll K H vs [d, e]) : ∃ v u, vs = [v, u] ∧ Dp K H v d ∧ Dp K H u e := by
  cases h with
  | cons h1 h2 => cases h2 with
    | cons h2 h3 => cases h3; exact ⟨_, _, rfl, h1, h2⟩
theorem dpa3 {K : PySem.W.Frag} {H : Hp} {vs : List V} {d e f : PyData} (h : DpAll K H vs [d, e, f]) : ∃ v u t, vs = [v, u, t] ∧ Dp K H v d ∧ Dp K H u e ∧ Dp K H t f := by
  cases h with
  | cons h1 h2 =>
    obtain ⟨u, t, rfl, h2, h3⟩ := dpa2 h2
    exact ⟨_, _, _, rfl, h1, h2, h3⟩
theorem dpa1 {K : PySem.W.Frag} {H : Hp} {vs : List V} {d : PyData} (h : DpAll K H vs [d]) : ∃ v, vs = [v] ∧ Dp K H v d := by
  cases h with
  | cons h1 h2 => cases h2; exact ⟨_, rfl, h1⟩
theorem atI_ints {ns : List Int} {k : Int} (h0 : 0 ≤ k) (h1 : k < ns.length) : atI (ns.map PyData.int) k = some (.int (ns.getD k.toNat 0)) := by
  have e : k = ((k.toNat : Nat) : Int) := by omega
  have hk : k.toNat < ns.length := by omega
  rw [e]
  refine atI_nat ?_
  rw [List.getElem?_map, List.getElem?_eq_getElem hk, List.getD_eq_getElem?_getD, show ((k.toNat : Int)).toNat = k.toNat by omega, List.getElem?_eq_getElem hk]
  rfl
section
variable {P : Program} {w : World} {K : PySem.W.Frag} {mg : Str → Option Value} {base : Heap}
theorem sc__law_cell_at : FnScope ["script", "k"] ["script", "k"] (defScope s__law_cell_at) := ⟨rfl, rfl, rfl, by decide +kernel, rfl, by decide +kernel, by decide +kernel⟩
theorem ok__law_cell_at (T : Tx K mg) : Has P w K mg base CX0 1 "_law_cell_at" ["script", "k"] (spCell K) := by
  obtain ⟨fd, F⟩ := T.f__law_cell_at
  refine ⟨T.g__law_cell_at, fd, F.ok sc__law_cell_at (fun vs H Q E h => ?_) (fun cdv A outer s H vs Q E hr h => ⟨_, PSs.nox (pss_cons (ps_if (pt_cmpR op_lt (pv 1) (pe_callB (r := rLenQ K) call_len_seq (by rfl) T.b_len (by decide +kernel) (pa_cons (pv 0) pa_nil)) (nomark _)) (pss_one (ps_ret (pe_ix (r := rIxL K) ix_list (pv 0) (pv 1) (fun _ _ => rfl)))) pss_nil)
      (pss_one (ps_ret pe_int))), ?_⟩), F.bindsN fun _ _ _ _ _ _ us hl => match us, hl with | [_, _], _ => rfl, F.kp⟩
  · exact spP.len (n := 2) (fun _ => rfl) h
  · obtain ⟨⟨ns, k⟩, ⟨h0, hl⟩, hv0, q⟩ := h
    obtain ⟨v, u, rfl, hv, hu⟩ := dpa2 hv0
    cases dp_int.mp hu
    have hv' : Dp K H v (.list (ns.map .int)) := hv
    refine' w_when K ?t (fun hb H1 x1 => ?_) (fun hb H1 x1 => ?_)
    case t => walk_at "et"
    · have hb' : k < ns.length := by simpa using hb
      have e : atI (ns.map PyData.int) k = some (.int (ns.getD k.toNat 0)) := atI_ints h0 hb'
      exact w_ret1 (ed_op (by walk_at "ed") (by walk_at "ed") (rd_ixL e)) fun v' H2 x2 h2 => q v' H2 (x1.trans x2) h2
    · have hb' : ¬ k < ns.length := by simpa using hb
      refine w_ret1 (ed_int (K := K)) fun v' H2 x2 h2 => q v' H2 (x1.trans x2) ?_
      have e : cell ns k = 0 := by
        unfold cell
        rw [List.getD_eq_getElem?_getD, List.getElem?_eq_none (by omega)]
        rfl
      show Dp K H2 v' (.int (cell ns k))
      rw [e]
      exact h2
theorem sc__law_quarrel : FnScope ["cell", "many", "one", "other", "left", "keeper", "thing"] ["cell", "many"] (defScope s__law_quarrel) := ⟨rfl, rfl, rfl, by decide +kernel, rfl, by decide +kernel, by decide +kernel⟩
theorem ok__law_quarrel (T : Tx K mg) : Has P w K mg base CX0 1 "_law_quarrel" ["cell", "many"] (spQ1 K) := by
  obtain ⟨fd, F⟩ := T.f__law_quarrel
  refine ⟨T.g__law_quarrel, fd, F.ok sc__law_quarrel (fun vs H Q E h => ?_) (fun cdv A outer s H vs Q E hr h => ⟨_, PSs.nox (pss_cons (ps_set (i := 2) sc__law_quarrel.nd rfl (.inr rfl) (pe_op op_mod (pv 0) (pv 1)))
      (pss_cons (ps_set (i := 3) sc__law_quarrel.nd rfl (.inr rfl) (pe_op op_mod (pe_op op_add (pe_op op_add (pv 2) pe_int) (pe_op op_mod (pe_op op_fdiv (pv 0) (pv 1)) (pe_op op_sub (pv 1) pe_int))) (pv 1)))
      (pss_cons (ps_setLc (i := 4) (hy := by rfl) (hyl := by rfl) (hsw := sw_true rfl rfl rfl (by decide +kernel)) (hc := by rfl) (hN := sc__law_quarrel.nd) (own := [("thing", 6)]) (g := gName 6) (hi := (pi_range1 rfl T.b_range (pa_cons (pv 1) pa_nil))) (ok := blkOk_by (N := ["cell", "many", "one", "other", "left", "keeper", "thing"]) (sc := defScope s__law_quarrel) (by decide +kernel)) (hg := fun _ _ _ _ _ => pg_name (i := 6) sc__law_quarrel.nd rfl (.inl rfl)) (ht := fun _ _ _ _ _ => (pts_one (PW.pt (pw_and (pt_cmpR op_ne (pv 6) (pv 2) (nomark _)) (pw_and1 (pt_cmpR op_ne (pv 6) (pv 3) (nomark _))))))) (he := fun _ _ _ _ _ => (pv 6)))
      (pss_cons (ps_set (i := 0) sc__law_quarrel.nd rfl (.inl rfl) (pe_op op_fdiv (pv 0) (pe_op op_mul (pv 1) (pe_op op_sub (pv 1) pe_int))))
      (pss_cons (ps_set (i := 5) sc__law_quarrel.nd rfl (.inl rfl) (pe_un un_neg pe_int))
      (pss_cons (ps_if (PW.pt (pw_and (pt_cmpR op_gt (pe_op op_mod (pv 0) pe_int) pe_int (nomark _)) (pw_and1 (pt_cmpR op_gt (pe_callB (r := rLenQ K) call_len_seq (by rfl) T.b_len (by decide +kernel) (pa_cons (pv 4) pa_nil)) pe_int (nomark _))))) (pss_one (ps_set (i := 5) sc__law_quarrel.nd rfl (.inl rfl) (pe_ix (r := rIxL K) ix_list (pv 4) (pe_op op_mod (pe_op op_fdiv (pv 0) pe_int) (pe_callB (r := rLenQ K) call_len_seq (by rfl) T.b_len (by decide +kernel) (pa_cons (pv 4) pa_nil))) (fun _ _ => rfl)))) pss_nil)
      (pss_one (ps_ret (pe_tup (pa_cons (pv 2) (pa_cons (pv 3) (pa_cons (pv 5) pa_nil)))))))))))), ?_⟩), F.bindsN fun _ _ _ _ _ _ us hl => match us, hl with | [_, _], _ => rfl, F.kp⟩
  · exact spP.len (n := 2) (fun _ => rfl) h
  · obtain ⟨⟨c, m⟩, ⟨h0, hl⟩, hv0, q⟩ := h
    obtain ⟨v, u, rfl, hv, hu⟩ := dpa2 hv0
    cases dp_int.mp hv
    cases dp_int.mp hu
    have h2 : 2 ≤ m := h0
    have h3 : m ≤ 1000 := hl
    clear h0 hl hv hu hv0
    have m0 : 0 < m := by omega
    have m1 : 0 < m - 1 := by omega
    have m2 : CDiv c m := ⟨m0, by omega⟩
    have m3 : 0 < m * (m - 1) := Int.mul_pos m0 m1
    have m4 : m * (m - 1) ≤ 1000 * 1000 := Int.mul_le_mul h3 (by omega) (by omega) (by decide)
    have m5 : CDiv c (m * (m - 1)) := ⟨m3, by omega⟩
    have m6 : CMul m (m - 1) := Or.inl ⟨by omega, by omega⟩
    refine' w_asg (K := K) (d := .int (c % m)) ?t (fun v1 H1 x1 h1 => ?_)
    case t => walk_at "ed"
    cases dp_int.mp h1
    refine' w_asg (K := K) (d := .int (lqOther c m)) ?t (fun v1 H2 x2 h1 => ?_)
    case t => walk_at "ed"
    cases dp_int.mp h1
    refine' w_asgN (K := K) (ds := (lqLeft c m).map .int) (en_filR (fun t => !decide (t = c % m) && !decide (t = lqOther c m)) ?a (by omega) (fun _ => rfl) (fun _ => rfl) (fun i hi => ?b)) (fun v1 H3 x3 h3 => ?_)
    case a => walk_at "eds"
    case b => walk_at "et"
    have hL := h3.dp
    refine' w_asg (K := K) (d := .int (c / (m * (m - 1)))) ?t (fun v2 H4 x4 h1 => ?_)
    case t => walk_at "ed"
    cases dp_int.mp h1
    refine' w_asg (K := K) (d := .int (-1)) ?t (fun v2 H5 x5 h1 => ?_)
    case t => walk_at "ed"
    cases dp_int.mp h1
    have xx := (((x1.trans x2).trans x3).trans x4).trans x5
    have fin : ∀ H6 k, Ex H5 H6 → k = lqKeep c m → tRet (tTup (tCons (tVar 2) (tCons (tVar 3) (tCons (tVar 5) tNil)))) { nx := fun x H' => Q V.non H', rt := Q } [some (.int (c / (m * (m - 1)))), some (.int m), some (.int (c % m)), some (.int (lqOther c m)), some v1, some (.int k), none] H6 := fun H6 k x6 hk => by
      refine' w_ret1 (K := K) (d := .tuple [.int (c % m), .int (lqOther c m), .int k]) ?t (fun v7 H7 x7 h7 => ?_)
      case t => walk_at "ed"
      refine q v7 H7 ((xx.trans x6).trans x7) ?_
      rw [hk] at h7
      exact h7
    refine' w_when K ?t (fun hb H6 x6 => ?_) (fun hb H6 x6 => ?_)
    case t => walk_at "et"
    · have hb2 := hb
      rw [List.length_map] at hb2
      have hl : 0 < ((lqLeft c m).length : Int) := by simp at hb2; omega
      have i1 := Int.emod_nonneg (c / (m * (m - 1)) / 3) (show ((lqLeft c m).length : Int) ≠ 0 by omega)
      have i2 := Int.emod_lt_of_pos (c / (m * (m - 1)) / 3) hl
      have hl' : 0 < (((lqLeft c m).map PyData.int).length : Int) := by rw [List.length_map]; exact hl
      have ix : atI ((lqLeft c m).map PyData.int) ((c / (m * (m - 1)) / 3) % (((lqLeft c m).map PyData.int).length : Int)) = some (.int ((lqLeft c m).getD ((c / (m * (m - 1)) / 3) % ((lqLeft c m).length : Int)).toNat 0)) := by
        rw [List.length_map]
        exact atI_ints i1 i2
      refine' w_asg1 (K := K) (ed_op ?a ?b (rd_ixL ix)) (fun v2 H7 x7 h1 => ?_)
      case a => walk_at "ed"
      case b => walk_at "ed"
      cases dp_int.mp h1
      refine fin H7 _ (x6.trans x7) ?_
      unfold lqKeep
      rw [if_pos hb2]
    · refine fin H6 _ x6 ?_
      rw [List.length_map] at hb
      unfold lqKeep
      rw [if_neg (by rw [hb]; exact Bool.false_ne_true)]
theorem sc__law_quarrels : FnScope ["script", "start", "many", "count", "k"] ["script", "start", "many"] (defScope s__law_quarrels) := ⟨rfl, rfl, rfl, by decide +kernel, rfl, by decide +kernel, by decide +kernel⟩
theorem ok__law_quarrels (T : Tx K mg) : Has P w K mg base CX0 2 "_law_quarrels" ["script", "start", "many"] (spQs K) := by
  obtain ⟨fd, F⟩ := T.f__law_quarrels
  have G__law_quarrel := ok__law_quarrel (P := P) (w := w) (base := base) T
  have G__law_cell_at := ok__law_cell_at (P := P) (w := w) (base := base) T
  refine ⟨T.g__law_quarrels, fd, F.ok sc__law_quarrels (fun vs H Q E h => ?_) (fun cdv A outer s H vs Q E hr h => ⟨_, PSs.nox (pss_cons (ps_if (pt_cmpR op_eq (pv 2) pe_int (nomark _)) (pss_one (ps_ret (pe_lst pa_nil))) pss_nil)
      (pss_cons (ps_set (i := 3) sc__law_quarrels.nd rfl (.inl rfl) (pe_op op_mod (pe_f G__law_cell_at (hr.mono (by decide)) rfl (pa_cons (pv 0) (pa_cons (pv 1) pa_nil))) pe_int))
      (pss_one (ps_ret (pe_lc (own := [("k", 4)]) (g := gName 4) (by rfl) sc__law_quarrels.nd (pi_range1 rfl T.b_range (pa_cons (pv 3) pa_nil)) (blkOk_by (N := ["script", "start", "many", "count", "k"]) (sc := defScope s__law_quarrels) (by decide +kernel)) (fun _ _ _ _ _ => pg_name (i := 4) sc__law_quarrels.nd rfl (.inl rfl)) (fun _ _ _ _ _ => pts_nil) (fun _ _ _ _ _ => (pe_f G__law_quarrel (hr.mono (by decide)) rfl (pa_cons (pe_op op_mod (pe_f G__law_cell_at (hr.mono (by decide)) rfl (pa_cons (pv 0) (pa_cons (pe_op op_add (pe_op op_add (pv 1) pe_int) (pv 4)) pa_nil))) (pe_op op_pow pe_int pe_int)) (pa_cons (pv 2) pa_nil))))))))), ?_⟩), F.bindsN fun _ _ _ _ _ _ us hl => match us, hl with | [_, _, _], _ => rfl, F.kp⟩
  · exact spL.len (n := 3) (fun _ => rfl) h
  · obtain ⟨⟨ns, start, m⟩, ⟨h0, h1, h2, hl⟩, hv0, q⟩ := h
    dsimp only at h0 h1 h2 hl hv0 q
    obtain ⟨v, u, t, rfl, hv, hu, ht⟩ := dpa3 hv0
    cases dp_int.mp hu
    cases dp_int.mp ht
    refine' w_when K ?t (fun hb H1 x1 => ?_) (fun hb H1 x1 => ?_)
    case t => walk_at "et"
    · have hm : m = 1 := by simpa using hb
      refine w_retN1 (K := K) (en_lst eds_nil (by decide)) fun v' H2 x2 h2 => q v' H2 (x1.trans x2) ?_
      unfold lawQuarrels
      rw [if_pos hm]
      exact h2.back x1
    · have hm : ¬ m = 1 := by simpa using hb
      have b1 := Int.emod_nonneg (cell ns start) (show (5 : Int) ≠ 0 by decide)
      have b2 := Int.emod_lt_of_pos (cell ns start) (show (0 : Int) < 5 by decide)
      refine' w_asg (K := K) (d := .int (cell ns start % 5)) ?t (fun v1 H2 x2 h1 => ?_)
      case t => walk_at "ed"
      cases dp_int.mp h1
      refine' w_retN1 (K := K) (ds := (List.range (cell ns start % 5).toNat).map fun k : Nat => eQ (lawQuarrel (cell ns (start + 1 + k) % 1000000000) m)) (en_mapR _ (fun _ => noL_eQ _) ?a (by omega) (fun _ => rfl) (fun i hi => ?b)) (fun v' H3 x3 h3 => ?_)
      case a => walk_at "eds"
      case b => walk_at "ed"
      refine q v' H3 ((x1.trans x2).trans x3) ?_
      unfold lawQuarrels
      rw [if_neg hm, List.map_map]
      exact h3.back (x1.trans x2)
theorem sc__law_things : FnScope ["script", "start", "many", "most", "things", "k", "cell"] ["script", "start", "many"] (defScope s__law_things) := ⟨rfl, rfl, rfl, by decide +kernel, rfl, by decide +kernel, by decide +kernel⟩
theorem ok__law_things (T : Tx K mg) : Has P w K mg base CX0 2 "_law_things" ["script", "start", "many"] (spTs K) := by
  obtain ⟨fd, F⟩ := T.f__law_things
  have G__law_cell_at := ok__law_cell_at (P := P) (w := w) (base := base) T
  refine ⟨T.g__law_things, fd, F.ok sc__law_things (fun vs H Q E h => ?_) (fun cdv A outer s H vs Q E hr h => ⟨_, PSs.nox (pss_cons (ps_set (i := 3) sc__law_things.nd rfl (.inl rfl) (pe_ix (r := rIxL K) ix_list (pe_lst (pa_cons pe_int (pa_cons pe_int (pa_cons (pe_op op_pow pe_int pe_int) pa_nil)))) (pe_op op_mod (pe_f G__law_cell_at (hr.mono (by decide)) rfl (pa_cons (pv 0) (pa_cons (pv 1) pa_nil))) pe_int) (fun _ _ => rfl)))
      (pss_cons (ps_set (i := 4) sc__law_things.nd rfl (.inl rfl) (pe_lst pa_nil))
      (pss_cons (ps_for PassesOwn.never rfl (pi_range1 rfl T.b_range (pa_cons (pv 2) pa_nil)) (pg_name (i := 5) sc__law_things.nd rfl (.inl rfl)) (pss_cons (ps_set (i := 6) sc__law_things.nd rfl (.inl rfl) (pe_f G__law_cell_at (hr.mono (by decide)) rfl (pa_cons (pv 0) (pa_cons (pe_op op_add (pe_op op_add (pv 1) pe_int) (pv 5)) pa_nil))))
      (pss_one (ps_expr (pe_bm PySem.F.plainAttrs_list PySem.F.slot_list_append PySem.F.type_list_append mt_append (pv 4) (pa_cons (pe_tup (pa_cons (pe_op op_add pe_int (pe_op op_mod (pe_op op_fdiv (pv 6) pe_int) (pv 3))) (pa_cons (pe_cmpR op_lt (pe_op op_mod (pv 6) pe_int) pe_int (nomark _)) pa_nil))) pa_nil))))))
      (pss_one (ps_ret (pv 4)))))), ?_⟩), F.bindsN fun _ _ _ _ _ _ us hl => match us, hl with | [_, _, _], _ => rfl, F.kp⟩
  · exact spL.len (n := 3) (fun _ => rfl) h
  · obtain ⟨⟨ns, start, m⟩, ⟨h0, h1, h2, hl⟩, hv0, q⟩ := h
    dsimp only at h0 h1 h2 hl hv0 q
    obtain ⟨v, u, t, rfl, hv, hu, ht⟩ := dpa3 hv0
    cases dp_int.mp hu
    cases dp_int.mp ht
    have b1 := Int.emod_nonneg (cell ns start) (show (3 : Int) ≠ 0 by decide)
    have b2 := Int.emod_lt_of_pos (cell ns start) (show (0 : Int) < 3 by decide)
    obtain ⟨mo1, mo2⟩ := ltMost_ok ns start
    refine' w_asg (K := K) (ed_op (en_lst ?a (by decide)).toD ?b (rd_ixL (atI_ints (ns := [20, 4, 1000000000]) b1 b2))) (fun v1 H1 x1 hm => ?_)
    case a => walk_at "eds"
    case b => walk_at "ed"
    have hm' : Dp K H1 v1 (.int (ltMost ns start)) := hm
    cases dp_int.mp hm'
    refine' w_asgN (K := K) (ds := []) (en_lst eds_nil (by decide)) (fun v2 H2 x2 hL => ?_)
    obtain ⟨l, xs, rfl, l0, l1, l2⟩ := hL
    cases l2
    have e2 := x1.trans x2
    have lH : H l = none := Evl.fresh_back x1 l0
    refine' w_forR (K := K) (n := m) ?a (by omega) (fun i σ H' => ∃ a b, σ = [some v, some (.int start), some (.int m), some (.int (ltMost ns start)), some (.ref l), a, b] ∧ Ex H H' ∧ ∃ acc, H' l = some (.lst acc) ∧ DpAll K H' acc ((List.range i).map fun k : Nat => eT (lawThing ns start k)) ∧ acc.length = i) (fun H3 x3 => ⟨none, none, rfl, e2.trans x3, [], x3 _ _ l1, .nil, rfl⟩) ?_ ?_
    case a => walk_at "ed"
    · rintro i σ H' hi ⟨a, b, rfl, x3, acc, hA, hD, hlen⟩
      refine' w_asg (K := K) (d := .int (cell ns (start + 1 + i))) ?t (fun v1 H4 x4 h1 => ?_)
      case t => walk_at "ed"
      cases dp_int.mp h1
      have hA4 := x4 _ _ hA
      refine ⟨_, rfl, .inl ⟨rfl, _, SqL.of hA4⟩, ?_⟩
      have mp : 0 < ltMost ns start := mo1
      have te : EvD K (tTup (tCons (tOp (rI0 fun i j => .int (i + j)) (tC (.int 1)) (tOp (rI (fun _ j => 0 < j) fun i j => .int (i % j)) (tOp (rI CDiv fun i j => .int (i / j)) (tVar 6) (tC (.int 3))) (tVar 3))) (tCons (tOp (rI0 fun i j => .bl (decide (i < j))) (tOp (rI (fun _ j => 0 < j) fun i j => .int (i % j)) (tVar 6) (tC (.int 3))) (tC (.int 2))) tNil))) [some v, some (.int start), some (.int m), some (.int (ltMost ns start)), some (.ref l), some (.int (i : Int)), some (.int (cell ns (start + 1 + i)))] H4 (eT (lawThing ns start i)) := by
        refine (?t : EvD K _ _ _ (.tuple [_, _]))
        walk_at "ed"
      refine te H4 (Evl.Ex.refl H4) _ fun v5 H5 x5 h5 => ?_
      have hA5 := x5 _ _ hA4
      have hz : acc.length < sizeLine := Nat.lt_of_le_of_lt (show acc.length ≤ 100000 by omega) (by decide)
      refine ⟨l, acc, v5, rfl, rfl, hA5, hz, _, _, rfl, ((x3.trans x4).trans x5).mut lH, acc ++ [v5], upd_same, ?_, by rw [List.length_append, hlen]; rfl⟩
      have u5 : Up H5 (upd H5 l (.lst (acc ++ [v5]))) := Up.lst hA5
      rw [List.range_succ, List.map_append]
      exact dpa_snoc (dpa_up u5 _ _ (noLs_map (fun _ => noL_eT _) _) (dpa_mono (x4.trans x5) _ _ hD)) (dp_up u5 _ _ (noL_eT _) h5)
    · rintro σ H' ⟨a, b, rfl, x3, acc, hA, hD, hlen⟩
      refine ⟨_, rfl, q _ H' x3 ⟨l, acc, rfl, lH, hA, ?_⟩⟩
      unfold lawThings
      rw [List.map_map]
      exact hD
theorem sc__law_night : FnScope ["script", "most", "many", "room"] ["script", "most"] (defScope s__law_night) := ⟨rfl, rfl, rfl, by decide +kernel, rfl, by decide +kernel, by decide +kernel⟩
theorem ok__law_night (T : Tx K mg) : Has P w K mg base CX0 3 "_law_night" ["script", "most"] (spNt K) := by
  obtain ⟨fd, F⟩ := T.f__law_night
  have G__law_quarrels := ok__law_quarrels (P := P) (w := w) (base := base) T
  have G__law_things := ok__law_things (P := P) (w := w) (base := base) T
  have G__law_cell_at := ok__law_cell_at (P := P) (w := w) (base := base) T
  refine ⟨T.g__law_night, fd, F.ok sc__law_night (fun vs H Q E h => ?_) (fun cdv A outer s H vs Q E hr h => ⟨_, PSs.nox (pss_cons (ps_set (i := 2) sc__law_night.nd rfl (.inl rfl) (pe_op op_add pe_int (pe_op op_mod (pe_f G__law_cell_at (hr.mono (by decide)) rfl (pa_cons (pv 0) (pa_cons pe_int pa_nil))) (pv 1))))
      (pss_cons (ps_if (pt_cmpR op_eq (pe_op op_mod (pe_op op_fdiv (pe_f G__law_cell_at (hr.mono (by decide)) rfl (pa_cons (pv 0) (pa_cons pe_int pa_nil))) pe_int) pe_int) pe_int (nomark _)) (pss_one (ps_set (i := 2) sc__law_night.nd rfl (.inl rfl) (pv 1))) pss_nil)
      (pss_cons (ps_set (i := 3) sc__law_night.nd rfl (.inl rfl) (pe_ix (r := rIxL K) ix_list (pe_lst (pa_cons pe_int (pa_cons pe_int (pa_cons pe_int (pa_cons pe_int pa_nil))))) (pe_op op_mod (pe_f G__law_cell_at (hr.mono (by decide)) rfl (pa_cons (pv 0) (pa_cons pe_int pa_nil))) pe_int) (fun _ _ => rfl)))
      (pss_one (ps_ret (pe_tup (pa_cons (pe_f G__law_things (hr.mono (by decide)) rfl (pa_cons (pv 0) (pa_cons pe_int (pa_cons (pv 2) pa_nil)))) (pa_cons (pv 3) (pa_cons (pe_f G__law_quarrels (hr.mono (by decide)) rfl (pa_cons (pv 0) (pa_cons pe_int (pa_cons (pv 2) pa_nil)))) pa_nil))))))))), ?_⟩), F.bindsN fun _ _ _ _ _ _ us hl => match us, hl with | [_, _], _ => rfl, F.kp⟩
  · obtain ⟨x, _, h1, _⟩ := h
    exact dpa_len h1
  · obtain ⟨⟨ns, most⟩, ⟨h0, h1, hl⟩, hv0, q⟩ := h
    dsimp only at h0 h1 hl hv0 q
    obtain ⟨v, u, rfl, hv, hu⟩ := dpa2 hv0
    cases dp_int.mp hu
    have a1 := Int.emod_nonneg (cell ns 0) (show most ≠ 0 by omega)
    have a2 := Int.emod_lt_of_pos (cell ns 0) (show 0 < most by omega)
    have a3 : 0 < most := by omega
    obtain ⟨m1, m2⟩ := lawMany_le (ns := ns) h0
    refine' w_asg (K := K) (d := .int (1 + cell ns 0 % most)) ?t (fun v1 H1 x1 h1 => ?_)
    case t => walk_at "ed"
    cases dp_int.mp h1
    have go : ∀ H2, Ex H1 H2 → tSeq (tAsg (tOp (rIxL K) (tLst (tCons (tC (.int 2)) (tCons (tC (.int 3)) (tCons (tC (.int 2)) (tCons (tC (.int 1)) tNil))))) (tOp (rI (fun _ j => 0 < j) fun i j => .int (i % j)) (tCall (spCell K) [] E0 (tCons (tVar 0) (tCons (tC (.int 1)) tNil))) (tC (.int 4)))) (gName 3))
        (tRet (tTup (tCons (tCall (spTs K) [] E0 (tCons (tVar 0) (tCons (tC (.int 2)) (tCons (tVar 2) tNil)))) (tCons (tVar 3) (tCons (tCall (spQs K) [] E0 (tCons (tVar 0) (tCons (tC (.int 10)) (tCons (tVar 2) tNil)))) tNil))))) { nx := fun x H' => Q V.non H', rt := Q } [some v, some (.int most), some (.int (lawMany ns most)), none] H2 := fun H2 x2 => by
      have b1 := Int.emod_nonneg (cell ns 1) (show (4 : Int) ≠ 0 by decide)
      have b2 := Int.emod_lt_of_pos (cell ns 1) (show (0 : Int) < 4 by decide)
      refine' w_asg (K := K) (ed_op (en_lst ?a (by decide)).toD ?b (rd_ixL (atI_ints (ns := [2, 3, 2, 1]) b1 b2))) (fun v1 H3 x3 hm => ?_)
      case a => walk_at "eds"
      case b => walk_at "ed"
      have hm' : Dp K H3 v1 (.int (lawRoom ns)) := hm
      cases dp_int.mp hm'
      have t1 : EvN K (tCall (spTs K) [] E0 (tCons (tVar 0) (tCons (tC (.int 2)) (tCons (tVar 2) tNil)))) [some v, some (.int most), some (.int (lawMany ns most)), some (.int (lawRoom ns))] H3 ((lawThings ns 2 (lawMany ns most)).map eT) := by
        refine' en_call (x := (ns, 2, lawMany ns most)) ⟨(by show (0 : Int) ≤ 2; decide), m1, (by show lawMany ns most ≤ 1000; omega), hl⟩ ?a
        case a => walk_at "eds"
      have t2 : EvN K (tCall (spQs K) [] E0 (tCons (tVar 0) (tCons (tC (.int 10)) (tCons (tVar 2) tNil)))) [some v, some (.int most), some (.int (lawMany ns most)), some (.int (lawRoom ns))] H3 ((lawQuarrels ns 10 (lawMany ns most)).map eQ) := by
        refine' en_call (x := (ns, 10, lawMany ns most)) ⟨(by show (0 : Int) ≤ 10; decide), m1, (by show lawMany ns most ≤ 1000; omega), hl⟩ ?a
        case a => walk_at "eds"
      refine t1 H3 (Evl.Ex.refl H3) _ fun t4 H4 x4 h4 => ⟨_, rfl, t2 H4 x4 _ fun q5 H5 x5 h5 => ?_⟩
      refine ⟨by show 3 ≤ sizeLine; decide, fun p hp => ?_⟩
      have e6 := Evl.Ex.new (o := HO.tup [t4, .int (lawRoom ns), q5]) hp
      have ee := (x1.trans x2).trans x3
      exact q _ _ (((ee.trans x4).trans x5).trans e6) ⟨p, t4, q5, rfl, SqT.of upd_same, ((h4.mono x5).mono e6).back ee, (h5.mono e6).back (ee.trans x4)⟩
    refine' w_when K ?t (fun hb H2 x2 => ?_) (fun hb H2 x2 => ?_)
    case t => walk_at "et"
    · have hb' : cell ns 0 / 8 % 2 = 1 := by simpa using hb
      refine' w_asg1 (K := K) (d := .int most) ?t (fun v1 H3 x3 h1 => ?_)
      case t => walk_at "ed"
      cases dp_int.mp h1
      have e : lawMany ns most = most := by unfold lawMany; rw [if_pos hb']
      have g := go H3 (x2.trans x3)
      rw [e] at g
      exact g
    · have hb' : ¬ cell ns 0 / 8 % 2 = 1 := by simpa using hb
      have e : lawMany ns most = 1 + cell ns 0 % most := by unfold lawMany; rw [if_neg hb']
      have g := go H2 x2
      rw [e] at g
      exact g
theorem sc__law_peace : FnScope ["quarrels", "group", "one", "other", "keeper"] ["quarrels", "group"] (defScope s__law_peace) := ⟨rfl, rfl, rfl, by decide +kernel, rfl, by decide +kernel, by decide +kernel⟩
theorem ok__law_peace (T : Tx K mg) : Has P w K mg base CX0 1 "_law_peace" ["quarrels", "group"] (spPe K) := by
  obtain ⟨fd, F⟩ := T.f__law_peace
  refine ⟨T.g__law_peace, fd, F.ok sc__law_peace (fun vs H Q E h => ?_) (fun cdv A outer s H vs Q E hr h => ⟨_, PSs.nox (pss_cons (ps_for PassesOwn.never rfl (pi_list (pv 0)) (pg_tup (by rfl) (pgs_cons (pg_name (i := 2) sc__law_peace.nd rfl (.inl rfl)) (pgs_cons (pg_name (i := 3) sc__law_peace.nd rfl (.inl rfl)) (pgs_cons (pg_name (i := 4) sc__law_peace.nd rfl (.inl rfl)) pgs_nil)))) (pss_one (ps_if (PW.pt (pw_and (pt_cmpR (r := rIn K false) op_in_seq (pv 2) (pv 1) (by rfl)) (pw_and (pt_cmpR (r := rIn K false) op_in_seq (pv 3) (pv 1) (by rfl)) (pw_and1 (pt_cmpR (r := rIn K true) op_notIn_seq (pv 4) (pv 1) (by rfl)))))) (pss_one (ps_ret pe_bl)) pss_nil)))
      (pss_one (ps_ret pe_bl))), ?_⟩), F.bindsN fun _ _ _ _ _ _ us hl => match us, hl with | [_, _], _ => rfl, F.kp⟩
  · exact spP.len (n := 2) (fun _ => rfl) h
  · obtain ⟨⟨qs, g⟩, _, hv0, q⟩ := h
    dsimp only at hv0 q
    obtain ⟨v, u, rfl, hv, hu⟩ := dpa2 hv0
    refine' w_forLx (K := K) (ds := qs.map eQ) ?t (fun i σ H' => ∃ x y z, σ = [some v, some u, x, y, z] ∧ peace (qs.take i) g = true) (fun H1 x1 => ⟨none, none, none, rfl, rfl⟩) ?_ ?_
    case t => walk_at "ed"
    · rintro i d x σ H' hd x1 hx ⟨y0, y1, y2, rfl, ha⟩
      obtain ⟨t, ht, rfl⟩ := get_map hd
      obtain ⟨a, rfl, hs⟩ := dp_eQ.mp hx
      refine g_tup3 rfl hs ?_
      refine' w_when1 K ?t (fun hb H3 x3 => ?_) (fun hb H3 x3 => ?_)
      case t => walk_at "et"
      · refine w_ret1 (ed_bl (K := K)) fun v4 H4 x4 h4 => q v4 H4 ((x1.trans x3).trans x4) ?_
        have e : peace qs g = false := all_not ht (show (!atWar g t) = false by unfold atWar; rw [hb]; rfl)
        rw [e]
        exact h4
      · refine ⟨x3, _, _, _, rfl, ?_⟩
        unfold peace at ha ⊢
        rw [all_take ht ha]
        unfold atWar
        rw [hb]
        rfl
    · rintro σ H' x1 ⟨y0, y1, y2, rfl, ha⟩
      rw [List.length_map, List.take_length] at ha
      refine w_ret1 (ed_bl (K := K)) fun v4 H4 x4 h4 => q v4 H4 (x1.trans x4) ?_
      rw [ha]
      exact h4
theorem sc__law_bits : FnScope ["number", "many", "group", "thing"] ["number", "many"] (defScope s__law_bits) := ⟨rfl, rfl, rfl, by decide +kernel, rfl, by decide +kernel, by decide +kernel⟩
theorem ok__law_bits (T : Tx K mg) : Has P w K mg base CX0 1 "_law_bits" ["number", "many"] (spBits K) := by
  obtain ⟨fd, F⟩ := T.f__law_bits
  refine ⟨T.g__law_bits, fd, F.ok sc__law_bits (fun vs H Q E h => ?_) (fun cdv A outer s H vs Q E hr h => ⟨_, PSs.nox (pss_cons (ps_set (i := 2) sc__law_bits.nd rfl (.inl rfl) (pe_lst pa_nil))
      (pss_cons (ps_for PassesOwn.never rfl (pi_range1 rfl T.b_range (pa_cons (pv 1) pa_nil)) (pg_name (i := 3) sc__law_bits.nd rfl (.inl rfl)) (pss_cons (ps_if (pt_cmpR op_eq (pe_op op_mod (pv 0) pe_int) pe_int (nomark _)) (pss_one (ps_expr (pe_bm PySem.F.plainAttrs_list PySem.F.slot_list_append PySem.F.type_list_append mt_append (pv 2) (pa_cons (pv 3) pa_nil)))) pss_nil)
      (pss_one (ps_set (i := 0) sc__law_bits.nd rfl (.inl rfl) (pe_op op_fdiv (pv 0) pe_int)))))
      (pss_one (ps_ret (pe_callTy (r := rTupQ K) call_tuple_of (by rfl) T.b_tuple (by decide +kernel) (pa_cons (pv 2) pa_nil)))))), ?_⟩), F.bindsN fun _ _ _ _ _ _ us hl => match us, hl with | [_, _], _ => rfl, F.kp⟩
  · exact spP.len (n := 2) (fun _ => rfl) h
  · obtain ⟨⟨c, m⟩, h0, hv0, q⟩ := h
    dsimp only at h0 hv0 q
    obtain ⟨v, u, rfl, hv, hu⟩ := dpa2 hv0
    cases dp_int.mp hv
    cases dp_int.mp hu
    refine' w_asgN (K := K) (ds := []) (en_lst eds_nil (by decide)) (fun v2 H2 x2 hL => ?_)
    obtain ⟨l, xs, rfl, l0, l1, l2⟩ := hL
    cases l2
    refine' w_forR (K := K) (n := (m : Int)) ?a (by omega) (fun i σ H' => ∃ b, σ = [some (.int (c / 2 ^ i)), some (.int (m : Int)), some (.ref l), b] ∧ Ex H H' ∧ H' l = some (.lst ((bitsL c i).map V.int)) ∧ (bitsL c i).length ≤ i) (fun H3 x3 => ⟨none, by simp; rfl, x2.trans x3, x3 _ _ l1, Nat.le_refl _⟩) ?_ ?_
    case a => walk_at "ed"
    · rintro i σ H' hi ⟨b, rfl, x3, hA, hlen⟩
      have go : ∀ H4 (ns : List Int), Ex H H4 → H4 l = some (.lst (ns.map V.int)) → ns = bitsL c (i + 1) → tAsg (tOp (rI CDiv fun i j => .int (i / j)) (tVar 0) (tC (.int 2))) (gName 0) { nx := fun σ' H' => ∃ b, σ' = [some (.int (c / 2 ^ (i + 1))), some (.int (m : Int)), some (.ref l), b] ∧ Ex H H' ∧ H' l = some (.lst ((bitsL c (i + 1)).map V.int)) ∧ (bitsL c (i + 1)).length ≤ i + 1, rt := Q } [some (.int (c / 2 ^ i)), some (.int (m : Int)), some (.ref l), some (.int (i : Int))] H4 := fun H4 ns x4 h4 e => by
        refine' w_asg1 (K := K) (d := .int (c / 2 ^ i / 2)) ?t (fun v1 H5 x5 h1 => ?_)
        case t => walk_at "ed"
        cases dp_int.mp h1
        rw [e] at h4
        refine ⟨_, by rw [pow_step]; rfl, x4.trans x5, x5 _ _ h4, ?_⟩
        rw [bitsL_succ, List.length_append]
        split <;> simp <;> omega
      refine' w_when K ?t (fun hb H4 x4 => ?_) (fun hb H4 x4 => ?_)
      case t => walk_at "et"
      · have hb' : c / 2 ^ i % 2 = 1 := by simpa using hb
        have hA4 := x4 _ _ hA
        refine ⟨_, rfl, .inl ⟨rfl, _, SqL.of hA4⟩, ?_⟩
        have hz : ((bitsL c i).map V.int).length < sizeLine := Nat.lt_of_le_of_lt (show ((bitsL c i).map V.int).length ≤ 100000 by rw [List.length_map]; omega) (by decide)
        refine ⟨_, rfl, l, _, _, rfl, rfl, hA4, hz, go _ (bitsL c i ++ [(i : Int)]) ((x3.trans x4).mut (Evl.fresh_back (Evl.Ex.refl H) l0)) ?_ ?_⟩
        · rw [upd_same, List.map_append]; rfl
        · rw [bitsL_succ, if_pos hb']
      · have hb' : ¬ c / 2 ^ i % 2 = 1 := by simpa using hb
        refine go _ (bitsL c i) (x3.trans x4) (x4 _ _ hA) ?_
        rw [bitsL_succ, if_neg hb', List.append_nil]
    · rintro σ H' ⟨b, rfl, x3, hA, hlen⟩
      have hm : ((m : Int)).toNat = m := by omega
      rw [hm] at hA
      have hd : Dp K H' (.ref l) (.list ((bitsL c m).map .int)) := dp_lst.mpr ⟨l, _, rfl, SqL.of hA, dpa_ints.mpr rfl⟩
      refine' w_ret1 (K := K) (d := eI (bitsL c m)) ?t (fun v4 H4 x4 h4 => q v4 H4 (x3.trans x4) h4)
      case t => walk_at "ed"
theorem sc__law_groups : FnScope ["many", "number"] ["many"] (defScope s__law_groups) := ⟨rfl, rfl, rfl, by decide +kernel, rfl, by decide +kernel, by decide +kernel⟩
theorem ok__law_groups (T : Tx K mg) : Has P w K mg base CX0 2 "_law_groups" ["many"] (spGroups K) := by
  obtain ⟨fd, F⟩ := T.f__law_groups
  have G__law_bits := ok__law_bits (P := P) (w := w) (base := base) T
  refine ⟨T.g__law_groups, fd, F.ok sc__law_groups (fun vs H Q E h => ?_) (fun cdv A outer s H vs Q E hr h => ⟨_, PSs.nox (pss_one (ps_ret (pe_lc (own := [("number", 1)]) (g := gName 1) (by rfl) sc__law_groups.nd (pi_range1 rfl T.b_range (pa_cons (pe_ix (r := rIxL K) ix_list (pe_lst (pa_cons pe_int (pa_cons pe_int (pa_cons pe_int (pa_cons pe_int (pa_cons pe_int (pa_cons pe_int (pa_cons pe_int pa_nil)))))))) (pv 0) (fun _ _ => rfl)) pa_nil)) (blkOk_by (N := ["many", "number"]) (sc := defScope s__law_groups) (by decide +kernel)) (fun _ _ _ _ _ => pg_name (i := 1) sc__law_groups.nd rfl (.inl rfl)) (fun _ _ _ _ _ => pts_nil) (fun _ _ _ _ _ => (pe_f G__law_bits (hr.mono (by decide)) rfl (pa_cons (pv 1) (pa_cons (pv 0) pa_nil))))))), ?_⟩), F.bindsN fun _ _ _ _ _ _ us hl => match us, hl with | [_], _ => rfl, F.kp⟩
  · exact spL.len (n := 1) (fun _ => rfl) h
  · obtain ⟨m, h0, hv0, q⟩ := h
    dsimp only at h0 hv0 q
    obtain ⟨v, rfl, hv⟩ := dpa1 hv0
    cases dp_int.mp hv
    have ix : atI ([1, 2, 4, 8, 16, 32, 64].map PyData.int) (m : Int) = some (.int ((2 ^ m : Nat) : Int)) := by
      obtain h | h | h | h | h | h | h : m = 0 ∨ m = 1 ∨ m = 2 ∨ m = 3 ∨ m = 4 ∨ m = 5 ∨ m = 6 := by omega
      all_goals subst h; rfl
    have pw : 2 ^ m ≤ 64 := Nat.pow_le_pow_right (show 0 < 2 by decide) h0
    have pw2 : 0 ≤ ((2 ^ m : Nat) : Int) ∧ ((2 ^ m : Nat) : Int) ≤ 100000 := ⟨Int.natCast_nonneg _, Int.ofNat_le.mpr (Nat.le_trans pw (by decide))⟩
    have m0 : m ≤ 1000 := by omega
    refine' w_retN1 (K := K) (ds := (List.range ((2 ^ m : Nat) : Int).toNat).map fun x : Nat => eI (bitsL x m)) (en_mapR _ (fun _ => noL_eI _) (eds_cons (ed_op (en_lst ?a (by decide)).toD ?b (rd_ixL ix)) eds_nil) pw2 (fun _ => rfl) (fun i hi => ?c)) (fun v' H3 x3 h3 => ?_)
    case a => walk_at "eds"
    case b => walk_at "ed"
    case c => walk_at "ed"
    refine q v' H3 x3 ?_
    unfold groups
    rw [List.map_map]
    exact h3
theorem sc__law_rest : FnScope ["group", "many", "thing"] ["group", "many"] (defScope s__law_rest) := ⟨rfl, rfl, rfl, by decide +kernel, rfl, by decide +kernel, by decide +kernel⟩
theorem ok__law_rest (T : Tx K mg) : Has P w K mg base CX0 1 "_law_rest" ["group", "many"] (spRest K) := by
  obtain ⟨fd, F⟩ := T.f__law_rest
  refine ⟨T.g__law_rest, fd, F.ok sc__law_rest (fun vs H Q E h => ?_) (fun cdv A outer s H vs Q E hr h => ⟨_, PSs.nox (pss_one (ps_ret (pe_callTy (r := rTupQ K) call_tuple_of (by rfl) T.b_tuple (by decide +kernel) (pa_cons (pe_lc (own := [("thing", 2)]) (g := gName 2) (by rfl) sc__law_rest.nd (pi_range1 rfl T.b_range (pa_cons (pv 1) pa_nil)) (blkOk_by (N := ["group", "many", "thing"]) (sc := defScope s__law_rest) (by decide +kernel)) (fun _ _ _ _ _ => pg_name (i := 2) sc__law_rest.nd rfl (.inl rfl)) (fun _ _ _ _ _ => (pts_one (pt_cmpR (r := rIn K true) op_notIn_seq (pv 2) (pv 0) (by rfl)))) (fun _ _ _ _ _ => (pv 2))) pa_nil)))), ?_⟩), F.bindsN fun _ _ _ _ _ _ us hl => match us, hl with | [_, _], _ => rfl, F.kp⟩
  · exact spP.len (n := 2) (fun _ => rfl) h
  · obtain ⟨⟨g, m⟩, h0, hv0, q⟩ := h
    dsimp only at h0 hv0 q
    obtain ⟨v, u, rfl, hv, hu⟩ := dpa2 hv0
    cases dp_int.mp hu
    refine' w_ret1 (K := K) (d := eI (restOf g m)) (ed_cb (eds_cons (en_filR (n := (m : Int)) (fun t => !g.contains t) ?a (by omega) (fun _ => rfl) (fun _ => rfl) (fun i hi => ?b)).toD eds_nil) cd_tupL) (fun v4 H4 x4 h4 => q v4 H4 x4 h4)
    case a => walk_at "eds"
    case b => walk_at "et"
theorem sc__law_good : FnScope ["quarrels", "group", "many"] ["quarrels", "group", "many"] (defScope s__law_good) := ⟨rfl, rfl, rfl, by decide +kernel, rfl, by decide +kernel, by decide +kernel⟩
theorem ok__law_good (T : Tx K mg) : Has P w K mg base CX0 2 "_law_good" ["quarrels", "group", "many"] (spGood K) := by
  obtain ⟨fd, F⟩ := T.f__law_good
  have G__law_peace := ok__law_peace (P := P) (w := w) (base := base) T
  have G__law_rest := ok__law_rest (P := P) (w := w) (base := base) T
  refine ⟨T.g__law_good, fd, F.ok sc__law_good (fun vs H Q E h => ?_) (fun cdv A outer s H vs Q E hr h => ⟨_, PSs.nox (pss_one (ps_ret (pe_and (pe_f G__law_peace (hr.mono (by decide)) rfl (pa_cons (pv 0) (pa_cons (pv 1) pa_nil))) (pe_one (pe_f G__law_peace (hr.mono (by decide)) rfl (pa_cons (pv 0) (pa_cons (pe_f G__law_rest (hr.mono (by decide)) rfl (pa_cons (pv 1) (pa_cons (pv 2) pa_nil))) pa_nil))))))), ?_⟩), F.bindsN fun _ _ _ _ _ _ us hl => match us, hl with | [_, _, _], _ => rfl, F.kp⟩
  · exact spP.len (n := 3) (fun _ => rfl) h
  · obtain ⟨⟨qs, g, m⟩, h0, hv0, q⟩ := h
    dsimp only at h0 hv0 q
    obtain ⟨v, u, t, rfl, hv, hu, ht⟩ := dpa3 hv0
    cases dp_int.mp ht
    refine' w_ret1 (K := K) (d := .bool (good qs g m)) ?t (fun v4 H4 x4 h4 => q v4 H4 x4 h4)
    case t => walk_at "ed"
end

end Fy

namespace Fy
open PySem PySem.Spec PyProof.Rows L2
/-! ### a night's making and its methods, by data -/
section
variable {X : Cx} {p pos : Pos} {e : Expr} {es : List Expr} {t : TA}
theorem pe_Night {K : PySem.W.Frag} (T : Tx K X.mg) (hr : Room 3 X.A) (hg : Gl X "Night") (ha : PA X (e :: es) t) (he : starEach (e :: es) X.env = (false, eval e X.env) :: starEach es X.env := by rfl) (hpl : (backTo pos (starEach es X.env)).any (·.1) = false := by rfl) (hK : K = X.K := by rfl) :
    PE X (.Call (.Name "Night" p) (e :: es) [] pos) (tMake (He.ga K "Night") (spInit K) [] E0 t) := by
  subst hK
  obtain ⟨fd, G, b⟩ := ok_Night___init__ (P := X.prog) (w := X.w) (base := X.base) T
  exact pe_make T.mkr G hr hg T.g_Night b .nil (by first | exact passL | exact Fy.passN) ha (by decide) he hpl
end
section
variable {K : PySem.W.Frag} {σ : L2.St} {H H1 : Hp} {tr : TA} {ta : TE} {C : Addr} {n : Nt} {v : V} {i : Nat} {D : Ends} {tz : TS}
/-- what a new object and its own dict leave -/
theorem ex_made {x dx : Addr} (nx : H x = none) (ndx : H dx = none) : Ex H (upd (upd H dx (.own x)) x (.ins C dx [])) := fun b o e => by
  rw [upd_ne (ne_of_none e nx), upd_ne (ne_of_none e ndx)]
  exact e
theorem ev_night (h : EvDs K tr σ H [.list (n.things.map eT), .int n.room, .list (n.quarrels.map eQ)]) (ok : n.ok = true) (H1 : Hp) (x1 : Ex H H1) (Q : VK) (q : ∀ v H2, Ex H1 H2 → NightI K H1 H2 v n → Q v H2) :
    tMake (He.ga K "Night") (spInit K) [] E0 tr σ H1 Q := h H1 x1 _ fun vs H2 x2 hvs => by
  obtain ⟨t, u, s, rfl, ht, hu, hs⟩ : ∃ t u s, vs = [t, u, s] ∧ Dp K H2 t (.list (n.things.map eT)) ∧ Dp K H2 u (.int n.room) ∧ Dp K H2 s (.list (n.quarrels.map eQ)) := by
    cases hvs with
    | cons a b => cases b with
      | cons b c => cases c with
        | cons c d => cases d; exact ⟨_, _, _, rfl, a, b, c⟩
  cases dp_int.mp hu
  intro x dx nx ndx nex
  have e0 := ex_made (C := He.ga K "Night") nx ndx
  have okT : thingsOk n.things = true := by unfold Nt.ok at ok; simp only [Bool.and_eq_true] at ok; exact ok.1
  have okR : roomOk n.room = true := by unfold Nt.ok at ok; simp only [Bool.and_eq_true] at ok; exact ok.2.1
  have okQ : quarrelsOk n.things.length n.quarrels = true := by unfold Nt.ok at ok; simp only [Bool.and_eq_true] at ok; exact ok.2.2
  refine ⟨x, dx, t, s, n, rfl, upd_same, dp_mono e0 _ _ ht, dp_mono e0 _ _ hs, fun H' _ kp hN => ⟨rfl, q _ H' (fun b o e => ?_) ?_⟩, fun H' c => ?_, fun H' _ c => ?_, fun H' _ _ c => ?_⟩
  · have e2 := x2 b o e
    exact kp b o (e0 b o e2) (ne_of_none e2 nx)
  · exact hN.back (x2.trans e0)
  · rw [okT] at c; cases c
  · rw [okR] at c; cases c
  · rw [okQ] at c; cases c
theorem w_asgNight {i : Nat} (h : EvDs K tr σ H [.list (n.things.map eT), .int n.room, .list (n.quarrels.map eQ)]) (ok : n.ok = true) (k : ∀ v H2, Ex H H2 → NightI K H H2 v n → tz D (σ.set i (some v)) H2) :
    tSeq (tAsg (tMake (He.ga K "Night") (spInit K) [] E0 tr) (gName i)) tz D σ H := ev_night h ok H (Evl.Ex.refl H) _ fun v H2 x hv => k v H2 x hv
/-- the receiver of a method: a night in a slot -/
theorem en_things (hi : σ[i]? = some (some v)) (hN : NightAt K H v n) : EvN K (tMeth (He.ga K "Night") "things" (spNThings K) [] E0 (tVar i) tNil) σ H (n.things.map eT) := fun H1 x Q q => by
  have N1 := hN.mono x
  obtain ⟨p, dx, a, b, ts, qs, rfl, h1, _⟩ := N1.at_
  exact ⟨_, hi, p, dx, _, rfl, h1, nf_no _ _ _ (by decide +kernel) (by decide +kernel) (by decide +kernel), _, n, rfl, N1, q⟩
theorem en_quarrels (hi : σ[i]? = some (some v)) (hN : NightAt K H v n) : EvN K (tMeth (He.ga K "Night") "quarrels" (spNQuarrels K) [] E0 (tVar i) tNil) σ H (n.quarrels.map eQ) := fun H1 x Q q => by
  have N1 := hN.mono x
  obtain ⟨p, dx, a, b, ts, qs, rfl, h1, _⟩ := N1.at_
  exact ⟨_, hi, p, dx, _, rfl, h1, nf_no _ _ _ (by decide +kernel) (by decide +kernel) (by decide +kernel), _, n, rfl, N1, q⟩
theorem ed_room (hi : σ[i]? = some (some v)) (hN : NightAt K H v n) : EvD K (tMeth (He.ga K "Night") "room" (spNRoom K) [] E0 (tVar i) tNil) σ H (.int n.room) := fun H1 x Q q => by
  have N1 := hN.mono x
  obtain ⟨p, dx, a, b, ts, qs, rfl, h1, _⟩ := N1.at_
  exact ⟨_, hi, p, dx, _, rfl, h1, nf_no _ _ _ (by decide +kernel) (by decide +kernel) (by decide +kernel), _, n, rfl, N1, fun H2 x2 => q _ H2 x2 (.int _)⟩
theorem ed_begins (hi : σ[i]? = some (some v)) (hN : NightAt K H v n) (hl : n.things.length ≤ 1000) : EvD K (tMeth (He.ga K "Night") "begins" (spNBegins K) [] E0 (tVar i) tNil) σ H (eS (rng n.things.length, 0)) := fun H1 x Q q => by
  have N1 := hN.mono x
  obtain ⟨p, dx, a, b, ts, qs, rfl, h1, _⟩ := N1.at_
  exact ⟨_, hi, p, dx, _, rfl, h1, nf_no _ _ _ (by decide +kernel) (by decide +kernel) (by decide +kernel), _, n, rfl, N1, hl, q⟩
theorem ed_ends (hi : σ[i]? = some (some v)) (hN : NightAt K H v n) : EvD K (tMeth (He.ga K "Night") "ends" (spNEnds K) [] E0 (tVar i) tNil) σ H (eS ([], 1)) := fun H1 x Q q => by
  have N1 := hN.mono x
  obtain ⟨p, dx, a, b, ts, qs, rfl, h1, _⟩ := N1.at_
  exact ⟨_, hi, p, dx, _, rfl, h1, nf_no _ _ _ (by decide +kernel) (by decide +kernel) (by decide +kernel), _, n, rfl, N1, q⟩
theorem ed_npeace {g : List Int} (hi : σ[i]? = some (some v)) (hN : NightAt K H v n) (hg : EvD K ta σ H (eI g)) : EvD K (tMeth (He.ga K "Night") "peace" (spNPeace K) [] E0 (tVar i) (tCons ta tNil)) σ H (.bool (peace n.quarrels g)) := fun H1 x Q q => by
  have N1 := hN.mono x
  obtain ⟨p, dx, a, b, ts, qs, rfl, h1, _⟩ := N1.at_
  refine ⟨_, hi, p, dx, _, rfl, h1, nf_no _ _ _ (by decide +kernel) (by decide +kernel) (by decide +kernel), hg H1 x _ fun u H2 x2 h2 => ?_⟩
  exact ⟨_, n, u, g, rfl, N1.mono x2, h2, fun H3 x3 => q _ H3 (x2.trans x3) (.bl _)⟩
theorem ed_nover {g : List Int} (hi : σ[i]? = some (some v)) (hN : NightAt K H v n) (hl : n.things.length ≤ 1000) (hg : EvD K ta σ H (eI g)) : EvD K (tMeth (He.ga K "Night") "over_there" (spNOver K) [] E0 (tVar i) (tCons ta tNil)) σ H (eI (restOf g n.things.length)) := fun H1 x Q q => by
  have N1 := hN.mono x
  obtain ⟨p, dx, a, b, ts, qs, rfl, h1, _⟩ := N1.at_
  refine ⟨_, hi, p, dx, _, rfl, h1, nf_no _ _ _ (by decide +kernel) (by decide +kernel) (by decide +kernel), hg H1 x _ fun u H2 x2 h2 => ?_⟩
  exact ⟨_, n, u, g, rfl, N1.mono x2, h2, hl, fun v3 H3 x3 h3 => q v3 H3 (x2.trans x3) h3⟩
variable {d : PyData} {sp : Sp} {ms : Str} {ds : List PyData}
theorem i_Things {K' : PySem.W.Frag} (h : EvD K (tMeth C ms (spNThings K') [] E0 ta tr) σ H d) : EvD K (tMeth C ms (spNThings K') [] E0 ta tr) σ H d := h
theorem i_Quarrels {K' : PySem.W.Frag} (h : EvD K (tMeth C ms (spNQuarrels K') [] E0 ta tr) σ H d) : EvD K (tMeth C ms (spNQuarrels K') [] E0 ta tr) σ H d := h
theorem i_Room {K' : PySem.W.Frag} (h : EvD K (tMeth C ms (spNRoom K') [] E0 ta tr) σ H d) : EvD K (tMeth C ms (spNRoom K') [] E0 ta tr) σ H d := h
theorem i_Begins {K' : PySem.W.Frag} (h : EvD K (tMeth C ms (spNBegins K') [] E0 ta tr) σ H d) : EvD K (tMeth C ms (spNBegins K') [] E0 ta tr) σ H d := h
theorem i_Ends {K' : PySem.W.Frag} (h : EvD K (tMeth C ms (spNEnds K') [] E0 ta tr) σ H d) : EvD K (tMeth C ms (spNEnds K') [] E0 ta tr) σ H d := h
theorem i_Peace {K' : PySem.W.Frag} (h : EvD K (tMeth C ms (spNPeace K') [] E0 ta tr) σ H d) : EvD K (tMeth C ms (spNPeace K') [] E0 ta tr) σ H d := h
theorem i_Over {K' : PySem.W.Frag} (h : EvD K (tMeth C ms (spNOver K') [] E0 ta tr) σ H d) : EvD K (tMeth C ms (spNOver K') [] E0 ta tr) σ H d := h
end
section
variable {K : PySem.W.Frag} {σ : L2.St} {H : Hp} {ta tb : TE} {D : Ends} {t tz : TS}
/-- tuple(range(n)) -/
theorem ed_tupRg {n : Nat} (h : EvD K ta σ H (.int (n : Int))) (hn : n ≤ 1000) : EvD K (tTupRg (tRg1 ta)) σ H (eI (rng n)) := fun H1 x Q q => h H1 x _ fun v H2 x2 h2 =>
  ⟨(n : Int), dp_int.mp h2, RgOk.of_le (by omega) (by omega) (by omega) (by omega), fun p hp => q _ _ (x2.trans (Evl.Ex.new hp)) (dp_eI.mpr ⟨p, rfl, SqT.of (by rw [upd_same, rgV_eq])⟩)⟩
theorem i_TupRg {d : PyData} {u : L2.St → Hp → (Int → Int → Hp → Prop) → Prop} (h : EvD K (tTupRg u) σ H d) : EvD K (tTupRg u) σ H d := h
/-- the ways ahead of tz come together in R -/
theorem w_join (R : L2.St → Hp → Prop) (go : ∀ σ' H', R σ' H' → tz D σ' H') (m : (∀ σ' H', R σ' H' → tz D σ' H') → tSeq t tz D σ H) : tSeq t tz D σ H := m go
end
section
variable {K : PySem.W.Frag} {σ : L2.St} {H : Hp} {te : TE} {D : Ends} {tz : TS}
/-- a term that gives what R tells -/
def EvX (te : TE) (σ : L2.St) (H : Hp) (R : Hp → V → Hp → Prop) : Prop := ∀ H1, Ex H H1 → ∀ Q : VK, (∀ v H2, Ex H1 H2 → R H1 v H2 → Q v H2) → te σ H1 Q
theorem w_asgX {R : Hp → V → Hp → Prop} {i : Nat} (h : EvX te σ H R) (k : ∀ v H1, Ex H H1 → R H v H1 → tz D (σ.set i (some v)) H1) : tSeq (tAsg te (gName i)) tz D σ H := h H (Evl.Ex.refl H) _ fun v H1 x hv => k v H1 x hv
theorem w_asgAt {d : PyData} {g : TG} (h : EvD K te σ H d) (k : ∀ v H1, Ex H H1 → Dp K H1 v d → g v σ H1 (fun σ2 H2 => tz D σ2 H2)) : tSeq (tAsg te g) tz D σ H := h H (Evl.Ex.refl H) _ fun v H1 x hv => k v H1 x hv
/-- a term that gives the address l -/
def EvA1 (te : TE) (σ : L2.St) (H : Hp) (l : Addr) : Prop := ∀ H1, Ex H H1 → ∀ Q : VK, (∀ H2, Ex H1 H2 → Q (.ref l) H2) → te σ H1 Q
theorem ea_var {i : Nat} {l : Addr} (h : σ[i]? = some (some (.ref l))) : EvA1 (tVar i) σ H l := fun H1 x _ q => ⟨_, h, q H1 (Evl.Ex.refl H1)⟩
theorem ea_ixL {ta tb : TE} {l p : Addr} {i : Int} {xs : List V} (h : EvA1 ta σ H l) (hi : EvD K tb σ H (.int i)) (hs : SqL K H l xs) (hx : atI xs i = some (.ref p)) : EvA1 (tOp (rIxL K) ta tb) σ H p := fun H1 x _ q =>
  h H1 x _ fun H2 x2 => hi H2 (x.trans x2) _ fun v H3 x3 h3 => ⟨l, xs, i, .ref p, rfl, dp_int.mp h3, Evl.ex_l ((x.trans x2).trans x3) hs, hx, q H3 (x2.trans x3)⟩
theorem w_app {to : TE} {d : PyData} {l : Addr} {xs : List V} (h : EvA1 to σ H l) (he : EvD K te σ H d) (hx : H l = some (.lst xs)) (hl : xs.length < 100000) (k : ∀ u H1, Ex H H1 → Dp K H1 u d → H1 l = some (.lst xs) → tz D σ (upd H1 l (.lst (xs ++ [u])))) : tSeq (tDrop (tBM K "list" rAppend to (tCons te tNil))) tz D σ H :=
  h H (Evl.Ex.refl H) _ fun H1 x => ⟨.inl ⟨rfl, _, SqL.of (x _ _ hx)⟩, he H1 x _ fun u H2 x2 h3 => ⟨l, xs, u, rfl, rfl, x2 _ _ (x _ _ hx), Evl.sz_lt hl, k u H2 (x.trans x2) h3 (x2 _ _ (x _ _ hx))⟩⟩
theorem w_app1 {to : TE} {d : PyData} {l : Addr} {xs : List V} (h : EvA1 to σ H l) (he : EvD K te σ H d) (hx : H l = some (.lst xs)) (hl : xs.length < 100000) (k : ∀ u H1, Ex H H1 → Dp K H1 u d → H1 l = some (.lst xs) → D.nx σ (upd H1 l (.lst (xs ++ [u])))) : tDrop (tBM K "list" rAppend to (tCons te tNil)) D σ H :=
  h H (Evl.Ex.refl H) _ fun H1 x => ⟨.inl ⟨rfl, _, SqL.of (x _ _ hx)⟩, he H1 x _ fun u H2 x2 h3 => ⟨l, xs, u, rfl, rfl, x2 _ _ (x _ _ hx), Evl.sz_lt hl, k u H2 (x.trans x2) h3 (x2 _ _ (x _ _ hx))⟩⟩
/-- a fresh list's change is seen by nobody -/
theorem w_appN {to : TE} {ds : List PyData} {d : PyData} (h : EvN K to σ H ds) (he : EvD K te σ H d) (hl : ds.length < 100000) (k : ∀ H1, Ex H H1 → tz D σ H1) : tSeq (tDrop (tBM K "list" rAppend to (tCons te tNil))) tz D σ H :=
  h H (Evl.Ex.refl H) _ fun v H1 x hv => by
    obtain ⟨p, xs, rfl, n, h1, h2⟩ := hv
    refine ⟨.inl ⟨rfl, _, SqL.of h1⟩, he H1 x _ fun u H2 x2 h3 => ⟨p, xs, u, rfl, rfl, x2 _ _ h1, Evl.sz_lt (by rw [dpa_len h2]; exact hl), k _ ((x.trans x2).mut n)⟩⟩
theorem w_clrN {to : TE} {ds : List PyData} (h : EvN K to σ H ds) (k : ∀ H1, Ex H H1 → D.nx σ H1) : tDrop (tBM0 K "list" rClear to) D σ H :=
  h H (Evl.Ex.refl H) _ fun v H1 x hv => by
    obtain ⟨p, xs, rfl, n, h1, h2⟩ := hv
    exact ⟨.inl ⟨rfl, _, SqL.of h1⟩, p, xs, rfl, rfl, h1, k _ (x.mut n)⟩
theorem EvX.ret {R : Hp → V → Hp → Prop} (h : EvX te σ H R) (k : ∀ v H1, Ex H H1 → R H v H1 → D.rt v H1) : tRet te D σ H := h H (Evl.Ex.refl H) _ fun v H1 x hv => k v H1 x hv
/-- a list of two lists of its own -/
def Pair2 (K : PySem.W.Frag) (ds es : List PyData) (H0 : Hp) (v : V) (H : Hp) : Prop := ∃ p l k xs ys, v = .ref p ∧ H0 p = none ∧ H p = some (.lst [.ref l, .ref k]) ∧ H0 l = none ∧ H l = some (.lst xs) ∧ DpAll K H xs ds ∧ H0 k = none ∧ H k = some (.lst ys) ∧ DpAll K H ys es ∧ l ≠ k ∧ p ≠ l ∧ p ≠ k
theorem ex_pair2 {ta tb : TE} {ds es : List PyData} (h1 : EvN K ta σ H ds) (h2 : EvN K tb σ H es) : EvX (tLst (tCons ta (tCons tb tNil))) σ H (Pair2 K ds es) := fun H1 x Q q =>
  h1 H1 x _ fun v H2 x2 h4 => h2 H2 (x.trans x2) _ fun u H3 x3 h5 => ⟨by show 2 ≤ sizeLine; decide, fun p hp => by
    obtain ⟨l, xs, rfl, n1, e1, d1⟩ := h4
    obtain ⟨k, ys, rfl, n2, e2, d2⟩ := h5
    have x4 := Evl.Ex.new (o := HO.lst [.ref l, .ref k]) hp
    exact q _ _ ((x2.trans x3).trans x4) ⟨p, l, k, xs, ys, rfl, Evl.fresh_back (x2.trans x3) hp, upd_same, n1, x4 _ _ (x3 _ _ e1), dpa_mono (x3.trans x4) _ _ d1, Evl.fresh_back x2 n2, x4 _ _ e2, dpa_mono x4 _ _ d2,
      ne_of_none e1 n2, (ne_of_none (x3 _ _ e1) hp).symm, (ne_of_none e2 hp).symm⟩⟩
end

end Fy

namespace Fy
open PySem PySem.Spec PyProof.Rows L2
/-! ### a night made where a suite catches what is raised -/
theorem pe_NightS {X : Cx} {p pos : Pos} {e : Expr} {es : List Expr} {t : TA} {W : WX} {K : PySem.W.Frag} (T : Tx K X.mg) (hr : Room 3 X.A) (hg : Gl X "Night") (tk : L2N.Takes X W) (ha : PA X (e :: es) t) (he : starEach (e :: es) X.env = (false, eval e X.env) :: starEach es X.env := by rfl) (hpl : (backTo pos (starEach es X.env)).any (·.1) = false := by rfl) (hK : K = X.K := by rfl) :
    PE X (.Call (.Name "Night" p) (e :: es) [] pos) (tMakeS (He.ga K "Night") (spInit K) (WE W) t) := by
  subst hK
  obtain ⟨fd, G, b⟩ := ok_Night___init__ (P := X.prog) (w := X.w) (base := X.base) T
  exact pe_makeS T.mkr G hr hg T.g_Night b (fun σ => L2N.passAt tk σ) ha (by decide) he hpl
/-- what the making comes to -/
theorem make_out {K : PySem.W.Frag} {σ : L2.St} {H : Hp} {E : L2.St → XK} {tr : TA} {n : Nt} (h : EvDs K tr σ H [.list (n.things.map eT), .int n.room, .list (n.quarrels.map eQ)]) (Q : VK)
    (q0 : n.ok = true → ∀ v H2, Ex H H2 → NightI K H H2 v n → Q v H2)
    (q1 : thingsOk n.things = false → ∀ H2, Ex H H2 → E σ (.ref (He.ga K "BadThing")) none H2)
    (q2 : thingsOk n.things = true → roomOk n.room = false → ∀ H2, Ex H H2 → E σ (.ref (He.ga K "BadRoom")) none H2)
    (q3 : thingsOk n.things = true → roomOk n.room = true → quarrelsOk n.things.length n.quarrels = false → ∀ H2, Ex H H2 → E σ (.ref (He.ga K "BadQuarrel")) none H2) :
    tMakeS (He.ga K "Night") (spInit K) E tr σ H Q := h H (Evl.Ex.refl H) _ fun vs H2 x2 hvs => by
  obtain ⟨t, u, s, rfl, ht, hu, hs⟩ := dpa3 hvs
  cases dp_int.mp hu
  intro x dx nx ndx nex
  have e0 := ex_made (C := He.ga K "Night") nx ndx
  refine ⟨x, dx, t, s, n, rfl, upd_same, dp_mono e0 _ _ ht, dp_mono e0 _ _ hs, fun H' ok kp hN => ⟨rfl, q0 ok _ H' (fun b o e => ?_) (hN.back (x2.trans e0))⟩, fun H' c ex => q1 c H' ((x2.trans e0).trans ex), fun H' a c ex => q2 a c H' ((x2.trans e0).trans ex), fun H' a b c ex => q3 a b c H' ((x2.trans e0).trans ex)⟩
  have e2 := x2 b o e
  exact kp b o (e0 b o e2) (ne_of_none e2 nx)

end Fy

namespace Fy
open PySem PySem.Spec PyProof.Rows L2
/-! ### texts, in plain Lean -/
def sg (x : Str) : List Nat := x.cps.toList
theorem sg_len (x : Str) : (sg x).length = x.length := by simp [sg, Str.length]
theorem sg_inj {x y : Str} (h : sg x = sg y) : x = y := TL.ext_tl h
theorem sg_app (x y : Str) : sg (x ++ y) = sg x ++ sg y := TL.tl_append x y
def isDig (c : Nat) : Bool := decide (48 ≤ c ∧ c ≤ 57)
theorem dig_mem (c : Nat) : decide (c ∈ ("0123456789" : Str).cps.toList) = isDig c := by
  have e : ("0123456789" : Str).cps.toList = [48, 49, 50, 51, 52, 53, 54, 55, 56, 57] := by decide +kernel
  rw [e]
  unfold isDig
  refine decide_eq_decide.mpr ?_
  simp only [List.mem_cons, List.not_mem_nil, or_false]
  omega
theorem one_zero (c : Nat) : decide ((⟨#[c]⟩ : Str) = "0") = decide (c = 48) := by
  have e : ("0" : Str) = ⟨#[48]⟩ := by decide +kernel
  rw [e]
  exact decide_eq_decide.mpr ⟨fun h => by injection h with h; simpa using h, fun h => by rw [h]⟩
def lenOk (x : Str) : Bool := decide ((1 : Int) ≤ (x.length : Int)) && decide ((x.length : Int) ≤ 10)
def zeroAhead (x : Str) : Bool := decide ((sg x).head? = some 48) && !decide (x = "0")
def numOk (x : Str) : Bool := (lenOk x && !zeroAhead x) && (sg x).all isDig
def numV (x : Str) : Int := ((PySem.NumText.digitsVal (sg x) : Nat) : Int)
def numberOf (x : Str) : Option Int := if numOk x = true then some (numV x) else none
def wAt (ws : List Str) (i : Nat) : Str := ws.getD i Str.empty
theorem wAt_get {ws : List Str} {i : Nat} (h : i < ws.length) : ws[i]? = some (wAt ws i) := by
  unfold wAt
  rw [List.getD_eq_getElem?_getD, List.getElem?_eq_getElem h]
  rfl
def rowsS (x : Str) : Bool := decide (x = "rows") || decide (x = "sits")
def thingOf (ws : List Str) : Option (Int × Bool) := if (decide (ws.length = 3) && rowsS (wAt ws 2)) = true then (numberOf (wAt ws 1)).map fun p => (p, decide (wAt ws 2 = "rows")) else none
def keeperOf (w : Str) : Option Int := if w = "-" then some (-1) else numberOf w
def quarrelOf (ws : List Str) : Option (Int × Int × Int) := if (decide (ws.length = 4) && decide (wAt ws 0 = "quarrel")) = true then (keeperOf (wAt ws 3)).bind fun k => (numberOf (wAt ws 1)).bind fun a => (numberOf (wAt ws 2)).map fun b => (a, b, k) else none
def scanW : List (Int × Bool) → List (Int × Int × Int) → List (List Str) → Option (List (Int × Bool) × List (Int × Int × Int))
  | ts, qs, [] => some (ts, qs)
  | ts, qs, ws :: r => if (decide (wAt ws 0 = "thing") && decide (qs = [])) = true then (thingOf ws).bind fun t => scanW (ts ++ [t]) qs r else (quarrelOf ws).bind fun q => scanW ts (qs ++ [q]) r
def lastOk (W : List (List Str)) : Bool := decide (W.getLast? = some [("" : Str)])
def headOk (W : List (List Str)) : Bool := decide ((W.headD []).length = 2) && decide (wAt (W.headD []) 0 = "boat")
def restW (W : List (List Str)) : List (List Str) := (W.drop 1).take (W.length - 2)
def noteOf (W : List (List Str)) : Option Nt := if (lastOk W && headOk W) = true then (scanW [] [] (restW W)).bind fun p => (numberOf (wAt (W.headD []) 1)).bind fun r => if (Nt.mk p.1 r p.2).ok = true then some ⟨p.1, r, p.2⟩ else none else none
def linesW (x : Str) : List (List Str) := (Txt.split x "\n").map fun l => Txt.split l " "
/-! parts of a split -/
theorem nl_tl : TL.tl ("\n" : Str) = [10] := by decide +kernel
theorem bl_tl : TL.tl (" " : Str) = [32] := by decide +kernel
theorem split_nl (x : Str) : (Txt.split x "\n").map sg = TL.spl [10] 0 [] (sg x) := by
  have z := TL.split_spl x "\n" (by rw [nl_tl]; simp) (TL.kind_ok (by decide +kernel))
  rw [nl_tl] at z
  exact z
theorem split_bl (x : Str) : (Txt.split x " ").map sg = TL.spl [32] 0 [] (sg x) := by
  have z := TL.split_spl x " " (by rw [bl_tl]; simp) (TL.kind_ok (by decide +kernel))
  rw [bl_tl] at z
  exact z
theorem spl_parts (s : Nat) : ∀ (l acc : List Nat), (TL.spl [s] 0 acc l).length ≤ l.length + 1 ∧ 1 ≤ (TL.spl [s] 0 acc l).length ∧ ∀ p ∈ TL.spl [s] 0 acc l, p.length ≤ acc.length + l.length ∧ ∀ c ∈ p, c ∈ acc ∨ c ∈ l
  | [], acc => by
    rw [TL.spl_nil]
    exact ⟨Nat.le_refl _, Nat.le_refl _, fun p hp => by rw [List.mem_singleton.mp hp]; exact ⟨Nat.le_add_right _ _, fun c hc => .inl hc⟩⟩
  | c :: r, acc => by
    cases h : TL.pre [s] (c :: r) with
    | true =>
      rw [TL.spl_hit h]
      obtain ⟨a1, a2, a3⟩ := spl_parts s r []
      refine ⟨by rw [List.length_cons, List.length_cons]; show _ + 1 ≤ _; exact Nat.succ_le_succ a1, by rw [List.length_cons]; omega, fun p hp => ?_⟩
      rcases List.mem_cons.mp hp with rfl | hp
      · exact ⟨Nat.le_add_right _ _, fun c hc => .inl hc⟩
      · obtain ⟨this, cs⟩ := a3 p hp
        rw [List.length_cons]
        simp only [List.length_nil] at this
        exact ⟨by omega, fun c hc => .inr (List.mem_cons_of_mem _ ((cs c hc).elim (fun z => nomatch z) id))⟩
    | false =>
      rw [TL.spl_miss h]
      obtain ⟨a1, a2, a3⟩ := spl_parts s r (acc ++ [c])
      refine ⟨by rw [List.length_cons]; omega, a2, fun p hp => ?_⟩
      obtain ⟨this, cs⟩ := a3 p hp
      rw [List.length_append] at this
      rw [List.length_cons]
      simp only [List.length_cons, List.length_nil] at this
      refine ⟨by omega, fun d hd => ?_⟩
      rcases cs d hd with h | h
      · rcases List.mem_append.mp h with h | h
        · exact .inl h
        · rw [List.mem_singleton.mp h]; exact .inr List.mem_cons_self
      · exact .inr (List.mem_cons_of_mem _ h)
theorem okS_iff (x : Str) : PyData.strOk x = true ↔ ∀ c ∈ sg x, c < 0x110000 := by
  unfold PyData.strOk sg
  rw [← Array.all_toList, List.all_eq_true]
  exact ⟨fun h c hc => of_decide_eq_true (h c hc), fun h c hc => decide_eq_true (h c hc)⟩
theorem split_nl_len (x : Str) : (Txt.split x "\n").length ≤ x.length + 1 ∧ 1 ≤ (Txt.split x "\n").length ∧ ∀ p ∈ Txt.split x "\n", p.length ≤ x.length ∧ ∀ c ∈ sg p, c ∈ sg x := by
  obtain ⟨a1, a2, a3⟩ := spl_parts 10 (sg x) []
  rw [← split_nl, List.length_map, sg_len] at a1
  rw [← split_nl, List.length_map] at a2
  rw [← split_nl] at a3
  refine ⟨a1, a2, fun p hp => ?_⟩
  obtain ⟨this, cs⟩ := a3 (sg p) (List.mem_map.mpr ⟨p, hp, rfl⟩)
  rw [sg_len, sg_len] at this
  exact ⟨by simpa using this, fun c hc => (cs c hc).elim (fun z => nomatch z) id⟩
theorem split_bl_len (x : Str) : (Txt.split x " ").length ≤ x.length + 1 ∧ 1 ≤ (Txt.split x " ").length ∧ ∀ p ∈ Txt.split x " ", p.length ≤ x.length ∧ ∀ c ∈ sg p, c ∈ sg x := by
  obtain ⟨a1, a2, a3⟩ := spl_parts 32 (sg x) []
  rw [← split_bl, List.length_map, sg_len] at a1
  rw [← split_bl, List.length_map] at a2
  rw [← split_bl] at a3
  refine ⟨a1, a2, fun p hp => ?_⟩
  obtain ⟨this, cs⟩ := a3 (sg p) (List.mem_map.mpr ⟨p, hp, rfl⟩)
  rw [sg_len, sg_len] at this
  exact ⟨by simpa using this, fun c hc => (cs c hc).elim (fun z => nomatch z) id⟩
/-- words of bounded size -/
def Small (N : Nat) (ws : List Str) : Prop := 1 ≤ ws.length ∧ ws.length ≤ N + 1 ∧ ∀ w ∈ ws, w.length ≤ N ∧ PyData.strOk w = true
theorem small_lines {x : Str} {N : Nat} (h : x.length ≤ N) (hc : PyData.strOk x = true) : ∀ ws ∈ linesW x, Small N ws := fun ws hw => by
  obtain ⟨l, hl, rfl⟩ := List.mem_map.mp hw
  have hx := (okS_iff x).mp hc
  obtain ⟨h1, c1⟩ := (split_nl_len x).2.2 l hl
  obtain ⟨a1, a2, a3⟩ := split_bl_len l
  exact ⟨a2, by omega, fun w hw => ⟨by have := (a3 w hw).1; omega, (okS_iff w).mpr fun c h => hx c (c1 c ((a3 w hw).2 c h))⟩⟩
theorem lines_len (x : Str) : (linesW x).length ≤ x.length + 1 ∧ 1 ≤ (linesW x).length := by
  unfold linesW
  rw [List.length_map]
  exact ⟨(split_nl_len x).1, (split_nl_len x).2.1⟩

end Fy

namespace Fy
open PySem PySem.Spec PyProof.Rows L2
/-! ### texts, by data -/
abbrev rLenS : List V → Hp → VK → Prop := fun xs H Q => ∃ z : Str, xs = [.str z] ∧ z.length ≤ sizeLine ∧ Q (.int z.length) H
abbrev rIntS : List V → Hp → VK → Prop := fun xs H Q => ∃ a n, xs = [.str a] ∧ PySem.intText? a = some n ∧ a.length ≤ 640 ∧ Q (.int n) H
abbrev rStrI : List V → Hp → VK → Prop := fun xs H Q => ∃ i : Int, xs = [.int i] ∧ i.natAbs.log2 < 1920 ∧ Q (.str (toString i)) H
abbrev rAddS : R2 := fun x y H Q => ∃ i j : Str, x = .str i ∧ y = .str j ∧ i.length + j.length ≤ sizeLine ∧ Q (.str (i ++ j)) H
abbrev rSplit : V → List V → Hp → VK → Prop := fun x xs H Q => ∃ a b, x = .str a ∧ xs = [.str b] ∧ (b.length == 0) = false ∧ a.length + 2 ≤ sizeLine ∧ rNewStrs (Txt.split a b) H Q
abbrev rJoin (K : PySem.W.Frag) : V → List V → Hp → VK → Prop := fun x xs H Q => ∃ a p, ∃ ys : List Str, x = .str a ∧ xs = [.ref p] ∧ (SqL K H p (ys.map V.str) ∨ SqT K H p (ys.map V.str)) ∧ (ys.map (·.length)).sum + ys.length * a.length ≤ 16777216 ∧ Q (.str (Txt.join a ys)) H
section
variable {K : PySem.W.Frag} {σ : L2.St} {H : Hp} {ta tb te tl : TE} {D : Ends} {tu tz : TS} {g : TG} {x y : Str} {i : Int}
theorem un65 {k : Nat} {A : Around} (r : Room k A) : A.units + 65 < cLine := by have := r.un; omega
theorem sz5 {n : Nat} (h : n ≤ 100000) : n ≤ sizeLine := Evl.sz_of h
theorem cd_lenS (h : x.length ≤ 100000) : CD K rLenS [.str x] (.int (x.length : Nat)) := fun H vs hv Q q => by
  obtain ⟨v, rfl, h1⟩ := dpa1 hv
  exact ⟨x, by rw [dp_str.mp h1], sz5 h, q _ H (Evl.Ex.refl H) (.int _)⟩
theorem cd_intS {n : Int} (h : PySem.intText? x = some n) (hl : x.length ≤ 640) : CD K rIntS [.str x] (.int n) := fun H vs hv Q q => by
  obtain ⟨v, rfl, h1⟩ := dpa1 hv
  exact ⟨x, n, by rw [dp_str.mp h1], h, hl, q _ H (Evl.Ex.refl H) (.int _)⟩
theorem cd_strI (h : i.natAbs.log2 < 1920) : CD K rStrI [.int i] (.str (toString i)) := fun H vs hv Q q => by
  obtain ⟨v, rfl, h1⟩ := dpa1 hv
  exact ⟨i, by rw [dp_int.mp h1], h, q _ H (Evl.Ex.refl H) (.str _)⟩
theorem rd_addS (h : x.length + y.length ≤ 100000) : RD K rAddS (.str x) (.str y) (.str (x ++ y)) := fun H u v hu hv Q q => ⟨x, y, dp_str.mp hu, dp_str.mp hv, sz5 h, q _ H (Evl.Ex.refl H) (.str _)⟩
theorem rd_ixS {c : Nat} (h : x.length ≤ 100000) (ha : atI (sg x) i = some c) : RD K rIxS (.str x) (.int i) (.str ⟨#[c]⟩) := fun H u v hu hv Q q => ⟨x, i, c, dp_str.mp hu, dp_int.mp hv, sz5 h, ha, q _ H (Evl.Ex.refl H) (.str _)⟩
theorem rd_niS {c : Nat} : RD K rNotInS (.str ⟨#[c]⟩) (.str x) (.bool (!decide (c ∈ x.cps.toList))) := fun H u v hu hv Q q => ⟨c, x, dp_str.mp hu, dp_str.mp hv, q _ H (Evl.Ex.refl H) (.bl _)⟩
theorem en_split (h : EvD K ta σ H (.str x)) (hb : EvD K tb σ H (.str y)) (hy : (y.length == 0) = false) (hl : x.length ≤ 90000) : EvN K (tM1 rSplit ta tb) σ H ((Txt.split x y).map .str) := fun H1 e Q q =>
  h H1 e _ fun v H2 x2 hv => ⟨⟨x, dp_str.mp hv⟩, hb H2 (e.trans x2) _ fun u H3 x3 hu => ⟨x, y, dp_str.mp hv, by rw [dp_str.mp hu], hy, sz5 (by omega), fun p hp => q _ _ ((x2.trans x3).trans (Evl.Ex.new hp)) ⟨p, _, rfl, Evl.fresh_back (x2.trans x3) hp, upd_same, dpa_strs.mpr rfl⟩⟩⟩
theorem ed_join {ys : List Str} (h : EvD K ta σ H (.str x)) (hb : EvD K tb σ H (.list (ys.map .str))) (hl : (ys.map (·.length)).sum + ys.length * x.length ≤ 16777216) : EvD K (tM1 (rJoin K) ta tb) σ H (.str (Txt.join x ys)) := fun H1 e Q q =>
  h H1 e _ fun v H2 x2 hv => ⟨⟨x, dp_str.mp hv⟩, hb H2 (e.trans x2) _ fun u H3 x3 hu => by
    obtain ⟨a, xs, rfl, hs, hd⟩ := dp_lst.mp hu
    rw [dpa_strs.mp hd] at hs
    exact ⟨x, a, ys, dp_str.mp hv, rfl, .inl hs, hl, q _ H3 (x2.trans x3) (.str _)⟩⟩
/-- for c in a text -/
theorem w_forS {j : Nat} (h : EvD K te σ H (.str x)) (Pv : Nat → L2.St → Hp → Prop) (h0 : ∀ H1, Ex H H1 → Pv 0 σ H1)
    (hs : ∀ (k : Nat) (c : Nat) σ' H', (sg x)[k]? = some c → Pv k σ' H' → tu { D with nx := Pv (k + 1), ct := Pv (k + 1), bk := tz D } (σ'.set j (some (.str ⟨#[c]⟩))) H') (hd : ∀ σ' H', Pv (sg x).length σ' H' → tz D σ' H') : tSeq (tFor (iStr te) (gName j) tu) tz D σ H :=
  h H (Evl.Ex.refl H) _ fun v H1 x1 hv => ⟨x, dp_str.mp hv, fun k m σ' H' => m = (sg x).length - k ∧ k ≤ (sg x).length ∧ Pv k σ' H', ⟨_, rfl, Nat.zero_le _, h0 H1 x1⟩, by
    rintro k m σ' H' ⟨rfl, hk, pv⟩
    have sz : x.cps.size = (sg x).length := by simp [sg]
    by_cases hlt : k < (sg x).length
    · refine .inr ⟨by show k < x.cps.size; omega, Pv (k + 1), fun σ3 H3 p3 => ⟨(sg x).length - (k + 1), by omega, rfl, hlt, p3⟩, fun y H2 yy => ?_⟩
      obtain ⟨rfl, c, hc, rfl⟩ := yy
      refine hs k c σ' _ ?_ pv
      unfold sg
      rw [Array.getElem?_toList]
      exact hc
    · have e2 : k = (sg x).length := by omega
      subst e2
      exact .inl ⟨by show x.cps.size ≤ _; omega, hd σ' H' pv⟩⟩
/-- [e for t in xs], e a new list each time -/
theorem en_mapLL {α : Type} (enc : α → PyData) {xs : List α} (f : α → List PyData) (hf : ∀ a, noLs (f a) = true) {vs : List Nat} {j : Nat} (h : EvN K tl σ H (xs.map enc)) (hz : xs.length ≤ 100000) (hw : ∀ x, wipe ((wipe σ vs).set j (some x)) vs = wipe σ vs)
    (he : ∀ (i : Nat) (a : α) v H1, xs[i]? = some a → Ex H H1 → Dp K H1 v (enc a) → EvN K te ((wipe σ vs).set j (some v)) H1 (f a)) : EvN K (tLc (iList K tl) (gName j) tYes te vs) σ H (xs.map fun a => .list (f a)) := fun H1 x Q q =>
  h H1 x _ fun v H2 x2 h2 => by
    obtain ⟨p, us, rfl, p0, p1, p2⟩ := h2
    have hl := dpa_len p2
    rw [List.length_map] at hl
    refine ⟨p, rfl, ⟨us, SqL.of p1⟩, fun D hD => lc_list (xs := us) (fun i H' => Ex H2 H' ∧ ∃ acc, H' D = some (.lst acc) ∧ acc.length = i ∧ ∀ (k : Nat) (y : V), acc[k]? = some y → ∃ a r ys, xs[k]? = some a ∧ y = .ref r ∧ r ≠ D ∧ H' r = some (.lst ys) ∧ DpAll K H' ys (f a)) ⟨Evl.Ex.new hD, [], upd_same, rfl, fun k y e => by simp at e⟩ (fun i H' _ I => SqL.of (I.1 _ _ p1)) ?_ ?_⟩
    · rintro i y H' hi ⟨e1, acc, a1, a2, a3⟩
      obtain ⟨d, hd, hdy⟩ := dpa_get p2 hi
      obtain ⟨a, ha, rfl⟩ := get_map hd
      refine ⟨hw _, ?_⟩
      unfold tYes
      dsimp only
      rw [if_pos rfl]
      have xx := (x.trans x2).trans e1
      refine he i a y H' ha xx (dp_mono e1 _ _ hdy) H' (Evl.Ex.refl H') _ fun y H4 x4 hy => ?_
      obtain ⟨r, ys, rfl, r0, r1, r2⟩ := hy
      have hD4 := x4 _ _ a1
      have rD : r ≠ D := fun e => by rw [e, a1] at r0; cases r0
      have u4 : Up H4 (upd H4 D (.lst (acc ++ [.ref r]))) := Up.lst hD4
      have il := lt_of_get ha
      refine ⟨acc, hD4, Nat.lt_of_le_of_lt (show acc.length ≤ 100000 by omega) (by decide), (e1.trans x4).mut hD, acc ++ [.ref r], upd_same, by rw [List.length_append, a2]; rfl, fun k y e => ?_⟩
      by_cases hk : k < acc.length
      · rw [List.getElem?_append_left hk] at e
        obtain ⟨b, s, zs, b1, rfl, s0, s1, s2⟩ := a3 k y e
        exact ⟨b, s, zs, b1, rfl, s0, by rw [upd_ne s0]; exact x4 _ _ s1, dpa_up u4 _ _ (hf b) (dpa_mono x4 _ _ s2)⟩
      · rw [List.getElem?_append_right (by omega)] at e
        have k0 : k = i := by
          have : k - acc.length = 0 := by
            cases hz : k - acc.length with
            | zero => rfl
            | succ z => rw [hz] at e; simp at e
          omega
        subst k0
        rw [a2, Nat.sub_self] at e
        cases e
        exact ⟨a, r, ys, ha, rfl, rD, by rw [upd_ne rD]; exact r1, dpa_up u4 _ _ (hf a) r2⟩
    · rintro H' ⟨e1, acc, a1, a2, a3⟩
      refine q _ H' (x2.trans e1) ⟨D, acc, rfl, Evl.fresh_back x2 hD, a1, ?_⟩
      have key : ∀ (acc : List V) (zs : List α), acc.length = zs.length → (∀ (k : Nat) (y : V), acc[k]? = some y → ∃ a r ys, zs[k]? = some a ∧ y = .ref r ∧ r ≠ D ∧ H' r = some (.lst ys) ∧ DpAll K H' ys (f a)) → DpAll K H' acc (zs.map fun a => .list (f a)) := by
        intro acc
        induction acc with
        | nil =>
          intro zs hl _
          cases zs with
          | nil => exact .nil
          | cons _ _ => simp at hl
        | cons c acc ih =>
          intro zs hl hh
          cases zs with
          | nil => simp at hl
          | cons b zs =>
            obtain ⟨a, r, ys, ea, rfl, _, r1, r2⟩ := hh 0 c rfl
            cases ea
            refine .cons (dp_lst.mpr ⟨r, ys, rfl, SqL.of r1, r2⟩) (ih zs (by simpa using hl) fun k y e => ?_)
            have := hh (k + 1) y (by simpa using e)
            simpa using this
      exact key acc xs (by omega) a3
end

end Fy

namespace Fy
open PySem PySem.Spec PyProof.Rows L2
/-! ### notes read, walked -/
def eWs (ws : List Str) : PyData := .list (ws.map .str)
def spNumber (K : PySem.W.Frag) : Sp := fun vs H Q E => ∃ x : Str, vs = [.str x] ∧ x.length ≤ 100000 ∧ (∀ n, numberOf x = some n → ∀ H', Ex H H' → Q (.int n) H') ∧ (numberOf x = none → ∀ H', Ex H H' → E (.ref (He.ga K "BadNote")) none H')
def spThingOf (K : PySem.W.Frag) : Sp := fun vs H Q E => ∃ v ws, vs = [v] ∧ Dp K H v (eWs ws) ∧ Small 90000 ws ∧ (∀ t, thingOf ws = some t → RetR (fun v H' => Dp K H' v (eT t)) H Q) ∧ (thingOf ws = none → ∀ H', Ex H H' → E (.ref (He.ga K "BadNote")) none H')
def spQuarrelOf (K : PySem.W.Frag) : Sp := fun vs H Q E => ∃ v ws, vs = [v] ∧ Dp K H v (eWs ws) ∧ Small 90000 ws ∧ (∀ q, quarrelOf ws = some q → RetR (fun v H' => Dp K H' v (eQ q)) H Q) ∧ (quarrelOf ws = none → ∀ H', Ex H H' → E (.ref (He.ga K "BadNote")) none H')
def spRead (K : PySem.W.Frag) : Sp := fun vs H Q E => ∃ x : Str, vs = [.str x] ∧ x.length ≤ 50000 ∧ PyData.strOk x = true ∧ (∀ n, noteOf (linesW x) = some n → ∀ v H', Ex H H' → NightI K H H' v n → Q v H') ∧ (noteOf (linesW x) = none → ∀ H', Ex H H' → E (.ref (He.ga K "BadNote")) none H')
theorem eqv_str (a b : Str) : PyData.eqv (.str a) (.str b) = decide (a = b) := by simp [PyData.eqv, Bool.beq_eq_decide_eq]
theorem eqv_eWs (a b : List Str) : PyData.eqv (eWs a) (eWs b) = decide (a = b) := eqv_lst eqv_str a b
theorem sh_str {a : Str} (h : PyData.strOk a = true) : SeqAt.shaped (.str a) = true := sh_of (by simpa [PyData.canLay0] using h) (by simp [PyData.depth])
theorem sh_eWs {a : List Str} (h : ∀ w ∈ a, PyData.strOk w = true) : SeqAt.shaped (eWs a) = true := by
  have l : ∀ a : List Str, (∀ w ∈ a, PyData.strOk w = true) → PyData.canLayAll0 (a.map .str) = true := by
    intro a
    induction a with
    | nil => intro _; simp [PyData.canLayAll0]
    | cons b a ih =>
      intro h
      simp only [List.map_cons, PyData.canLayAll0, Bool.and_eq_true]
      exact ⟨by simpa [PyData.canLay0] using h b List.mem_cons_self, ih fun w hw => h w (List.mem_cons_of_mem _ hw)⟩
  refine sh_of (by simp only [eWs, PyData.canLay0]; exact l a h) ?_
  have := deps_map (f := PyData.str) (n := 0) (fun _ => by simp [PyData.depth]) a
  simp only [eWs, PyData.depth]
  omega
theorem any_rows (w : Str) : ([PyData.str "rows", .str "sits"].any fun z => PyData.eqv z (.str w)) = rowsS w := by
  simp only [List.any_cons, List.any_nil, Bool.or_false, eqv_str]
  unfold rowsS
  rw [decide_eq_decide.mpr (show ("rows" : Str) = w ↔ w = "rows" from eq_comm), decide_eq_decide.mpr (show ("sits" : Str) = w ↔ w = "sits" from eq_comm)]
section
variable {K : PySem.W.Frag} {σ : L2.St} {H : Hp} {ta te : TE} {ws : List Str}
theorem ed_word (i : Nat) (h : EvD K ta σ H (eWs ws)) (hi : i < ws.length) : EvD K (tOp (rIxL K) ta (tC (.int (i : Int)))) σ H (.str (wAt ws i)) := ed_op (d := .list (ws.map .str)) (e := .int (i : Int)) h ed_int (rd_ixL (atI_nat (by rw [List.getElem?_map, wAt_get hi]; rfl)))
theorem ed_lenW (h : EvD K ta σ H (eWs ws)) : EvD K (tCB (rLenQ K) (tCons ta tNil)) σ H (.int (ws.length : Nat)) := EvD.cast (ed_cb (eds_cons (d := .list (ws.map .str)) h eds_nil) cd_lenL) (by rw [List.length_map])
/-- number_of(e): a number, or what is raised -/
theorem call_number {E : L2.St → XK} {x : Str} {Q : VK} (h : EvD K te σ H (.str x)) (hl : x.length ≤ 100000) (q : ∀ n, numberOf x = some n → ∀ H', Ex H H' → Q (.int n) H') (e : numberOf x = none → ∀ H', Ex H H' → E σ (.ref (He.ga K "BadNote")) none H') : tCallS (spNumber K) E (tCons te tNil) σ H Q :=
  h H (Evl.Ex.refl H) _ fun v H1 x1 hv => ⟨x, by rw [dp_str.mp hv], hl, fun n hn H' x' => q n hn H' (x1.trans x'), fun hn H' x' => e hn H' (x1.trans x')⟩
end
section
variable {P : Program} {w : World} {K : PySem.W.Frag} {mg : Str → Option Value} {base : Heap}
theorem sc_number_of : FnScope ["word", "sign"] ["word"] (defScope s_number_of) := ⟨rfl, rfl, rfl, by decide +kernel, rfl, by decide +kernel, by decide +kernel⟩
theorem ok_number_of (T : Tx K mg) : Has P w K mg base (L2N.CX P w) 1 "number_of" ["word"] (spNumber K) := by
  obtain ⟨fd, F⟩ := T.f_number_of
  obtain ⟨t_FIGURES, m_FIGURES⟩ := T.t_FIGURES
  refine ⟨T.g_number_of, fd, F.ok sc_number_of (fun vs H Q E h => ?_) (fun cdv A outer s H vs Q E hr h => ⟨_, (pss_cons (ps_if (PW.pt (pw_or (pt_not (pt_chain op_le op_le pe_int (pe_callB (r := rLenS) call_len_str (by rfl) T.b_len (by decide +kernel) (pa_cons (pv 0) pa_nil)) pe_int)) (pw_or1 (PW.pt (pw_and (pt_cmpR op_eq (pe_ix (r := rIxS) ix_str (pv 0) pe_int (fun _ _ => rfl)) pe_str (nomark _)) (pw_and1 (pt_cmpR op_ne (pv 0) pe_str (nomark _)))))))) (pss_one (ps_raiseOwnN rfl (L2N.takes_of rfl rfl rfl rfl) T.x_BadNote T.g_BadNote rfl)) pss_nil)
      (pss_cons (ps_for (passes_of rfl) rfl (pi_str (pv 0)) (pg_name (i := 1) sc_number_of.nd rfl (.inl rfl)) (pss_one (ps_if (pt_cmpR (r := rNotInS) op_notInS (pv 1) (pe_glob rfl m_FIGURES (v := .str "0123456789") ⟨_, rfl⟩) (by rfl)) (pss_one (ps_raiseOwnN rfl (L2N.takes_of rfl rfl rfl rfl) T.x_BadNote T.g_BadNote rfl)) pss_nil)))
      (pss_one (ps_ret (pe_callTy (r := rIntS) call_int_str (by rfl) T.b_int (by decide +kernel) (pa_cons (pv 0) pa_nil)))))), ?_⟩), F.bindsN fun _ _ _ _ _ _ us hl => match us, hl with | [_], _ => rfl, F.kp⟩
  · obtain ⟨x, rfl, _⟩ := h
    rfl
  · obtain ⟨x, rfl, hl, kq, ke⟩ := h
    have len : EvD K (tCB rLenS (tCons (tVar 0) tNil)) [some (.str x), none] H (.int (x.length : Nat)) := ed_cb (eds_cons (ed_var rfl (.str _)) eds_nil) (cd_lenS hl)
    have sec : (!lenOk x) = false → EvB K (tAnd (tTest (tOp rEq (tOp rIxS (tVar 0) (tC (.int 0))) (tC (.str "0")))) (tTest (tOp rNe (tVar 0) (tC (.str "0"))))) [some (.str x), none] H (zeroAhead x) := fun hb => by
      have hlen : lenOk x = true := by simpa using hb
      unfold lenOk at hlen
      simp only [Bool.and_eq_true, decide_eq_true_eq] at hlen
      obtain ⟨c, r, hc⟩ : ∃ c r, sg x = c :: r := by
        cases e : sg x with
        | nil => have := sg_len x; rw [e] at this; simp at this; omega
        | cons c r => exact ⟨c, r, rfl⟩
      have e : zeroAhead x = (decide ((⟨#[c]⟩ : Str) = "0") && !decide (x = "0")) := by
        unfold zeroAhead
        rw [hc, one_zero]
        congr 1
        exact decide_eq_decide.mpr ⟨fun h => by injection h, fun h => by rw [h]; rfl⟩
      rw [e]
      exact eb_and (eb_d (ed_op (d := .str ⟨#[c]⟩) (e := .str "0") (ed_op (d := .str x) (e := .int 0) (ed_var rfl (.str _)) ed_int (rd_ixS hl (by rw [hc]; show atI (c :: r) ((0 : Nat) : Int) = some c; exact atI_nat rfl))) ed_str rd_eqS)) (fun _ => eb_d (ed_op (d := .str x) (e := .str "0") (ed_var rfl (.str _)) ed_str rd_neS))
    refine w_when K (b := !lenOk x || zeroAhead x) (eb_or (eb_not (eb_d (ed_chain ed_int len ed_int))) sec) (fun hb H1 x1 => ?_) (fun hb H1 x1 => ?_)
    · refine ke ?_ H1 x1
      unfold numberOf numOk
      cases e : lenOk x with
      | false => rfl
      | true => rw [e] at hb; simp at hb; rw [hb]; rfl
    · obtain ⟨h1, h2⟩ := Bool.or_eq_false_iff.mp hb
      have hlen : lenOk x = true := by simpa using h1
      refine w_forS (K := K) (x := x) (ed_var rfl (.str _)) (fun k σ H' => ∃ b, σ = [some (.str x), b] ∧ Ex H1 H' ∧ ((sg x).take k).all isDig = true) (fun H2 x2 => ⟨none, rfl, x2, rfl⟩) ?_ ?_
      · rintro k c σ' H2 hc ⟨b, rfl, x2, ha⟩
        refine w_when1 K (b := !isDig c) (eb_d (EvD.cast (ed_op (d := .str ⟨#[c]⟩) (e := .str "0123456789") (ed_var rfl (.str _)) ed_str rd_niS) (by rw [dig_mem]))) (fun hb2 H3 x3 => ?_) (fun hb2 H3 x3 => ?_)
        · refine ke ?_ H3 ((x1.trans x2).trans x3)
          unfold numberOf numOk
          rw [all_not hc (by simpa using hb2), Bool.and_false]
          rfl
        · exact ⟨_, rfl, x2.trans x3, by rw [all_take hc ha]; simpa using hb2⟩
      · rintro σ' H2 ⟨b, rfl, x2, ha⟩
        rw [List.take_length] at ha
        have dg : PySem.NumText.AllDigits (sg x) := fun c hc => of_decide_eq_true (List.all_eq_true.mp ha c hc)
        unfold lenOk at hlen
        simp only [Bool.and_eq_true, decide_eq_true_eq] at hlen
        have hne : sg x ≠ [] := fun e => by have := sg_len x; rw [e] at this; simp at this; omega
        have it := PySem.intText_digits (x := x) dg hne (show x.length ≤ 4300 by omega)
        refine w_ret1 (K := K) (d := .int (numV x)) (ed_cb (eds_cons (ed_var rfl (.str _)) eds_nil) (cd_intS it (by omega))) fun v3 H3 x3 h3 => ?_
        cases dp_int.mp h3
        refine kq (numV x) ?_ H3 ((x1.trans x2).trans x3)
        unfold numberOf numOk lenOk
        rw [decide_eq_true hlen.1, decide_eq_true hlen.2, h2, ha]
        rfl
theorem sc_thing_of : FnScope ["words"] ["words"] (defScope s_thing_of) := ⟨rfl, rfl, rfl, by decide +kernel, rfl, by decide +kernel, by decide +kernel⟩
theorem ok_thing_of (T : Tx K mg) : Has P w K mg base (L2N.CX P w) 2 "thing_of" ["words"] (spThingOf K) := by
  obtain ⟨fd, F⟩ := T.f_thing_of
  have G_number_of := ok_number_of (P := P) (w := w) (base := base) T
  refine ⟨T.g_thing_of, fd, F.ok sc_thing_of (fun vs H Q E h => ?_) (fun cdv A outer s H vs Q E hr h => ⟨_, (pss_cons (ps_if (PW.pt (pw_or (pt_cmpR op_ne (pe_callB (r := rLenQ K) call_len_seq (by rfl) T.b_len (by decide +kernel) (pa_cons (pv 0) pa_nil)) pe_int (nomark _)) (pw_or1 (pt_cmpR (r := rNotInD K) (op_notInD (un65 hr)) (pe_ix (r := rIxL K) ix_list (pv 0) pe_int (fun _ _ => rfl)) (pe_lst (pa_cons pe_str (pa_cons pe_str pa_nil))) (by rfl))))) (pss_one (ps_raiseOwnN rfl (L2N.takes_of rfl rfl rfl rfl) T.x_BadNote T.g_BadNote rfl)) pss_nil)
      (pss_one (ps_ret (pe_tup (pa_cons (pe_fxN G_number_of (hr.mono (by decide)) rfl (L2N.takes_of rfl rfl rfl rfl) (pa_cons (pe_ix (r := rIxL K) ix_list (pv 0) pe_int (fun _ _ => rfl)) pa_nil)) (pa_cons (pe_cmpR op_eq (pe_ix (r := rIxL K) ix_list (pv 0) pe_int (fun _ _ => rfl)) pe_str (nomark _)) pa_nil)))))), ?_⟩), F.bindsN fun _ _ _ _ _ _ us hl => match us, hl with | [_], _ => rfl, F.kp⟩
  · obtain ⟨v, ws, rfl, _⟩ := h
    rfl
  · obtain ⟨v, ws, rfl, hv, hs, kq, ke⟩ := h
    have vE : ∀ H', Ex H H' → EvD K (tVar 0) [some v] H' (eWs ws) := fun H' x => ed_var rfl (dp_mono x _ _ hv)
    have r0 := Evl.Ex.refl H
    have e3 : decide ((ws.length : Int) = 3) = decide (ws.length = 3) := decide_eq_decide.mpr (by omega)
    refine w_when K (b := !decide ((ws.length : Int) = 3) || !rowsS (wAt ws 2)) (eb_or (eb_d (ed_op (d := .int (ws.length : Nat)) (e := .int 3) (ed_lenW (vE H r0)) ed_int rd_neI)) (fun hq => eb_d (EvD.cast (ed_op (d := .str (wAt ws 2)) (e := .list [.str "rows", .str "sits"]) (ed_word 2 (vE H r0) (by simp at hq; omega)) (en_lst (eds_cons ed_str (eds_cons ed_str eds_nil)) (show 2 ≤ 100000 by decide)).toD (rd_niDL (sh_str (hs.2.2 _ (List.mem_of_getElem? (wAt_get (by simp at hq; omega)))).2) (sh_eWs (a := ["rows", "sits"]) (by decide +kernel)))) (by rw [any_rows])))) (fun hb H1 x1 => ?_) (fun hb H1 x1 => ?_)
    · refine ke ?_ H1 x1
      unfold thingOf
      rw [if_neg]
      intro c
      rw [Bool.and_eq_true] at c
      rw [e3, c.1, c.2] at hb
      cases hb
    · obtain ⟨h1, h2⟩ := Bool.or_eq_false_iff.mp hb
      have hl3 : ws.length = 3 := by simp at h1; omega
      have hr : rowsS (wAt ws 2) = true := by simpa using h2
      have tk : thingOf ws = (numberOf (wAt ws 1)).map fun p => (p, decide (wAt ws 2 = "rows")) := by
        unfold thingOf
        rw [if_pos]
        rw [decide_eq_true hl3, hr]
        rfl
      have wl : (wAt ws 1).length ≤ 100000 := by
        have := (hs.2.2 (wAt ws 1) (List.mem_of_getElem? (wAt_get (show 1 < ws.length by omega)))).1
        omega
      refine call_number (K := K) (ed_word 1 (vE H1 x1) (by omega)) wl (fun n hn H2 x2 => ?_) (fun hn H2 x2 => ke (by rw [tk, hn]; rfl) H2 (x1.trans x2))
      have x12 := x1.trans x2
      refine (ed_op (d := .str (wAt ws 2)) (e := .str "rows") (ed_word 2 (vE H2 x12) (by omega)) ed_str rd_eqS : EvD K _ [some v] H2 (.bool (decide (wAt ws 2 = "rows")))) H2 (Evl.Ex.refl H2) _ fun u H3 x3 hu => ?_
      refine ⟨by show 2 ≤ sizeLine; decide, fun p hp => ?_⟩
      refine kq (n, decide (wAt ws 2 = "rows")) (by rw [tk, hn]; rfl) _ _ ((x12.trans x3).trans (Evl.Ex.new hp)) (dp_eT.mpr ⟨p, rfl, SqT.of (by rw [upd_same, dp_bl.mp hu])⟩)
theorem sc_quarrel_of : FnScope ["words", "keeper"] ["words"] (defScope s_quarrel_of) := ⟨rfl, rfl, rfl, by decide +kernel, rfl, by decide +kernel, by decide +kernel⟩
theorem ok_quarrel_of (T : Tx K mg) : Has P w K mg base (L2N.CX P w) 2 "quarrel_of" ["words"] (spQuarrelOf K) := by
  obtain ⟨fd, F⟩ := T.f_quarrel_of
  have G_number_of := ok_number_of (P := P) (w := w) (base := base) T
  refine ⟨T.g_quarrel_of, fd, F.ok sc_quarrel_of (fun vs H Q E h => ?_) (fun cdv A outer s H vs Q E hr h => ⟨_, (pss_cons (ps_if (PW.pt (pw_or (pt_cmpR op_ne (pe_callB (r := rLenQ K) call_len_seq (by rfl) T.b_len (by decide +kernel) (pa_cons (pv 0) pa_nil)) pe_int (nomark _)) (pw_or1 (pt_cmpR op_ne (pe_ix (r := rIxL K) ix_list (pv 0) pe_int (fun _ _ => rfl)) pe_str (nomark _))))) (pss_one (ps_raiseOwnN rfl (L2N.takes_of rfl rfl rfl rfl) T.x_BadNote T.g_BadNote rfl)) pss_nil)
      (pss_cons (ps_set (i := 1) sc_quarrel_of.nd rfl (.inl rfl) (pe_un un_neg pe_int))
      (pss_cons (ps_if (pt_cmpR op_ne (pe_ix (r := rIxL K) ix_list (pv 0) pe_int (fun _ _ => rfl)) pe_str (nomark _)) (pss_one (ps_set (i := 1) sc_quarrel_of.nd rfl (.inl rfl) (pe_fxN G_number_of (hr.mono (by decide)) rfl (L2N.takes_of rfl rfl rfl rfl) (pa_cons (pe_ix (r := rIxL K) ix_list (pv 0) pe_int (fun _ _ => rfl)) pa_nil)))) pss_nil)
      (pss_one (ps_ret (pe_tup (pa_cons (pe_fxN G_number_of (hr.mono (by decide)) rfl (L2N.takes_of rfl rfl rfl rfl) (pa_cons (pe_ix (r := rIxL K) ix_list (pv 0) pe_int (fun _ _ => rfl)) pa_nil)) (pa_cons (pe_fxN G_number_of (hr.mono (by decide)) rfl (L2N.takes_of rfl rfl rfl rfl) (pa_cons (pe_ix (r := rIxL K) ix_list (pv 0) pe_int (fun _ _ => rfl)) pa_nil)) (pa_cons (pv 1) pa_nil))))))))), ?_⟩), F.bindsN fun _ _ _ _ _ _ us hl => match us, hl with | [_], _ => rfl, F.kp⟩
  · obtain ⟨v, ws, rfl, _⟩ := h
    rfl
  · obtain ⟨v, ws, rfl, hv, hs, kq, ke⟩ := h
    have vE : ∀ H' a, Ex H H' → EvD K (tVar 0) [some v, a] H' (eWs ws) := fun H' a x => ed_var rfl (dp_mono x _ _ hv)
    have r0 := Evl.Ex.refl H
    have e4 : decide ((ws.length : Int) = 4) = decide (ws.length = 4) := decide_eq_decide.mpr (by omega)
    refine w_when K (b := !decide ((ws.length : Int) = 4) || !decide (wAt ws 0 = "quarrel")) (eb_or (eb_d (ed_op (d := .int (ws.length : Nat)) (e := .int 4) (ed_lenW (vE H _ r0)) ed_int rd_neI)) (fun hq => eb_d (ed_op (d := .str (wAt ws 0)) (e := .str "quarrel") (ed_word 0 (vE H _ r0) (by simp at hq; omega)) ed_str rd_neS))) (fun hb H1 x1 => ?_) (fun hb H1 x1 => ?_)
    · refine ke ?_ H1 x1
      unfold quarrelOf
      rw [if_neg]
      intro c
      rw [Bool.and_eq_true] at c
      rw [e4, c.1, c.2] at hb
      cases hb
    · obtain ⟨h1, h2⟩ := Bool.or_eq_false_iff.mp hb
      have hl4 : ws.length = 4 := by simp at h1; omega
      have hr : wAt ws 0 = "quarrel" := by simpa using h2
      have tk : quarrelOf ws = (keeperOf (wAt ws 3)).bind fun k => (numberOf (wAt ws 1)).bind fun a => (numberOf (wAt ws 2)).map fun b => (a, b, k) := by
        unfold quarrelOf
        rw [if_pos]
        rw [decide_eq_true hl4, decide_eq_true hr]
        rfl
      have wl : ∀ i, i < 4 → (wAt ws i).length ≤ 100000 := fun i hi => by
        have := (hs.2.2 (wAt ws i) (List.mem_of_getElem? (wAt_get (show i < ws.length by omega)))).1
        omega
      refine w_asg (K := K) (d := .int (-1)) (ed_un ed_int (fun _ => .int _)) (fun v2 H2 x2 h2 => ?_)
      cases dp_int.mp h2
      have x02 := x1.trans x2
      refine w_join (fun σ' H' => ∃ k, keeperOf (wAt ws 3) = some k ∧ σ' = [some v, some (.int k)] ∧ Ex H H') ?go (fun go => ?main)
      case main =>
        refine w_when K (b := !decide (wAt ws 3 = "-")) (eb_d (ed_op (d := .str (wAt ws 3)) (e := .str "-") (ed_word 3 (vE H2 _ x02) (by omega)) ed_str rd_neS)) (fun hb2 H3 x3 => ?_) (fun hb2 H3 x3 => ?_)
        · have hn3 : ¬ wAt ws 3 = "-" := by simpa using hb2
          have x03 := x02.trans x3
          have ko : keeperOf (wAt ws 3) = numberOf (wAt ws 3) := by unfold keeperOf; rw [if_neg hn3]
          refine call_number (K := K) (ed_word 3 (vE H3 _ x03) (by omega)) (wl 3 (by decide)) (fun n hn H4 x4 => ?_) (fun hn H4 x4 => ke (by rw [tk, ko, hn]; rfl) H4 (x03.trans x4))
          exact go _ _ ⟨n, by rw [ko, hn], rfl, x03.trans x4⟩
        · have hn3 : wAt ws 3 = "-" := by simpa using hb2
          exact go _ _ ⟨-1, by unfold keeperOf; rw [if_pos hn3], rfl, x02.trans x3⟩
      case go =>
        rintro σ' H3 ⟨k, hk, rfl, x03⟩
        refine call_number (K := K) (ed_word 1 (vE H3 _ x03) (by omega)) (wl 1 (by decide)) (fun a hna H4 x4 => ?_) (fun hn H4 x4 => ke (by rw [tk, hk, hn]; rfl) H4 (x03.trans x4))
        have x04 := x03.trans x4
        refine call_number (K := K) (ed_word 2 (vE H4 _ x04) (by omega)) (wl 2 (by decide)) (fun b hnb H5 x5 => ?_) (fun hn H5 x5 => ke (by rw [tk, hk, hna, hn]; rfl) H5 (x04.trans x5))
        refine ⟨_, rfl, by show 3 ≤ sizeLine; decide, fun p hp => ?_⟩
        exact kq (a, b, k) (by rw [tk, hk, hna, hnb]; rfl) _ _ ((x04.trans x5).trans (Evl.Ex.new hp)) (dp_eQ.mpr ⟨p, rfl, SqT.of upd_same⟩)
end

end Fy

namespace Fy
open PySem PySem.Spec PyProof.Rows L2
/-! ### sorted: tuples of whole numbers of any length, the empty one first -/
section
open PySem.W PySem.Calls PySem.SeqAt
theorem map_each {M : Model} {A : Around} {E : Value → Shared → Prop} {s : Shared} {α β : Type} {f : α → Sem β} (g : α → β) : ∀ (l : List α) {Q : List β → Shared → Prop}, (∀ v ∈ l, ∀ (Q' : β → Shared → Prop), Q' (g v) s → wpAny M A (f v) Q' E s) → Q (l.map g) s → wpAny M A (l.mapM f) Q E s
  | [], _, _, h => by rw [List.mapM_nil]; exact wpAny_pure h
  | x :: l, Q, hf, h => by
    rw [List.mapM_cons]
    exact wpAny_bind (hf x (.head _) _ (wpAny_bind (map_each g l (Q := fun bs s' => wpAny M A (pure (g x :: bs)) Q E s') (fun v hv => hf v (.tail _ hv)) (wpAny_pure h))))
def headOf (h : Heap) : Value → Option Value
  | .ref a => (h.get? a).bind fun o => match o.data with
    | .seq xs _ => xs[0]?
    | _ => none
  | _ => none
variable {prog : Program} {w : World} {A : Around} {s : Shared}
/-- one tuple against another, as keys of one kind -/
theorem tup_oneLt {xs ys : List PyData} {a b : Value} {as bs : List Addr} {E : Value → Shared → Prop} {Q : Bool → Shared → Prop} (ra : Reads s.heap a (.tuple xs) as) (rb : Reads s.heap b (.tuple ys) bs) (hal : alikeAll xs ys = true)
    (hu : A.units + min (PyData.tuple xs).depth (PyData.tuple ys).depth < cLine) (hq : Q (dataLt (.tuple xs) (.tuple ys)) s) : wpAny (model prog w) A (oneLt' true a b) Q E s := by
  cases ra with
  | @tuple l o vs n _ as₁ h1 h2 h3 h4 =>
    cases rb with
    | @tuple l' o' vs' n' _ bs₁ k1 k2 k3 k4 =>
      have n1 : vs.size = xs.length := by simpa using ReadsAll.length _ _ _ h4
      have n2 : vs'.size = ys.length := by simpa using ReadsAll.length _ _ _ k4
      rw [dataLt_tuple, ← firstLt_toks xs ys hal, ← n1, ← n2] at hq
      rw [oneLt'_eq]
      simp only [if_true]
      refine wpAny_bind (wpAny_cRoomFor (room_here hu) ?_)
      obtain ⟨cls, dd, data, sl⟩ := o
      obtain ⟨cls2, dd2, data2, sl2⟩ := o'
      simp only at h2 h3 k2 k3
      subst h2 h3 k2 k3
      refine wpAny_bind (wpAny_callSpecialIfBound?_slot (T := "tuple") ⟨_, h1, rfl⟩ F.slot_tuple_lt (call_meets F.slot_tuple_lt ⟨_, h1, rfl⟩ F.entry_tuple_lt (F.args_tuple_lt_2 _ _)
        (SeqAt.tuple_ltAt l l' vs vs' n n' dd dd2 sl sl2 (pairEq xs ys) (fun j => dataLt (xs.getD j .none) (ys.getD j .none))) ⟨h1, k1, fun j j1 j2 => ?_, fun j j1 j2 hj => ?_, ?_⟩))
      · have := eqAt_alikeAll xs ys A.in1 s vs.toList vs'.toList _ _ h4 k4 hal (room_in hu) j (by simpa using j1) (by simpa using j2)
        simpa using this
      · have := rcLt_alikeAll xs ys A.in1 s vs.toList vs'.toList _ _ h4 k4 hal (room_in hu) j (by simpa using j1) (by simpa using j2) hj
        simpa using this
      · exact wpAny_truthy_bool hq
/-- tuples, the first of them empty, can be sorted -/
theorem sortsAt_empty {vs : List Value} {ds : List PyData} (e : EachIs (fun v d => ∃ as, Reads s.heap v d as) vs (.tuple [] :: ds)) (hal : AllAlike (.tuple [] :: ds)) (ht : ∀ d, d ∈ ds → ∃ xs, d = .tuple xs) (hu : ∀ d, d ∈ (.tuple [] :: ds : List PyData) → A.units + d.depth < cLine) : SortsAt prog w A s (dataKind s.heap (.tuple [] :: ds)) vs := by
  have ht' : ∀ d, d ∈ (.tuple [] :: ds : List PyData) → ∃ xs, d = .tuple xs := fun d hd => by
    rcases List.mem_cons.mp hd with rfl | hd
    · exact ⟨_, rfl⟩
    · exact ht d hd
  refine ⟨fun v hv => ?_, oneType', ?_, fun h2 E Q hq => ?_⟩
  · obtain ⟨d, hd, as, r⟩ := e.left v hv
    exact ⟨_, dataKind_some hal hd r⟩
  · intro E x y a b Q ha hb hq
    obtain ⟨d, as, hd, ra, rfl⟩ := dataKind_inv ha
    obtain ⟨d', as', hd', rb, rfl⟩ := dataKind_inv hb
    obtain ⟨xs, rfl⟩ := ht' d hd
    obtain ⟨ys, rfl⟩ := ht' d' hd'
    rw [keyLt'_oneType]
    have q := hal _ hd _ hd'
    exact tup_oneLt ra rb (by simpa [alike] using q) (Nat.lt_of_le_of_lt (Nat.add_le_add_left (Nat.min_le_left _ _) _) (hu _ hd)) hq
  · cases e with
    | @cons v0 _ vr _ h0 t =>
      obtain ⟨as0, r0⟩ := h0
      have each : ∀ v ∈ v0 :: vr, ∃ xs as, Reads s.heap v (.tuple xs) as := fun v hv => by
        rcases List.mem_cons.mp hv with rfl | hv
        · exact ⟨_, _, r0⟩
        · obtain ⟨d, hd, as, r⟩ := t.left v hv
          obtain ⟨xs, rfl⟩ := ht d hd
          exact ⟨_, _, r⟩
      have hh0 : headOf s.heap v0 = none := by
        cases r0 with
        | @tuple l o vs n _ as₁ h1 h2 h3 h4 =>
          cases h : vs.toList with
          | nil => simp only [headOf, h1, Option.bind_some, h3]; rw [← Array.getElem?_toList, h]; rfl
          | cons a r => rw [h] at h4; cases h4
      rw [keyKind'_eq, List.mapM_toArray, map_eq_pure_bind]
      refine wpAny_bind (wpAny_bind (map_each (headOf s.heap) _ (fun v hv Q' hq' => ?_) (wpAny_pure ?_)))
      · obtain ⟨xs, as, r⟩ := each v hv
        cases r with
        | @tuple l o vs n _ as₁ h1 h2 h3 h4 =>
          rw [kas_first_eq]
          refine wpAny_bind (Looks.here (show Looks (model prog w) s.heap (typeOf (.ref l)) o.cls from (Looks.ld h1).andThen .now) ?_)
          rw [h2, if_neg (by first | decide | simp)]
          refine wpAny_bind (listItems_at h1 h3 (wpAny_pure ?_))
          have e2 : headOf s.heap (.ref l) = vs[0]? := by simp only [headOf, h1, Option.bind_some, h3]
          rw [e2] at hq'
          exact hq'
      · have z1 : ¬ ((List.map (headOf s.heap) (v0 :: vr)).toArray.all fun x => x.isSome) = true := by
          rw [List.map_cons, hh0]; simp
        have z2 : ¬ (((List.map (headOf s.heap) (v0 :: vr)).toArray[0]?).bind id).isSome = true := by
          rw [List.map_cons, hh0]; simp
        rw [if_neg z1, if_neg z2, oneTypeOnly'_eq, List.mapM_toArray, map_eq_pure_bind]
        refine wpAny_bind (wpAny_bind (wpAny_bind (kas_mapM (r := Value.type "tuple") _ (fun v hv Q' hq' => ?_) (wpAny_pure ?_))))
        · obtain ⟨xs, as, r⟩ := each v hv
          exact Looks.here (looks_reads r) hq'
        · have hall : ((List.map (fun _ => Value.type "tuple") (v0 :: vr)).toArray.all fun x => x == Value.type "tuple") = true := by
            simp only [List.all_toArray, List.all_map, List.all_eq_true]
            intro _ _
            rfl
          have h0 : (List.map (fun _ => Value.type "tuple") (v0 :: vr)).toArray[0]? = some (Value.type "tuple") := by simp
          rw [h0]
          simp only [hall, if_true]
          exact wpAny_pure (wpAny_pure hq)
end
/-- the order -/
abbrev leI : List Int → List Int → Bool := PySem.W.dataLe false eI
/-- what can be sorted: none is empty, or the first one is -/
def SortI (L : List (List Int)) : Prop := (∀ g ∈ L, g ≠ []) ∨ ∃ L', L = [] :: L'
def rSortTI (K : PySem.W.Frag) : List V → Hp → VK → Prop := fun vs H Q => ∃ (a : Addr) (xs : List V) (L : List (List Int)), vs = [V.ref a] ∧ SqL K H a xs ∧ DpAll K H xs (L.map eI) ∧ SortI L ∧
  ∀ zs p, DpAll K H zs ((L.mergeSort leI).map eI) → H p = none → Q (.ref p) (upd H p (.lst zs))
section
open PySem.W PySem.Calls PySem.SeqAt
theorem alike_eI (g k : List Int) : alike (eI g) (eI k) = true := by
  show alike (.tuple (g.map .int)) (.tuple (k.map .int)) = true
  simp only [alike]
  exact alike_ints g k
theorem depth_eI (g : List Int) : (eI g).depth = 1 := by
  simp only [eI, PyData.depth]
  rw [depth_ints]
theorem each_of_dp {X : Cx} {pins : List (Addr × Obj)} {σ : L2.St} {H : Hp} {s : Shared} (I : Inv X pins σ H s) : ∀ (L : List (List Int)) (xs : List V) (us : List Value), DpAll X.K H xs (L.map eI) → Vals xs us →
    EachIs (fun v g => ∃ x, RelV x v ∧ Dp X.K H x (eI g)) us L ∧ EachIs (fun v g => ∃ as, Reads s.heap v (eI g) as) us L
  | [], _, _, h, r => by cases h; cases r; exact ⟨.nil, .nil⟩
  | g :: L, _, _, h, r => by
    cases h with
    | cons h1 h2 => cases r with
      | cons r1 r2 =>
        obtain ⟨a, b⟩ := each_of_dp I L _ _ h2 r2
        exact ⟨.cons ⟨_, r1, h1⟩ a, .cons (Dp.reads I _ _ _ h1 r1) b⟩
theorem dp_of_each {K : PySem.W.Frag} {H : Hp} : ∀ (L : List (List Int)) (us : List Value), EachIs (fun v g => ∃ x, RelV x v ∧ Dp K H x (eI g)) us L → ∃ xs, Vals xs us ∧ DpAll K H xs (L.map eI)
  | _, _, .nil => ⟨[], .nil, .nil⟩
  | _, _, .cons ⟨x, r, d⟩ t => by
    obtain ⟨xs, a, b⟩ := dp_of_each _ _ t
    exact ⟨x :: xs, .cons r a, .cons d b⟩
theorem each_map' {h : Heap} : ∀ {vs : List Value} {L : List (List Int)}, EachIs (fun v g => ∃ as, Reads h v (eI g) as) vs L → EachIs (fun v d => ∃ as, Reads h v d as) vs (L.map eI)
  | _, _, .nil => .nil
  | _, _, .cons h t => .cons h (each_map' t)
theorem cr_sortTI {X : Cx} (hu : X.A.units + 64 < cLine) : CallR X (.builtin "sorted") (rSortTI X.K) := by
  intro pins s σ H vs us Q I r h
  obtain ⟨a, xs, L, rfl, hs, hd, hk, q⟩ := h
  obtain ⟨its, rv, hl, hz⟩ := I.list hs
  rw [Vals.ref1 r]
  obtain ⟨e, er⟩ := each_of_dp I L xs its hd rv
  have hal : AllAlike (L.map eI) := AllAlike.of alike_eI
  have hlen : its.length ≤ sizeLine := by rw [← rv.length]; exact hz
  have units : X.A.in1.in1.units + 1 < cLine := by
    have e1 : X.A.in1.in1.units = X.A.units + 2 := rfl
    omega
  have fin : ∀ (Q' : Value → Shared → Prop), (∀ out, EachIs (fun v g => ∃ x, RelV x v ∧ Dp X.K H x (eI g)) out (L.mergeSort leI) → Q' (.ref (s.heap.objs.size + 1)) { s with heap := sortedAll s.heap its (List.toArray out) }) → wpAny (model X.prog X.w) X.A (call (.builtin "sorted") [.ref a]) Q' X.xe s := by
    intro Q' k
    have er' : EachIs (fun v g => ∃ as, Reads (sortingHeap (copyHeap s.heap its) (s.heap.objs.size + 1) its) v (eI g) as) its L := er.mono fun _ _ ⟨as, r⟩ => ⟨as, PyProof.Rows.Reads.keeps (fun _ _ => sorting_copy_old) r⟩
    have hub : ∀ d, d ∈ L.map eI → X.A.in1.in1.units + d.depth < cLine := fun d hd => by
      obtain ⟨g, _, rfl⟩ := List.mem_map.mp hd
      rw [depth_eI]
      exact units
    have S : SortsAt X.prog X.w X.A.in1.in1 { s with heap := sortingHeap (copyHeap s.heap its) (s.heap.objs.size + 1) its } (dataKind (sortingHeap (copyHeap s.heap its) (s.heap.objs.size + 1) its) (L.map eI)) its := by
      rcases hk with hn | ⟨L', rfl⟩
      · refine SortsAt.data (s := { s with heap := sortingHeap (copyHeap s.heap its) (s.heap.objs.size + 1) its }) (each_map' er') hal (.inl fun d hd => ?_) hub
        obtain ⟨g, hg, rfl⟩ := List.mem_map.mp hd
        cases g with
        | nil => exact absurd rfl (hn _ hg)
        | cons i g => exact ⟨.int i, g.map .int, rfl⟩
      · refine sortsAt_empty (s := { s with heap := sortingHeap (copyHeap s.heap its) (s.heap.objs.size + 1) its }) (ds := L'.map eI) (each_map' er') hal (fun d hd => ?_) hub
        obtain ⟨g, hg, rfl⟩ := List.mem_map.mp hd
        exact ⟨_, rfl⟩
    exact sorted_vals hl.isList S hlen (k _ (sortVals_data false e er' hal))
  refine fin _ fun out ho => ?_
  obtain ⟨zs, z1, z2⟩ := dp_of_each _ _ ho
  obtain ⟨ep, he'⟩ := PyProof.Rows.sortedAll_at s.heap its out.toArray
  have hzl : zs.length ≤ sizeLine := by
    rw [z1.length, ho.length, List.length_mergeSort, ← e.length]
    exact hlen
  exact ⟨.ref _, upd H (s.heap.objs.size + 1) (.lst zs), I.laid (t' := s.toks) (fun _ _ => PyProof.Rows.sortedAll_old) (Nat.le_succ _) ⟨hzl, out, ep, z1, he'⟩, rfl, q _ _ z2 (I.hok.fresh (Nat.le_succ _))⟩
end
section
open PySem.W PySem.Calls PySem.SeqAt
variable {prog : Program} {w : World} {A : Around} {E : Value → Shared → Prop} {s : Shared}
/-- what sorted gathers of a tuple -/
theorem gather_tup {tp : Addr} {us : List Value} {Q : List Value → Shared → Prop} (ht0 : IsTup s.heap tp us.toArray) (hz : us.length ≤ sizeLine)
    (k : Q us { s with heap := (s.heap.push (seqObj "list" #[] 0)).update s.heap.objs.size (Obj.mapSeq (· ++ us.toArray)) }) : wpAny (model prog w) A (collect (.ref tp)) Q E s := by
  obtain ⟨ob, hob, hcl, cnt, hdt⟩ := ht0
  unfold collect
  refine wpAny_bind (wpAny_runValue (codeAny_builtin entry_proto_collect' (?_ : wpAny _ _ (do again (.builtin "list.__iadd__" ⟨[← newList [], .ref tp], []⟩)) _ _ s)))
  refine wpAny_bind (wpAny_newList (wpAny_pure ⟨Code.quiet_builtin _ (by decide +kernel), codeAny_builtin entry_list_iadd' (?_ : wpAny _ _ (Builtin.List.listExtendWith (.ref s.heap.objs.size) (.ref tp) (.ref s.heap.objs.size)) _ _ { s with heap := s.heap.push (seqObj "list" #[] 0) })⟩))
  unfold Builtin.List.listExtendWith
  have hob2 : (s.heap.push (seqObj "list" #[] 0)).get? tp = some ob := Heap.get?_push_of_some _ hob
  have fresh2 : (s.heap.push (seqObj "list" #[] 0)).get? s.heap.objs.size = some (seqObj "list" #[] 0) := Heap.get?_push_size _ rfl
  refine wpAny_bind (wpAny_typeOf (T := "tuple") ⟨ob, hob2, hcl⟩ ?_)
  have same : (Value.type "tuple" == Value.type "tuple") = true := by rfl
  rw [if_pos (by rw [same]; simp)]
  refine wpAny_bind (listItems_at hob2 hdt (wpAny_bind (listItems_at (xs := #[]) (n := 0) fresh2 rfl ?_)))
  rw [if_neg (by simp)]
  have hsz2 : ((#[] : Array Value) ++ us.toArray).size ≤ sizeLine + 1 := by simp only [Array.size_append, List.size_toArray, List.length_nil]; omega
  refine wpAny_bind (listUpdate_at (xs := #[]) (n := 0) fresh2 rfl ?_ (Nat.zero_le _) (by show (#[] ++ us.toArray).size ≤ sizeLine + 1; exact hsz2))
  refine wpAny_pure (?_ : wpAny (model prog w) A (do
      let ob ← load s.heap.objs.size
      match ob.data with
      | .seq xs _ => pure xs.toList
      | _ => unsupported "internal:collect") Q E { s with heap := (s.heap.push (seqObj "list" #[] 0)).update s.heap.objs.size (Obj.mapSeq (· ++ us.toArray)) })
  refine wpAny_bind (wpAny_load (get?_update_seq fresh2 _) (?_ : wpAny _ _ (pure ((#[] : Array Value) ++ us.toArray).toList) Q E _))
  rw [show ((#[] : Array Value) ++ us.toArray).toList = us by simp]
  exact wpAny_pure k
/-- sorted of a tuple -/
theorem sorted_tupV {tp : Addr} {us : List Value} {Q : Value → Shared → Prop} {κ : PyProof.Rows.KeyKind} (ht0 : IsTup s.heap tp us.toArray) (hz : us.length ≤ sizeLine) (S : SortsAt prog w A.in1.in1 { s with heap := sortingHeap (copyHeap s.heap us) (s.heap.objs.size + 1) us } κ us)
    (k : Q (.ref (s.heap.objs.size + 1)) { s with heap := sortedAll s.heap us (sortVals κ false us us).toArray }) : wpAny (model prog w) A (call (.builtin "sorted") [.ref tp]) Q E s := by
  refine call_function_entry_kw kind_sorted plain_sorted entry_sorted (args_sorted1 _) ?_
  unfold Builtin.«sorted»
  refine wpAny_bind (m := checkCount "sorted" 1 1 _) (wpAny_pure (wpAny_bind (gather_tup ht0 hz (wpAny_bind (wpAny_newList (?_ : wpAny _ _ _ _ _ { s with heap := copyHeap s.heap us }) hz)))))
  have sz : ((s.heap.push (seqObj "list" #[] 0)).update s.heap.objs.size (Obj.mapSeq (· ++ us.toArray))).objs.size = s.heap.objs.size + 1 := by rw [Heap.size_update, size_push']
  rw [sz]
  refine wpAny_bind (wpAny_holding (wpAny_call_entry_kw slot_list_sort ⟨_, copyHeap_at s.heap us, rfl⟩ entry_list_sort (?bd : wpAny (model prog w) A.in1.in1 (Builtin.«list.sort» ⟨[.ref (s.heap.objs.size + 1)], []⟩) _ _ _) (args_list_sort _)))
  case bd =>
    refine wpAny_mono (list_sort_vals (P := fun f s' => f = .done (.ret .none) ∧ Q (.ref (s.heap.objs.size + 1)) s') (s := { s with heap := copyHeap s.heap us }) (copyHeap_at s.heap us) S hz ⟨rfl, k⟩) (fun f s' hf => ?_) fun _ _ e => e
    obtain ⟨rfl, hq⟩ := hf
    exact ⟨_, rfl, wpAny_pure ⟨_, rfl, hq⟩⟩
end
/-- the order of whole numbers -/
abbrev leZ : Int → Int → Bool := fun a b => decide (a ≤ b)
def rSortTup (K : PySem.W.Frag) : List V → Hp → VK → Prop := fun vs H Q => ∃ (a : Addr) (ns : List Int), vs = [V.ref a] ∧ SqT K H a (ns.map V.int) ∧ ∀ p, H p = none → Q (.ref p) (upd H p (.lst ((ns.mergeSort leZ).map V.int)))
section
open PySem.W PySem.Calls PySem.SeqAt
theorem each_ints {h : Heap} : ∀ (ns : List Int) (us : List Value), Vals (ns.map V.int) us → EachIs (fun v i => RelV (.int i) v) us ns ∧ EachIs (fun v d => ∃ as, Reads h v d as) us (ns.map PyData.int)
  | [], _, r => by cases r; exact ⟨.nil, .nil⟩
  | i :: ns, _, r => by
    cases r with
    | cons r1 r2 =>
      obtain ⟨a, b⟩ := each_ints ns _ r2
      obtain ⟨t, rfl⟩ := r1
      exact ⟨.cons ⟨t, rfl⟩ a, .cons ⟨_, .int _ _⟩ b⟩
theorem vals_each : ∀ (ns : List Int) (us : List Value), EachIs (fun v i => RelV (.int i) v) us ns → Vals (ns.map V.int) us
  | _, _, .nil => .nil
  | _, _, .cons r t => .cons r (vals_each _ _ t)
theorem each_ints' {h : Heap} : ∀ {us : List Value} {ns : List Int}, EachIs (fun v i => RelV (.int i) v) us ns → EachIs (fun v i => ∃ as, Reads h v (PyData.int i) as) us ns
  | _, _, .nil => .nil
  | _, _, .cons r t => by obtain ⟨u, rfl⟩ := r; exact .cons ⟨_, .int _ _⟩ (each_ints' t)
theorem cr_sortTup {X : Cx} (hu : X.A.units + 64 < cLine) : CallR X (.builtin "sorted") (rSortTup X.K) := by
  intro pins s σ H vs us Q I r h
  obtain ⟨a, ns, rfl, hs, q⟩ := h
  obtain ⟨its, rv, ht, hz⟩ := I.tuple hs
  rw [Vals.ref1 r]
  have hlen : its.length ≤ sizeLine := by rw [← rv.length]; exact hz
  obtain ⟨e, _⟩ := each_ints (h := s.heap) ns its rv
  have er : EachIs (fun v d => ∃ as, Reads (sortingHeap (copyHeap s.heap its) (s.heap.objs.size + 1) its) v d as) its (ns.map PyData.int) := (each_ints ns its rv).2
  have hal : AllAlike (ns.map PyData.int) := AllAlike.of fun _ _ => rfl
  have hub : ∀ d, d ∈ ns.map PyData.int → X.A.in1.in1.units + d.depth < cLine := fun d hd => by
    obtain ⟨g, _, rfl⟩ := List.mem_map.mp hd
    have e1 : X.A.in1.in1.units = X.A.units + 2 := rfl
    rw [show (PyData.int g).depth = 0 by simp [PyData.depth]]
    omega
  have S := SortsAt.data (prog := X.prog) (w := X.w) (A := X.A.in1.in1) (s := { s with heap := sortingHeap (copyHeap s.heap its) (s.heap.objs.size + 1) its }) er hal (.inr fun d hd => by obtain ⟨g, _, rfl⟩ := List.mem_map.mp hd; exact ⟨nofun, nofun⟩) hub
  have out := sortVals_data false (enc := PyData.int) e (each_ints' (h := sortingHeap (copyHeap s.heap its) (s.heap.objs.size + 1) its) e) hal
  rw [show PySem.W.dataLe false PyData.int = leZ from dataLe_int (fun b : Int => b)] at out
  refine sorted_tupV ht hlen S ?_
  obtain ⟨ep, he'⟩ := PyProof.Rows.sortedAll_at s.heap its (sortVals (dataKind (sortingHeap (copyHeap s.heap its) (s.heap.objs.size + 1) its) (ns.map PyData.int)) false its its).toArray
  have z1 := vals_each _ _ out
  have hzl : ((ns.mergeSort leZ).map V.int).length ≤ sizeLine := by
    rw [z1.length, out.length, List.length_mergeSort, ← e.length]
    exact hlen
  exact ⟨.ref _, upd H (s.heap.objs.size + 1) (.lst ((ns.mergeSort leZ).map V.int)), I.laid (t' := s.toks) (fun _ _ => PyProof.Rows.sortedAll_old) (Nat.le_succ _) ⟨hzl, _, ep, z1, he'⟩, rfl, q _ (I.hok.fresh (Nat.le_succ _))⟩
end

end Fy

namespace Fy
open PySem PySem.Spec PyProof.Rows L2
/-! ### sorting, joining, cutting; loops that lay items into one list -/
section
variable {K : PySem.W.Frag} {σ : L2.St} {H H' : Hp} {ta tb te tl : TE} {d e z : PyData} {ds : List PyData} {D : Ends} {tu tz : TS} {g : TG}
theorem cn_sortTI {L : List (List Int)} (hk : SortI L) : CN K (rSortTI K) [.list (L.map eI)] ((L.mergeSort leI).map eI) := fun H vs h Q q => by
  cases h with
  | cons h1 h2 =>
    cases h2
    obtain ⟨a, xs, rfl, h3, h4⟩ := dp_lst.mp h1
    exact ⟨a, xs, L, rfl, h3, h4, hk, fun zs p hz hp => q _ _ (Evl.Ex.new hp) ⟨p, zs, rfl, hp, upd_same, dpa_mono (Evl.Ex.new hp) _ _ hz⟩⟩
theorem cn_sortTup {ns : List Int} : CN K (rSortTup K) [eI ns] ((ns.mergeSort leZ).map .int) := fun H vs h Q q => by
  cases h with
  | cons h1 h2 =>
    cases h2
    obtain ⟨a, rfl, h3⟩ := dp_eI.mp h1
    exact ⟨a, ns, rfl, h3, fun p hp => q _ _ (Evl.Ex.new hp) ⟨p, _, rfl, hp, upd_same, dpa_ints.mpr rfl⟩⟩
theorem rd_catA {ns ms : List Int} (hl : ns.length + ms.length ≤ 100000) : RD K (rCatA K) (eI ns) (eI ms) (eI (ns ++ ms)) := fun H x y hx hy Q q => by
  obtain ⟨a, rfl, h1⟩ := dp_eI.mp hx
  obtain ⟨b, rfl, h2⟩ := dp_eI.mp hy
  refine ⟨a, b, _, _, rfl, rfl, h1, h2, Evl.sz_of (by rw [List.length_map, List.length_map]; exact hl), fun e => ?_, fun _ e => ?_, fun _ _ p hp => ?_⟩
  · have e' : ns = [] := List.map_eq_nil_iff.mp e
    subst e'
    exact q _ H (Evl.Ex.refl H) hy
  · have e' : ms = [] := List.map_eq_nil_iff.mp e
    subst e'
    rw [List.append_nil] at q
    exact q _ H (Evl.Ex.refl H) hx
  · exact q _ _ (Evl.Ex.new hp) (dp_eI.mpr ⟨p, rfl, SqT.of (by rw [upd_same, List.map_append])⟩)
/-- the part of a list, as data -/
def cutD (ds : List PyData) (lo hi : Option Int) : List PyData := (ds.drop (HT.sIx ds.length 0 lo)).take (HT.sIx ds.length ds.length hi - HT.sIx ds.length 0 lo)
theorem cut_dp {xs : List V} {lo hi : Option Int} (h : DpAll K H xs ds) : DpAll K H (cutV xs lo hi) (cutD ds lo hi) := by
  unfold cutV cutD
  rw [dpa_len h]
  exact dpa_take _ (dpa_drop _ h)
/-- a bound of a slice -/
def EvO (K : PySem.W.Frag) (to : TO) (σ : L2.St) (H : Hp) (o : Option Int) : Prop := ∀ H1, Ex H H1 → ∀ Q : Option Int → Hp → Prop, (∀ H2, Ex H1 H2 → Q o H2) → to σ H1 Q
theorem eo_none : EvO K tNoPart σ H none := fun H1 _ _ q => q H1 (Evl.Ex.refl H1)
theorem eo_some {i : Int} (h : EvD K te σ H (.int i)) : EvO K (tPart te) σ H (some i) := fun H1 x _ q => h H1 x _ fun v H2 x2 h2 => ⟨i, dp_int.mp h2, q H2 x2⟩
theorem en_slL {to th : TO} {lo hi : Option Int} (h : EvD K te σ H (.list ds)) (h1 : EvO K to σ H lo) (h2 : EvO K th σ H hi) : EvN K (tSl (rSlL K) te to th) σ H (cutD ds lo hi) := fun H1 x Q q =>
  h H1 x _ fun v H2 x2 hv => h1 H2 (x.trans x2) _ fun H3 x3 => h2 H3 ((x.trans x2).trans x3) _ fun H4 x4 => by
    obtain ⟨a, xs, rfl, h3, h4⟩ := dp_lst.mp hv
    have x24 := x3.trans x4
    refine ⟨a, xs, rfl, Evl.ex_l x24 h3, fun p hp => q _ _ ((x2.trans x24).trans (Evl.Ex.new hp)) ⟨p, _, rfl, Evl.fresh_back (x2.trans x24) hp, upd_same, cut_dp (dpa_mono (x24.trans (Evl.Ex.new hp)) _ _ h4)⟩⟩
theorem cutD_from (ds : List PyData) (n : Nat) : cutD ds (some (n : Int)) none = ds.drop n := by
  unfold cutD
  rw [HT.sIx_nat, HT.sIx_none]
  by_cases h : n ≤ ds.length
  · rw [Nat.min_eq_left h, List.take_of_length_le (by rw [List.length_drop]; exact Nat.le_refl _)]
  · rw [Nat.min_eq_right (by omega), List.drop_of_length_le (Nat.le_refl _), List.drop_of_length_le (by omega), List.take_nil]
theorem cutD_to (ds : List PyData) (n : Nat) : cutD ds none (some (n : Int)) = ds.take n := by
  unfold cutD
  rw [HT.sIx_nat, HT.sIx_none, List.drop_zero, Nat.sub_zero]
  by_cases h : n ≤ ds.length
  · rw [Nat.min_eq_left h]
  · rw [Nat.min_eq_right (by omega), List.take_of_length_le (Nat.le_refl _), List.take_of_length_le (by omega)]
/-! all but one list stays -/
def ExB (l : Addr) (H H' : Hp) : Prop := ∀ b o, b ≠ l → H b = some o → H' b = some o
theorem ExB.refl (l : Addr) (H : Hp) : ExB l H H := fun _ _ _ h => h
theorem ExB.trans {l : Addr} {H H1 H2 : Hp} (a : ExB l H H1) (b : ExB l H1 H2) : ExB l H H2 := fun c o n h => b c o n (a c o n h)
theorem ExB.ex {l : Addr} {H H1 : Hp} (a : Ex H H1) : ExB l H H1 := fun c o _ h => a c o h
theorem ExB.upd {l : Addr} {H H1 : Hp} {o : HO} (a : Ex H H1) : ExB l H (upd H1 l o) := fun c o n h => by rw [upd_ne n]; exact a c o h
theorem Ex.but {l : Addr} {H0 H H1 : Hp} (a : Ex H0 H) (n : H0 l = none) (b : ExB l H H1) : Ex H0 H1 := fun c o h => b c o (ne_of_none h n) (a c o h)
theorem ExB.up {l : Addr} {H H1 : Hp} {xs : List V} (a : ExB l H H1) (h : H l = some (.lst xs)) : Up H H1 :=
  ⟨fun c ys e => a c _ (fun q => by rw [q, h] at e; cases e) e, fun c o u e => a c _ (fun q => by rw [q, h] at e; cases e) e⟩
theorem ExB.sqT {l a : Addr} {H H1 : Hp} {xs ys : List V} (x : ExB l H H1) (h : H l = some (.lst xs)) (t : SqT K H a ys) : SqT K H1 a ys := (x.up h).sqT t
theorem noL_get : ∀ (es : List PyData) (i : Nat), noLs es = true → es[i]? = some d → noL d = true
  | [], i, _, e => by simp at e
  | c :: r, 0, n, e => by
    have n' : noL c = true ∧ noLs r = true := by simpa [noLs] using n
    simp at e; rw [← e]; exact n'.1
  | c :: r, i + 1, n, e => by
    have n' : noL c = true ∧ noLs r = true := by simpa [noLs] using n
    exact noL_get r i n'.2 (by simpa using e)
/-- what a turn of such a loop leaves -/
def LayS (K : PySem.W.Frag) (l : Addr) (H : Hp) (Pv : L2.St → Prop) (acc : List PyData) : L2.St → Hp → Prop := fun σ3 H3 => Pv σ3 ∧ ExB l H H3 ∧ ∃ ys, H3 l = some (.lst ys) ∧ DpAll K H3 ys acc
/-- over a list that the loop alone holds (made behind l) -/
theorem w_layN {l : Addr} {H0 : Hp} (h : EvN K tl σ H ds) (hn : noLs ds = true) (x0 : Ex H0 H) (l0 : H0 l = none) (acc : Nat → List PyData) (ha : ∀ i, noLs (acc i) = true) (l1 : ∃ ys, H l = some (.lst ys) ∧ DpAll K H ys (acc 0)) (Pv : Nat → L2.St → Prop) (p0 : Pv 0 σ)
    (hs : ∀ i d x σ' H' ys, ds[i]? = some d → Ex H0 H' → Dp K H' x d → Pv i σ' → H' l = some (.lst ys) → DpAll K H' ys (acc i) → g x σ' H' fun σ2 H2 => tu { D with nx := LayS K l H' (Pv (i + 1)) (acc (i + 1)), ct := LayS K l H' (Pv (i + 1)) (acc (i + 1)), bk := tz D } σ2 H2)
    (hd : ∀ σ' H' ys, Ex H0 H' → Pv ds.length σ' → H' l = some (.lst ys) → DpAll K H' ys (acc ds.length) → tz D σ' H') : tSeq (tFor (iList K tl) g tu) tz D σ H :=
  h H (Evl.Ex.refl H) _ fun v H1 x hv => by
    obtain ⟨p, xs, rfl, pn, h1, h2⟩ := hv
    obtain ⟨ys0, l1, d1⟩ := l1
    have pl : p ≠ l := fun e => by rw [e, l1] at pn; cases pn
    have hl := dpa_len h2
    refine ⟨p, rfl, ⟨xs, SqL.of h1⟩, fun i m σ' H' => m = xs.length - i ∧ i ≤ xs.length ∧ Ex H0 H' ∧ Pv i σ' ∧ H' p = some (.lst xs) ∧ DpAll K H' xs ds ∧ ∃ ys, H' l = some (.lst ys) ∧ DpAll K H' ys (acc i), ⟨xs.length, by simp, Nat.zero_le _, x0.trans x, p0, h1, h2, ys0, x _ _ l1, dpa_mono x _ _ d1⟩, ?_⟩
    rintro i m σ' H' ⟨rfl, hi, e0, pv, ep, ed, ys, el, ea⟩
    by_cases hlt : i < xs.length
    · refine .inr ⟨⟨xs, xs[i], SqL.of ep, by simp [hlt]⟩, LayS K l H' (Pv (i + 1)) (acc (i + 1)), fun σ3 H3 p3 => ?_, fun y H2 yy => ?_⟩
      · obtain ⟨p1, p2, p3⟩ := p3
        have u := p2.up el
        exact ⟨xs.length - (i + 1), by omega, rfl, hlt, e0.but l0 p2, p1, p2 _ _ pl ep, dpa_up u _ _ hn ed, p3⟩
      · obtain ⟨e2, yy⟩ := yy
        subst e2
        obtain ⟨d, hd', hdy⟩ := dpa_get ed (yy xs (SqL.of ep))
        exact hs i d y σ' _ ys hd' e0 hdy pv el ea
    · have e2 : i = xs.length := by omega
      subst e2
      rw [hl] at pv ea
      exact .inl ⟨⟨xs, SqL.of ep, Nat.le_refl _⟩, hd σ' H' ys e0 pv el ea⟩
/-- over a tuple -/
theorem w_layT {l : Addr} {H0 : Hp} (h : EvD K tl σ H (.tuple ds)) (hn : noLs ds = true) (x0 : Ex H0 H) (l0 : H0 l = none) (acc : Nat → List PyData) (ha : ∀ i, noLs (acc i) = true) (l1 : ∃ ys, H l = some (.lst ys) ∧ DpAll K H ys (acc 0)) (Pv : Nat → L2.St → Prop) (p0 : Pv 0 σ)
    (hs : ∀ i d x σ' H' ys, ds[i]? = some d → Ex H0 H' → Dp K H' x d → Pv i σ' → H' l = some (.lst ys) → DpAll K H' ys (acc i) → g x σ' H' fun σ2 H2 => tu { D with nx := LayS K l H' (Pv (i + 1)) (acc (i + 1)), ct := LayS K l H' (Pv (i + 1)) (acc (i + 1)), bk := tz D } σ2 H2)
    (hd : ∀ σ' H' ys, Ex H0 H' → Pv ds.length σ' → H' l = some (.lst ys) → DpAll K H' ys (acc ds.length) → tz D σ' H') : tSeq (tFor (iTup K tl) g tu) tz D σ H :=
  h H (Evl.Ex.refl H) _ fun v H1 x hv => by
    obtain ⟨p, xs, rfl, h1, h2⟩ := dp_tup.mp hv
    obtain ⟨ys0, l1, d1⟩ := l1
    have hl := dpa_len h2
    refine ⟨p, rfl, ⟨xs, h1⟩, fun i m σ' H' => m = xs.length - i ∧ i ≤ xs.length ∧ Ex H0 H' ∧ Pv i σ' ∧ SqT K H' p xs ∧ DpAll K H' xs ds ∧ ∃ ys, H' l = some (.lst ys) ∧ DpAll K H' ys (acc i), ⟨xs.length, by simp, Nat.zero_le _, x0.trans x, p0, h1, h2, ys0, x _ _ l1, dpa_mono x _ _ d1⟩, ?_⟩
    rintro i m σ' H' ⟨rfl, hi, e0, pv, ep, ed, ys, el, ea⟩
    by_cases hlt : i < xs.length
    · refine .inr ⟨⟨xs, xs[i], ep, by simp [hlt]⟩, LayS K l H' (Pv (i + 1)) (acc (i + 1)), fun σ3 H3 p3 => ?_, fun y H2 yy => ?_⟩
      · obtain ⟨p1, p2, p3⟩ := p3
        have u := p2.up el
        exact ⟨xs.length - (i + 1), by omega, rfl, hlt, e0.but l0 p2, p1, u.sqT ep, dpa_up u _ _ hn ed, p3⟩
      · obtain ⟨e2, yy⟩ := yy
        subst e2
        obtain ⟨d, hd', hdy⟩ := dpa_get ed (yy xs ep)
        exact hs i d y σ' _ ys hd' e0 hdy pv el ea
    · have e2 : i = xs.length := by omega
      subst e2
      rw [hl] at pv ea
      exact .inl ⟨⟨xs, ep, Nat.le_refl _⟩, hd σ' H' ys e0 pv el ea⟩
/-- l.append(e) at a turn's end -/
theorem w_lay {l : Addr} {i : Nat} {ys : List V} {acc acc' : List PyData} {H0 : Hp} {Pv : L2.St → Prop} (hi : σ[i]? = some (some (.ref l))) (he : EvD K te σ H d) (hb : ExB l H0 H) (hx : H l = some (.lst ys)) (hd : DpAll K H ys acc) (ha : noLs acc = true) (hn : noL d = true) (hl : acc.length < 100000) (e : acc' = acc ++ [d]) (hp : Pv σ) (k : ∀ σ' H', LayS K l H0 Pv acc' σ' H' → D.nx σ' H') : tDrop (tBM K "list" rAppend (tVar i) (tCons te tNil)) D σ H := by
  refine ⟨_, hi, .inl ⟨rfl, _, SqL.of hx⟩, he H (Evl.Ex.refl H) _ fun v H1 x hv => ⟨l, ys, v, rfl, rfl, x _ _ hx, Evl.sz_lt (by rw [dpa_len hd]; exact hl), k _ _ ⟨hp, hb.trans (ExB.upd x), ys ++ [v], upd_same, ?_⟩⟩⟩
  have u : Up H1 (upd H1 l (.lst (ys ++ [v]))) := Up.lst (x _ _ hx)
  rw [e]
  exact dpa_snoc (dpa_up u _ _ ha (dpa_mono x _ _ hd)) (dp_up u _ _ hn hv)
theorem i_SortTI {tr : TA} {K' : PySem.W.Frag} (h : EvD K (tCB (rSortTI K') tr) σ H d) : EvD K (tCB (rSortTI K') tr) σ H d := h
theorem i_SortTup {tr : TA} {K' : PySem.W.Frag} (h : EvD K (tCB (rSortTup K') tr) σ H d) : EvD K (tCB (rSortTup K') tr) σ H d := h
theorem i_CatA {K' : PySem.W.Frag} (h : RD K (rCatA K') d e z) : RD K (rCatA K') d e z := h
end

end Fy

namespace Fy
open PySem PySem.Spec PyProof.Rows L2
/-! ### try with several clauses whose suites raise -/
inductive HdsX (X : Cx) (Wo : WX) : List ExceptHandler → List (Value × (Addr → Value → Option Addr → TS)) → Prop
  | nil : HdsX X Wo [] []
  | cons {x : Str} {c : Value} {ts : Addr → Value → Option Addr → TS} {b0 : Stmt} {su : List Stmt} {p1 p2 : Pos} {hds : List ExceptHandler} {l : List (Value × (Addr → Value → Option Addr → TS))} (hc : Names X x c)
      (hsu : ∀ (a : Addr) (oe : Obj) (cls : Value) (d : Option Addr) (pn : List (Addr × Obj)), L2N.Zn cls d oe → (∃ vs, oe.data = .fields vs) → L2.Takes (L2H.suiteX X a ((a, oe) :: pn)) Wo → L2H.HotC (L2H.suiteX X a ((a, oe) :: pn)) → PSs (L2H.suiteX X a ((a, oe) :: pn)) (b0 :: su) (ts a cls d)) (r : HdsX X Wo hds l) :
      HdsX X Wo (.ExceptHandler (some (.Name x p1)) none (b0 :: su) p2 :: hds) ((c, ts) :: l)
theorem ps_try_manyX {X : Cx} {body : List Stmt} {h0 : ExceptHandler} {hds : List ExceptHandler} {l : List (Value × (Addr → Value → Option Addr → TS))} {pos : Pos} {tb : WX → TS} {Wo : WX}
    (stk : X.stack = X.env :: X.outer) (frm : X.env.frame = some X.env.locals) (pa : ∀ hd : Option Value, PassesOwnAt (model X.prog X.w) (X.A.mark hd) X.A X.env X.xe) (tk : L2.Takes X Wo)
    (hb : ∀ (W : WX) (pn : List (Addr × Obj)) (xe : Value → Shared → Prop), L2N.Takes (X.tr pn xe) W → PassesOwn (model X.prog X.w) X.A X.env xe → PSs (X.tr pn xe) body (tb W))
    (hh : HdsX X Wo (h0 :: hds) l) : PS X (.Try body (h0 :: hds) [] [] pos) (fun D σ H => tb (wMany X.K Wo D l) D σ H) := by
  refine ⟨fun pns s σ H D I q => ?_⟩
  have okx := I.ok
  have frs1 : X.A.frames = some (X.env :: X.outer) := by rw [okx.frames, stk]
  refine wpAny_Try_except (wpAny_mono ((hb (wMany X.K Wo D l) (X.pn ++ pns) (fun u1 t1 => wpAny (model X.prog X.w) X.A (noteFrame u1 X.env) (fun _ t2 => wpAny (model X.prog X.w) X.A (setFlight u1 none) (fun _ t3 =>
    wpAny (model X.prog X.w) X.A (handleBy u1 X.env (h0 :: hds)) (SP X pns D) X.xe t3) X.xe t2) X.xe t1) (fun u1 s1 air => ?_) PassesOwn.looking).run [] s σ H D (I.toTry _) q) (fun f s1 fin => ?_) (fun _ _ z => z))
  · obtain ⟨ea, B, sJ, pns', σ1, H1, ec, ed, rfl, J0, nb, up, sk, na, os, ag, w⟩ := air
    have J : Inv X pns σ1 H1 sJ := J0.ofTry okx
    rw [show (X.tr (X.pn ++ pns) _).stack = X.env :: X.outer from stk] at sk
    refine L2N.Sky.land L2N.Zn.steady frs1 frm sk fun g3 fl3 up3 => ?_
    have J3 : Inv X pns σ1 H1 { s1 with heap := g3 } := J.landed nb fl3.1 (up.trans up3) os ag
    obtain ⟨o3, f3, e3, z3, d3⟩ := fl3.there
    have nfr : ea ∉ frs (X.env :: X.outer) := fun hm => by
      obtain ⟨_, ob, eb, hnf⟩ := fl3.2.2.1.mem hm
      rw [e3] at eb
      cases eb
      exact hnf _ d3
    have nL : ea ≠ X.env.locals := fun z => nfr (List.mem_filterMap.mpr ⟨X.env, List.mem_cons_self, by rw [frm, z]⟩)
    have nF : ea ∉ X.fs := fun hm => by
      obtain ⟨en, he, qe⟩ := List.mem_filterMap.mp hm
      exact nfr (List.mem_filterMap.mpr ⟨en, List.mem_cons_of_mem _ he, qe⟩)
    have S3 := J3.suite e3 d3 na nL nF
    have ind : ∀ {hs' : List ExceptHandler} {l' : List (Value × (Addr → Value → Option Addr → TS))}, HdsX X Wo hs' l' → wMany X.K Wo D l' ec ed σ1 H1 → wpAny (model X.prog X.w) X.A (handleBy (.ref ea) X.env hs') (SP X pns D) X.xe { s1 with heap := g3 } := by
      intro hs' l' hk
      induction hk with
      | nil =>
        intro wz
        refine wpAny_handleBy_nil ?_
        obtain ⟨_, _, _, ob, vs, T, oT, tz, he, hz, hd, h1, _⟩ := id fl3
        unfold PySem.passOn
        refine wpAny_bind (wpAny_field he hd h1 ?_)
        rw [if_neg (show ¬ ((Value.ref T == Value.none) = true) by simp)]
        have out : wpAny (model X.prog X.w) X.A (setFlight (.ref ea) X.env.frame) (fun _ s4 => wpAny (model X.prog X.w) X.A (throw (.ref ea) : Sem Flow) (SP X pns D) X.xe s4) X.xe { s1 with heap := g3 } := by
          rw [frm]
          refine HandSPX.setFlight_upZ fl3 fun g4 hh4 up4 => wpAny_throw (tk _ _ ⟨ea, B, sJ, pns, σ1, H1, ec, ed, rfl, J, nb, (up.trans up3).trans up4, ?_, na, os, ag, wz⟩)
          refine zcOf (.inr (.inr ?_))
          rw [stk]
          exact hh4
        first
          | exact wpAny_bind (wpAny_pure (wpAny_bind out))
          | exact wpAny_bind out
      | @cons x c ts b0 su p1 p2 hds2 l2 hc hsu r ih =>
        intro wz
        obtain ⟨b, hb1, hyes, hno⟩ := wz
        refine wpAny_handleBy_cons (codeAny_handlers_test ?_) (by intro z; cases z)
        have lk : PySem.W.Looks (model X.prog X.w) g3 (typeOf (.ref ea)) ec := fun _ _ _ _ k g => wpAny_typeOf_ref (k _ _ e3) (by rw [z3.1]; exact g)
        have lm := PySem.W.exm_one (M := model X.prog X.w) (J3.kIn) lk hb1
        have nmd : ∀ {Q E : Value → Shared → Prop}, Q c { s1 with heap := g3 } → wpAny (model X.prog X.w) (X.A.mark (some (.ref ea))) (eval (.Name x p1) X.env) Q E { s1 with heap := g3 } := by
          intro Q E g
          obtain ⟨n1, n2, n3 | ⟨n3, n4, n5⟩⟩ := hc
          · exact ld_glob (X := X.suite ea ((ea, o3) :: (X.pn ++ pns))) S3 n1 n3 g n2
          · exact ld_blt (X := X.suite ea ((ea, o3) :: (X.pn ++ pns))) S3 n1 n3 n4 g n5 n2
        refine nmd (lm.here ?_)
        cases b with
        | false => exact ih (hno rfl)
        | true =>
          refine codeAny_handlers_suite (HandSPX.lands_againZ fl3 fun g4 fl4 up4 => ?_)
          have J4 : Inv X pns σ1 H1 { s1 with heap := g4 } := J.landed nb fl4.1 ((up.trans up3).trans up4) os ag
          obtain ⟨o4, f4, e4, z4, d4⟩ := fl4.there
          have tk2 : L2.Takes (L2H.suiteX X ea ((ea, o4) :: (X.pn ++ pns))) Wo := fun u2 t2 x2 => by
            obtain ⟨y1, y2, y3, y4, y5, y6, y7, y8, y9, I2, r2⟩ := x2
            exact tk u2 t2 ⟨y1, y2, y3, pns, y5, y6, y7, y8, y9, L2H.unsuiteX I2 okx, r2⟩
          have hot : L2H.HotC (L2H.suiteX X ea ((ea, o4) :: (X.pn ++ pns))) := ⟨(ea, o4), ⟨rfl, f4, d4, z4.2.2 f4 d4⟩, List.mem_cons_self⟩
          refine wpAny_mono ((hsu ea o4 ec ed (X.pn ++ pns) z4 ⟨_, d4⟩ tk2 hot).run [] _ _ H1 _ (L2H.suiteX_of (J4.suite e4 d4 na nL nF)) (hyes rfl ea na)) ?_ (fun e6 s6 z => pa (some (.ref ea)) e6 s6 z)
          rintro (_ | _ | _ | u) s6 g6
          case ret =>
            obtain ⟨v6, σ6, H6, S6, r6, q6⟩ := g6
            exact ⟨_, _, _, L2H.unsuiteX S6 okx, r6, q6⟩
          all_goals
            obtain ⟨σ6, H6, S6, q6⟩ := g6
            exact ⟨_, _, L2H.unsuiteX S6 okx, q6⟩
    exact ind hh w
  · rcases f with _ | _ | _ | u
    case next =>
      obtain ⟨σ1, H1, J, g⟩ := fin
      exact wpAny_execs_nil ⟨σ1, H1, J.ofTry okx, g⟩
    case ret =>
      obtain ⟨v, σ1, H1, J, r, g⟩ := fin
      exact ⟨v, σ1, H1, J.ofTry okx, r, g⟩
    all_goals
      obtain ⟨σ1, H1, J, g⟩ := fin
      exact ⟨σ1, H1, J.ofTry okx, g⟩
/-- raise C('..') in a suite -/
theorem ps_raiseHot {X : Cx} {W : WX} {x m : Str} {j : Nat} {p p2 p3 pos : Pos} (hot : L2H.HotC X) (tk : L2.Takes X W) (q : ExOk X.K (He.ga X.K x)) (gC : X.mg x = some (.ref (He.ga X.K x))) (hg : Gl X x) (hdb : (x == ("__debug__" : Str)) = false := by decide) :
    PS X (.Raise (some (.Call (.Name x p) [.Constant (.str m) j p2] [] p3)) none pos) (fun _ σ H => W (.ref (He.ga X.K x)) none σ H) :=
  L2H.ps_raiseH hot tk (L2N.pmk_own PySem.F.excBase_ValueError q.ex gC q.kp (raises_own q.sub q.ty) hg hdb)

end Fy

namespace Fy
open PySem PySem.Spec PyProof.Rows L2
/-! ### read, walked -/
/-- all but two lists stays -/
def Ex2 (l m : Addr) (H H' : Hp) : Prop := ∀ b o, b ≠ l → b ≠ m → H b = some o → H' b = some o
theorem Ex2.ex {l m : Addr} {H H' : Hp} (e : Ex H H') : Ex2 l m H H' := fun b o _ _ h => e b o h
theorem Ex2.but {l m : Addr} {Hb H H' : Hp} (a : Ex Hb H) (nl : Hb l = none) (nm : Hb m = none) (e : Ex2 l m H H') : Ex Hb H' := fun b o h => e b o (ne_of_none h nl) (ne_of_none h nm) (a b o h)
theorem ex2_upd {l m k : Addr} {H H' : Hp} {o : HO} (e : Ex H H') (h : k = l ∨ k = m) : Ex2 l m H (upd H' k o) := fun b u h1 h2 hb => by
  rw [upd_ne (fun z => by rcases h with h | h; exact h1 (z.trans h); exact h2 (z.trans h))]
  exact e b u hb
/-- a new list whose items stood in Hb -/
def EvS0 (K : PySem.W.Frag) (te : TE) (σ : L2.St) (H Hb : Hp) (ds : List PyData) : Prop := ∀ Q : VK, (∀ p xs H2, Ex H H2 → H p = none → H2 p = some (.lst xs) → DpAll K Hb xs ds → Q (.ref p) H2) → te σ H Q
section
variable {K : PySem.W.Frag} {σ : L2.St} {H Hb : Hp} {ta tb tl : TE} {D : Ends} {tu tz : TS} {ds : List PyData}
theorem es_slice {i : Nat} {v : V} {to th : TO} {lo hi : Option Int} (hi' : σ[i]? = some (some v)) (hv : Dp K Hb v (.list ds)) (xb : Ex Hb H) (h1 : EvO K to σ H lo) (h2 : EvO K th σ H hi) : EvS0 K (tSl (rSlL K) (tVar i) to th) σ H Hb (cutD ds lo hi) := fun Q q =>
  ⟨v, hi', h1 H (Evl.Ex.refl H) _ fun H3 x3 => h2 H3 x3 _ fun H4 x4 => by
    obtain ⟨a, xs, rfl, h3, h4⟩ := dp_lst.mp hv
    have x34 := x3.trans x4
    exact ⟨a, xs, rfl, Evl.ex_l (xb.trans x34) h3, fun p hp => q p _ _ (x34.trans (Evl.Ex.new hp)) (Evl.fresh_back x34 hp) upd_same (cut_dp h4)⟩⟩
theorem w_for2 {j : Nat} {l m : Addr} (h : EvS0 K tl σ H Hb ds) (xb : Ex Hb H) (lb : Hb l = none) (mb : Hb m = none) (hl : ∃ o, H l = some o) (hm : ∃ o, H m = some o) (Pv : Nat → L2.St → Hp → Prop) (p0 : ∀ H1, Ex H H1 → Pv 0 σ H1)
    (hs : ∀ i d x σ' H', ds[i]? = some d → Ex Hb H' → Dp K H' x d → Pv i σ' H' → tu { D with nx := fun σ3 H3 => Ex2 l m H' H3 ∧ Pv (i + 1) σ3 H3, ct := fun σ3 H3 => Ex2 l m H' H3 ∧ Pv (i + 1) σ3 H3, bk := tz D } (σ'.set j (some x)) H')
    (hd : ∀ σ' H', Ex Hb H' → Pv ds.length σ' H' → tz D σ' H') : tSeq (tFor (iList K tl) (gName j) tu) tz D σ H := h _ fun p xs H1 x1 p0' p1 p2 => by
  have hl' := dpa_len p2
  have pl : p ≠ l := fun e => by obtain ⟨o, ho⟩ := hl; rw [e, ho] at p0'; cases p0'
  have pm : p ≠ m := fun e => by obtain ⟨o, ho⟩ := hm; rw [e, ho] at p0'; cases p0'
  refine ⟨p, rfl, ⟨xs, SqL.of p1⟩, fun i n σ' H' => n = xs.length - i ∧ i ≤ xs.length ∧ Ex Hb H' ∧ H' p = some (.lst xs) ∧ Pv i σ' H', ⟨xs.length, by simp, Nat.zero_le _, xb.trans x1, p1, p0 H1 x1⟩, ?_⟩
  rintro i n σ' H' ⟨rfl, hi, eb, ep, pv⟩
  by_cases hlt : i < xs.length
  · refine .inr ⟨⟨xs, xs[i], SqL.of ep, by simp [hlt]⟩, fun σ3 H3 => Ex2 l m H' H3 ∧ Pv (i + 1) σ3 H3, fun σ3 H3 p3 => ⟨xs.length - (i + 1), by omega, rfl, hlt, Ex2.but eb lb mb p3.1, p3.1 _ _ pl pm ep, p3.2⟩, fun y H2 yy => ?_⟩
    obtain ⟨e2, yy⟩ := yy
    subst e2
    obtain ⟨d, hd', hdy⟩ := dpa_get p2 (yy xs (SqL.of ep))
    exact hs i d y σ' _ hd' eb (dp_mono eb _ _ hdy) pv
  · have e2 : i = xs.length := by omega
    subst e2
    rw [hl'] at pv
    exact .inl ⟨⟨xs, SqL.of ep, Nat.le_refl _⟩, hd σ' H' eb pv⟩
end
theorem atI_last {α : Type} {xs : List α} {z : α} (h : xs.getLast? = some z) : atI xs (-1) = some z := by
  unfold atI ixN
  rw [List.getLast?_eq_getElem?] at h
  have hl : 0 < xs.length := by
    cases xs with
    | nil => simp at h
    | cons a r => simp
  rw [if_neg (by decide), if_pos (by omega)]
  show xs[((-1 : Int) + (xs.length : Int)).toNat]? = some z
  rw [show ((-1 : Int) + (xs.length : Int)).toNat = xs.length - 1 by omega]
  exact h
theorem cutD_mid (ds : List PyData) (j k : Nat) : cutD ds (some (j : Int)) (some (k : Int)) = (ds.drop j).take (k - j) := by
  unfold cutD
  rw [HT.sIx_nat, HT.sIx_nat]
  by_cases h : j ≤ ds.length
  · rw [Nat.min_eq_left h]
    by_cases h2 : k ≤ ds.length
    · rw [Nat.min_eq_left h2]
    · rw [Nat.min_eq_right (by omega), List.take_of_length_le (by rw [List.length_drop]; omega), List.take_of_length_le (by rw [List.length_drop]; omega)]
  · rw [Nat.min_eq_right (show ds.length ≤ j by omega), List.drop_of_length_le (Nat.le_refl ds.length), List.drop_of_length_le (show ds.length ≤ j by omega), List.take_nil, List.take_nil]
theorem restW_eq (W : List (List Str)) (h : 1 ≤ W.length) : cutD (W.map eWs) (some 1) (some ((W.length : Int) - 1)) = (restW W).map eWs := by
  have z := cutD_mid (W.map eWs) 1 (W.length - 1)
  rw [show ((W.length - 1 : Nat) : Int) = (W.length : Int) - 1 by omega] at z
  rw [show (some (1 : Int)) = some ((1 : Nat) : Int) from rfl, z]
  unfold restW
  rw [show W.length - 1 - 1 = W.length - 2 by omega, List.map_take, List.map_drop]
/-- what the making comes to, its arguments reckoned -/
theorem make_at {K : PySem.W.Frag} {E : XK} {n : Nt} {vs : List V} {H : Hp} (hvs : DpAll K H vs [.list (n.things.map eT), .int n.room, .list (n.quarrels.map eQ)]) (Q : VK)
    (q0 : n.ok = true → ∀ v H2, Ex H H2 → NightI K H H2 v n → Q v H2)
    (q1 : thingsOk n.things = false → ∀ H2, Ex H H2 → E (.ref (He.ga K "BadThing")) none H2)
    (q2 : thingsOk n.things = true → roomOk n.room = false → ∀ H2, Ex H H2 → E (.ref (He.ga K "BadRoom")) none H2)
    (q3 : thingsOk n.things = true → roomOk n.room = true → quarrelsOk n.things.length n.quarrels = false → ∀ H2, Ex H H2 → E (.ref (He.ga K "BadQuarrel")) none H2) :
    ∀ y dy, H y = none → H dy = none → dy ≠ y → spInit K (.ref y :: vs) (upd (upd H dy (.own y)) y (.ins (He.ga K "Night") dy [])) (fun v H2 => v = .non ∧ Q (.ref y) H2) E := by
  obtain ⟨t, u, s, rfl, ht, hu, hs⟩ := dpa3 hvs
  cases dp_int.mp hu
  intro x dx nx ndx nex
  have e0 := ex_made (C := He.ga K "Night") nx ndx
  refine ⟨x, dx, t, s, n, rfl, upd_same, dp_mono e0 _ _ ht, dp_mono e0 _ _ hs, fun H' ok kp hN => ⟨rfl, q0 ok _ H' (fun b o e => ?_) (hN.back e0)⟩, fun H' c ex => q1 c H' (e0.trans ex), fun H' a c ex => q2 a c H' (e0.trans ex), fun H' a b c ex => q3 a b c H' (e0.trans ex)⟩
  exact kp b o (e0 b o e) (ne_of_none e nx)
theorem headOk_cons (hd : List Str) (tl : List (List Str)) : headOk (hd :: tl) = (decide (hd.length = 2) && decide (wAt hd 0 = "boat")) := rfl
theorem lastOk_of {W : List (List Str)} {la : List Str} (h : W.getLast? = some la) : lastOk W = decide (la = [("" : Str)]) := by
  unfold lastOk
  rw [h]
  exact decide_eq_decide.mpr ⟨Option.some.inj, congrArg some⟩
theorem noteOf_eq {W : List (List Str)} (h : (lastOk W && headOk W) = true) : noteOf W = (scanW [] [] (restW W)).bind fun p => (numberOf (wAt (W.headD []) 1)).bind fun r => if (Nt.mk p.1 r p.2).ok = true then some ⟨p.1, r, p.2⟩ else none := if_pos h
section
variable {P : Program} {w : World} {K : PySem.W.Frag} {mg : Str → Option Value} {base : Heap}
theorem exmK (T : Tx K mg) {x y : Str} (hx : x ∈ exs) (hy : y ∈ exs) (b : Bool) (h : isx x y = b) : PySem.W.exmOne K (.ref (He.ga K x)) (.ref (He.ga K y)) = some b := by rw [T.exm x hx y hy, h]
theorem sc_read : FnScope ["text", "lines", "things", "quarrels", "words", "night", "line"] ["text"] (defScope s_read) := ⟨rfl, rfl, rfl, by decide +kernel, rfl, by decide +kernel, by decide +kernel⟩
theorem ok_read (T : Tx K mg) : Has P w K mg base (L2.CX P w) 4 "read" ["text"] (spRead K) := by
  obtain ⟨fd, F⟩ := T.f_read
  have G_number_of := ok_number_of (P := P) (w := w) (base := base) T
  have G_thing_of := ok_thing_of (P := P) (w := w) (base := base) T
  have G_quarrel_of := ok_quarrel_of (P := P) (w := w) (base := base) T
  refine ⟨T.g_read, fd, F.ok sc_read (fun vs H Q E h => ?_) (fun cdv A outer s H vs Q E hr h => ⟨_, (pss_cons (ps_setLc (i := 1) (hy := by rfl) (hyl := by rfl) (hsw := sw_true rfl rfl rfl (by decide +kernel)) (hc := by rfl) (hN := sc_read.nd) (own := [("line", 6)]) (g := gName 6) (hi := (pi_list (pe_split (pv 0) pe_str))) (ok := blkOk_by (N := ["text", "lines", "things", "quarrels", "words", "night", "line"]) (sc := defScope s_read) (by decide +kernel)) (hg := fun _ _ _ _ _ => pg_name (i := 6) sc_read.nd rfl (.inl rfl)) (ht := fun _ _ _ _ _ => pts_nil) (he := fun _ _ _ _ _ => (pe_split (pv 6) pe_str)))
      (pss_cons (ps_if (PW.pt (pw_or (pt_cmpR (r := rNeD K) (op_neD hr.units) (pe_ix (r := rIxL K) ix_list (pv 1) (pe_un un_neg pe_int) (fun _ _ => rfl)) (pe_lst (pa_cons pe_str pa_nil)) (nomark _)) (pw_or (pt_cmpR op_ne (pe_callB (r := rLenQ K) call_len_seq (by rfl) T.b_len (by decide +kernel) (pa_cons (pe_ix (r := rIxL K) ix_list (pv 1) pe_int (fun _ _ => rfl)) pa_nil)) pe_int (nomark _)) (pw_or1 (pt_cmpR op_ne (pe_ix (r := rIxL K) ix_list (pe_ix (r := rIxL K) ix_list (pv 1) pe_int (fun _ _ => rfl)) pe_int (fun _ _ => rfl)) pe_str (nomark _)))))) (pss_one (ps_raiseOwn rfl (takes_of rfl rfl rfl rfl) T.x_BadNote T.g_BadNote rfl)) pss_nil)
      (pss_cons (ps_set (i := 2) sc_read.nd rfl (.inl rfl) (pe_lst pa_nil))
      (pss_cons (ps_set (i := 3) sc_read.nd rfl (.inl rfl) (pe_lst pa_nil))
      (pss_cons (ps_for (passes_of rfl) rfl (pi_list (pe_slice (r := rSlL K) sl_list (pv 1) (po_some pe_int) (po_some (pe_op op_sub (pe_callB (r := rLenQ K) call_len_seq (by rfl) T.b_len (by decide +kernel) (pa_cons (pv 1) pa_nil)) pe_int)))) (pg_name (i := 4) sc_read.nd rfl (.inl rfl)) (pss_one (ps_if (PW.pt (pw_and (pt_cmpR op_eq (pe_ix (r := rIxL K) ix_list (pv 4) pe_int (fun _ _ => rfl)) pe_str (nomark _)) (pw_and1 (pt_cmpR (r := rEqD K) (op_eqD hr.units) (pv 3) (pe_lst pa_nil) (nomark _))))) (pss_one (ps_expr (pe_bm PySem.F.plainAttrs_list PySem.F.slot_list_append PySem.F.type_list_append mt_append (pv 2) (pa_cons (pe_fxN G_thing_of (hr.mono (by decide)) rfl (takesN (takes_of rfl rfl rfl rfl)) (pa_cons (pv 4) pa_nil)) pa_nil)))) (pss_one (ps_expr (pe_bm PySem.F.plainAttrs_list PySem.F.slot_list_append PySem.F.type_list_append mt_append (pv 3) (pa_cons (pe_fxN G_quarrel_of (hr.mono (by decide)) rfl (takesN (takes_of rfl rfl rfl rfl)) (pa_cons (pv 4) pa_nil)) pa_nil)))))))
      (pss_cons (ps_try_manyX rfl rfl (L2H.passesAt_of rfl) (takes_of rfl rfl rfl rfl) (fun W pn xe tk hp => (pss_one (ps_set (i := 5) sc_read.nd rfl (.inl rfl) (pe_NightS (K := K) T (hr.mono (by decide)) rfl tk (pa_cons (pv 2) (pa_cons (pe_fxN G_number_of (hr.mono (by decide)) rfl tk (pa_cons (pe_ix (r := rIxL K) ix_list (pe_ix (r := rIxL K) ix_list (pv 1) pe_int (fun _ _ => rfl)) pe_int (fun _ _ => rfl)) pa_nil)) (pa_cons (pv 3) pa_nil)))))))
      (.cons (ts := fun _ _ _ => fun _ _ H => E (.ref (He.ga K "BadNote")) none H) ⟨rfl, by decide, .inl T.g_BadThing⟩ (fun a oe cls d pn hz hf tkS hot => pss_one (ps_raiseHot hot tkS T.x_BadNote T.g_BadNote rfl)) (.cons (ts := fun _ _ _ => fun _ _ H => E (.ref (He.ga K "BadNote")) none H) ⟨rfl, by decide, .inl T.g_BadRoom⟩ (fun a oe cls d pn hz hf tkS hot => pss_one (ps_raiseHot hot tkS T.x_BadNote T.g_BadNote rfl)) (.cons (ts := fun _ _ _ => fun _ _ H => E (.ref (He.ga K "BadNote")) none H) ⟨rfl, by decide, .inl T.g_BadQuarrel⟩ (fun a oe cls d pn hz hf tkS hot => pss_one (ps_raiseHot hot tkS T.x_BadNote T.g_BadNote rfl)) .nil))))
      (pss_one (ps_ret (pv 5))))))))), ?_⟩), F.bindsN fun _ _ _ _ _ _ us hl => match us, hl with | [_], _ => rfl, F.kp⟩
  · obtain ⟨x, rfl, _⟩ := h
    rfl
  · obtain ⟨x, rfl, hl, hok, kq, ke⟩ := h
    obtain ⟨s1, s2, s3⟩ := split_nl_len x
    obtain ⟨W1, W2⟩ := lines_len x
    have sm := small_lines (N := 90000) (show x.length ≤ 90000 by omega) hok
    refine w_asgN (K := K) (ds := (linesW x).map eWs) (EvN.cast (en_mapLL (xs := Txt.split x "\n") .str (fun l => (Txt.split l " ").map .str) (fun l => noLs_map (fun _ => rfl) _) (en_split (ed_var rfl (.str _)) ed_str (by decide +kernel) (by omega)) (by omega) (fun _ => rfl) (fun i a v H1 ha x1 hv => en_split (ed_var rfl hv) ed_str (by decide +kernel) (by have := (s3 a (List.mem_of_getElem? ha)).1; omega))) (by unfold linesW; rw [List.map_map]; rfl)) (fun v1 H1 x1 hL => ?_)
    have hW := hL.dp
    generalize linesW x = W at hW W1 W2 sm kq ke
    obtain ⟨hd, tl, rfl⟩ : ∃ hd tl, W = hd :: tl := by
      cases W with
      | nil => simp at W2
      | cons a r => exact ⟨a, r, rfl⟩
    obtain ⟨la, hla⟩ : ∃ la, (hd :: tl).getLast? = some la := by
      cases e : (hd :: tl).getLast? with
      | none => simp at e
      | some la => exact ⟨la, rfl⟩
    have lam := List.mem_of_getLast? hla
    have hdS := sm hd List.mem_cons_self
    have laS := sm la lam
    have atL : atI ((hd :: tl).map eWs) (-1) = some (eWs la) := atI_last (by rw [List.getLast?_map, hla]; rfl)
    have at0 : atI ((hd :: tl).map eWs) 0 = some (eWs hd) := atI_zero
    have l0 : ∀ H' a b c d e, Ex H1 H' → EvD K (tOp (rIxL K) (tVar 1) (tC (.int 0))) [some (.str x), some v1, a, b, c, d, e] H' (eWs hd) := fun H' a b c d e x' => ed_op (d := .list ((hd :: tl).map eWs)) (e := .int 0) (ed_var rfl (dp_mono x' _ _ hW)) ed_int (rd_ixL at0)
    have e2 : decide ((hd.length : Int) = 2) = decide (hd.length = 2) := decide_eq_decide.mpr (by omega)
    have r1 := Evl.Ex.refl H1
    refine w_when K (b := !decide (la = [("" : Str)]) || (!decide ((hd.length : Int) = 2) || !decide (wAt hd 0 = "boat"))) (eb_or (eb_d (EvD.cast (ed_op (d := eWs la) (e := eWs [""]) (ed_op (d := .list ((hd :: tl).map eWs)) (e := .int (-1)) (ed_var rfl hW) (ed_un ed_int (fun _ => .int _)) (rd_ixL atL)) (en_lst (ds := [.str ""]) (eds_cons ed_str eds_nil) (show 1 ≤ 100000 by decide)).toD (rd_neD (sh_eWs fun w hw => (laS.2.2 w hw).2) (sh_eWs (by decide +kernel)))) (by rw [eqv_eWs]))) (fun _ => eb_or (eb_d (ed_op (d := .int (hd.length : Nat)) (e := .int 2) (ed_lenW (l0 H1 _ _ _ _ _ r1)) ed_int rd_neI)) (fun hq => eb_d (ed_op (d := .str (wAt hd 0)) (e := .str "boat") (ed_word 0 (l0 H1 _ _ _ _ _ r1) (by simp at hq; omega)) ed_str rd_neS)))) (fun hb H2 x2 => ?_) (fun hb H2 x2 => ?_)
    · refine ke ?_ H2 (x1.trans x2)
      unfold noteOf
      rw [if_neg]
      intro c
      rw [lastOk_of hla, headOk_cons, Bool.and_eq_true, Bool.and_eq_true] at c
      obtain ⟨c1, c2, c3⟩ := c
      rw [e2, c1, c2, c3] at hb
      cases hb
    · obtain ⟨b1, b2⟩ := Bool.or_eq_false_iff.mp hb
      obtain ⟨b2, b3⟩ := Bool.or_eq_false_iff.mp b2
      rw [e2] at b2
      have f1 : la = [("" : Str)] := by simpa using b1
      have f2 : hd.length = 2 := by simpa using b2
      have f3 : wAt hd 0 = "boat" := by simpa using b3
      have okW : (lastOk (hd :: tl) && headOk (hd :: tl)) = true := by
        rw [lastOk_of hla, headOk_cons, decide_eq_true f1, decide_eq_true f2, decide_eq_true f3]
        rfl
      have nE := noteOf_eq okW
      rw [nE] at kq ke
      clear nE
      refine w_asgN (K := K) (ds := []) (en_lst eds_nil (by decide)) (fun v3 H3 x3 h3 => ?_)
      obtain ⟨l, xs, rfl, n0, n1, n2⟩ := h3
      cases n2
      refine w_asgN (K := K) (ds := []) (en_lst eds_nil (by decide)) (fun v4 H4 x4 h4 => ?_)
      obtain ⟨m, xs, rfl, m0, m1, m2⟩ := h4
      cases m2
      have x02 := x1.trans x2
      have x24 := x3.trans x4
      have lm : l ≠ m := fun e => by rw [← e, n1] at m0; cases m0
      have mb : H2 m = none := Evl.fresh_back x3 m0
      have hW2 := dp_mono x2 _ _ hW
      have ln : EvD K (tCB (rLenQ K) (tCons (tVar 1) tNil)) [some (.str x), some v1, some (.ref l), some (.ref m), none, none, none] H4 (.int ((hd :: tl).length : Nat)) := EvD.cast (ed_cb (eds_cons (d := .list ((hd :: tl).map eWs)) (ed_var rfl (dp_mono x24 _ _ hW2)) eds_nil) cd_lenL) (by rw [List.length_map])
      have sl : EvS0 K (tSl (rSlL K) (tVar 1) (tPart (tC (.int 1))) (tPart (tOp (rI0 fun i j => .int (i - j)) (tCB (rLenQ K) (tCons (tVar 1) tNil)) (tC (.int 1))))) [some (.str x), some v1, some (.ref l), some (.ref m), none, none, none] H4 H2 ((restW (hd :: tl)).map eWs) := by
        have z := es_slice (K := K) (σ := [some (.str x), some v1, some (.ref l), some (.ref m), none, none, none]) (i := 1) (lo := some 1) (hi := some (((hd :: tl).length : Int) - 1)) rfl hW2 x24 (eo_some (te := tC (.int 1)) ed_int) (eo_some (ed_op (d := .int ((hd :: tl).length : Nat)) (e := .int 1) ln ed_int (rd_I0 (g := fun i j => .int (i - j)) fun _ => .int _)))
        rw [restW_eq _ W2] at z
        exact z
      have rl : (restW (hd :: tl)).length ≤ 50000 := by
        unfold restW
        rw [List.length_take, List.length_drop]
        omega
      have rS : ∀ ws ∈ restW (hd :: tl), Small 90000 ws := fun ws hw => sm ws (List.mem_of_mem_drop (List.mem_of_mem_take hw))
      generalize restW (hd :: tl) = R at sl rl rS kq ke
      refine w_for2 (K := K) (l := l) (m := m) sl x24 n0 mb ⟨_, x4 _ _ n1⟩ ⟨_, m1⟩ (fun i σ H' => ∃ a, σ = [some (.str x), some v1, some (.ref l), some (.ref m), a, none, none] ∧ ∃ ts qs ys zs, H' l = some (.lst ys) ∧ DpAll K H' ys (ts.map eT) ∧ H' m = some (.lst zs) ∧ DpAll K H' zs (qs.map eQ) ∧ scanW [] [] R = scanW ts qs (R.drop i) ∧ ts.length ≤ i ∧ qs.length ≤ i) (fun H5 x5 => ⟨none, rfl, [], [], [], [], x5 _ _ (x4 _ _ n1), .nil, x5 _ _ m1, .nil, rfl, Nat.le_refl _, Nat.le_refl _⟩) ?_ ?_
      · rintro i d y σ' H5 hd5 x5 hy ⟨a, rfl, ts, qs, ys, zs, hl5, hT5, hm5, hQ5, hsc, tl5, ql5⟩
        obtain ⟨ws, hws, rfl⟩ := get_map hd5
        have wsS := rS ws (List.mem_of_getElem? hws)
        have il := lt_of_get hws
        have hy' : Dp K H5 y (eWs ws) := hy
        have hdr : R.drop i = ws :: R.drop (i + 1) := by
          obtain ⟨h1, h2⟩ := List.getElem?_eq_some_iff.mp hws
          rw [List.drop_eq_getElem_cons h1, h2]
        rw [hdr] at hsc
        have hqd : Dp K H5 (.ref m) (.list (qs.map eQ)) := dp_lst.mpr ⟨m, zs, rfl, SqL.of hm5, hQ5⟩
        have shq : SeqAt.shaped (.list (qs.map eQ)) = true := sh_lst lay_eQ (fun x => Nat.le_trans (dep_eQ x) (by decide)) qs
        have x05 := x02.trans x5
        refine w_if1 K (b := decide (wAt ws 0 = "thing") && decide (qs = [])) (eb_and (eb_d (ed_op (d := .str (wAt ws 0)) (e := .str "thing") (ed_word 0 (ed_var rfl hy') wsS.1) ed_str rd_eqS)) (fun _ => eb_d (EvD.cast (ed_op (d := .list (qs.map eQ)) (e := .list []) (ed_var rfl hqd) (en_lst (ds := []) eds_nil (by decide)).toD (rd_eqD shq (by decide +kernel))) (by rw [show (PyData.list []) = .list (([] : List (Int × Int × Int)).map eQ) from rfl, eqv_lst eqv_eQ])))) (fun hb H6 x6 => ?_) (fun hb H6 x6 => ?_)
        · have hsc2 : scanW [] [] R = (thingOf ws).bind fun t => scanW (ts ++ [t]) qs (R.drop (i + 1)) := by
            rw [hsc]
            show (if _ then _ else _) = _
            rw [if_pos hb]
          have hl6 := x6 _ _ hl5
          refine ⟨_, rfl, .inl ⟨rfl, _, SqL.of hl6⟩, y, rfl, y, ws, rfl, dp_mono x6 _ _ hy', wsS, fun t ht u H7 x7 hu => ?_, fun hn H7 x7 => ke (by rw [hsc2, hn]; rfl) H7 ((x05.trans x6).trans x7)⟩
          refine ⟨l, ys, u, rfl, rfl, x7 _ _ hl6, Evl.sz_lt (by rw [dpa_len hT5, List.length_map]; omega), ex2_upd (x6.trans x7) (.inl rfl), _, rfl, ts ++ [t], qs, ys ++ [u], zs, upd_same, ?_, ?_, ?_, by rw [hsc2, ht]; rfl, by rw [List.length_append, List.length_singleton]; omega, by omega⟩
          · have u7 : Up H7 (upd H7 l (.lst (ys ++ [u]))) := Up.lst (x7 _ _ hl6)
            rw [List.map_append]
            exact dpa_snoc (dpa_up u7 _ _ (noLs_map noL_eT _) (dpa_mono (x6.trans x7) _ _ hT5)) (dp_up u7 _ _ (noL_eT t) hu)
          · rw [upd_ne (Ne.symm lm)]
            exact (x6.trans x7) _ _ hm5
          · have u7 : Up H7 (upd H7 l (.lst (ys ++ [u]))) := Up.lst (x7 _ _ hl6)
            exact dpa_up u7 _ _ (noLs_map noL_eQ _) (dpa_mono (x6.trans x7) _ _ hQ5)
        · have hsc2 : scanW [] [] R = (quarrelOf ws).bind fun q => scanW ts (qs ++ [q]) (R.drop (i + 1)) := by
            rw [hsc]
            show (if _ then _ else _) = _
            rw [if_neg (by rw [hb]; decide)]
          have hm6 := x6 _ _ hm5
          refine ⟨_, rfl, .inl ⟨rfl, _, SqL.of hm6⟩, y, rfl, y, ws, rfl, dp_mono x6 _ _ hy', wsS, fun q hq u H7 x7 hu => ?_, fun hn H7 x7 => ke (by rw [hsc2, hn]; rfl) H7 ((x05.trans x6).trans x7)⟩
          refine ⟨m, zs, u, rfl, rfl, x7 _ _ hm6, Evl.sz_lt (by rw [dpa_len hQ5, List.length_map]; omega), ex2_upd (x6.trans x7) (.inr rfl), _, rfl, ts, qs ++ [q], ys, zs ++ [u], ?_, ?_, upd_same, ?_, by rw [hsc2, hq]; rfl, by omega, by rw [List.length_append, List.length_singleton]; omega⟩
          · rw [upd_ne lm]
            exact (x6.trans x7) _ _ hl5
          · have u7 : Up H7 (upd H7 m (.lst (zs ++ [u]))) := Up.lst (x7 _ _ hm6)
            exact dpa_up u7 _ _ (noLs_map noL_eT _) (dpa_mono (x6.trans x7) _ _ hT5)
          · have u7 : Up H7 (upd H7 m (.lst (zs ++ [u]))) := Up.lst (x7 _ _ hm6)
            rw [List.map_append]
            exact dpa_snoc (dpa_up u7 _ _ (noLs_map noL_eQ _) (dpa_mono (x6.trans x7) _ _ hQ5)) (dp_up u7 _ _ (noL_eQ q) hu)
      · rintro σ' H5 x5 ⟨a, rfl, ts, qs, ys, zs, hl5, hT5, hm5, hQ5, hsc, tl5, ql5⟩
        rw [List.length_map, List.drop_length] at hsc
        have hsc2 : scanW [] [] R = some (ts, qs) := hsc
        rw [hsc2] at kq ke
        have x05 := x02.trans x5
        have hTd : Dp K H5 (.ref l) (.list (ts.map eT)) := dp_lst.mpr ⟨l, ys, rfl, SqL.of hl5, hT5⟩
        have hQd : Dp K H5 (.ref m) (.list (qs.map eQ)) := dp_lst.mpr ⟨m, zs, rfl, SqL.of hm5, hQ5⟩
        have x15 := x2.trans x5
        have w1l : (wAt hd 1).length ≤ 100000 := by
          have := (hdS.2.2 (wAt hd 1) (List.mem_of_getElem? (wAt_get (show 1 < hd.length by omega)))).1
          omega
        refine ⟨_, rfl, call_number (K := K) (ed_word 1 (l0 H5 _ _ _ _ _ x15) (by omega)) w1l (fun r hr H6 x6 => ?_) (fun hn H6 x6 => ?_)⟩
        · refine ⟨_, rfl, ?_⟩
          have x06 := x05.trans x6
          have no : (Nt.mk ts r qs).ok = false → noteOf [] = none ∧ ((some (ts, qs)).bind fun p => (numberOf (wAt ((hd :: tl).headD []) 1)).bind fun r => if (Nt.mk p.1 r p.2).ok = true then some (Nt.mk p.1 r p.2) else none) = none := fun c => ⟨rfl, by
            show ((numberOf (wAt hd 1)).bind fun r => if (Nt.mk ts r qs).ok = true then some (Nt.mk ts r qs) else none) = none
            rw [hr]
            show (if _ then _ else _) = _
            rw [if_neg (by rw [c]; decide)]⟩
          refine fun y dy g1 g2 g3 => make_at (K := K) (n := ⟨ts, r, qs⟩) (.cons (dp_mono x6 _ _ hTd) (.cons (.int _) (.cons (dp_mono x6 _ _ hQd) .nil))) (fun v H' => tRet (tVar 5) { nx := fun x H' => Q V.non H', rt := Q } [some (.str x), some v1, some (.ref l), some (.ref m), a, some v, none] H') (fun ok v H7 x7 hN => ?_) (fun c H7 x7 => ?_) (fun a c H7 x7 => ?_) (fun a b c H7 x7 => ?_) y dy g1 g2 g3
          · refine ⟨_, rfl, kq ⟨ts, r, qs⟩ ?_ v H7 (x06.trans x7) (hN.back x06)⟩
            show ((numberOf (wAt hd 1)).bind fun r => if (Nt.mk ts r qs).ok = true then some (Nt.mk ts r qs) else none) = _
            rw [hr]
            show (if _ then _ else _) = _
            rw [if_pos ok]
          · exact ⟨true, exmK T (by decide +kernel) (by decide +kernel) _ (by decide +kernel), fun _ a ha => ke (no (by unfold Nt.ok; rw [c]; rfl)).2 H7 (x06.trans x7), nofun⟩
          · exact ⟨false, exmK T (by decide +kernel) (by decide +kernel) _ (by decide +kernel), nofun, fun _ => ⟨true, exmK T (by decide +kernel) (by decide +kernel) _ (by decide +kernel), fun _ a ha => ke (no (by unfold Nt.ok; rw [c, Bool.false_and, Bool.and_false])).2 H7 (x06.trans x7), nofun⟩⟩
          · exact ⟨false, exmK T (by decide +kernel) (by decide +kernel) _ (by decide +kernel), nofun, fun _ => ⟨false, exmK T (by decide +kernel) (by decide +kernel) _ (by decide +kernel), nofun, fun _ => ⟨true, exmK T (by decide +kernel) (by decide +kernel) _ (by decide +kernel), fun _ a ha => ke (no (by unfold Nt.ok; rw [c, Bool.and_false, Bool.and_false])).2 H7 (x06.trans x7), nofun⟩⟩⟩
        · exact ⟨false, exmK T (by decide +kernel) (by decide +kernel) _ (by decide +kernel), nofun, fun _ => ⟨false, exmK T (by decide +kernel) (by decide +kernel) _ (by decide +kernel), nofun, fun _ => ⟨false, exmK T (by decide +kernel) (by decide +kernel) _ (by decide +kernel), nofun, fun _ => ke (by
            show ((numberOf (wAt hd 1)).bind fun r => if (Nt.mk ts r qs).ok = true then some (Nt.mk ts r qs) else none) = none
            rw [hn]; rfl) H6 (x05.trans x6)⟩⟩⟩
end

end Fy

namespace Fy
open PySem PySem.Spec PyProof.Rows L2
/-! ### a night's text, in plain Lean -/
def sI (i : Int) : Str := Str.ofString (toString i)
def boatW (r : Int) : List Str := ["boat", sI r]
def thingW (t : Int × Bool) : List Str := ["thing", sI t.1, if t.2 = true then "rows" else "sits"]
def keepW (k : Int) : Str := if 0 ≤ k then sI k else "-"
def quarrelW (q : Int × Int × Int) : List Str := ["quarrel", sI q.1, sI q.2.1, keepW q.2.2]
def noteW (n : Nt) : List (List Str) := boatW n.room :: (n.things.map thingW ++ n.quarrels.map quarrelW)
def joinB (ws : List Str) : Str := Txt.join " " ws
def noteL (n : Nt) : List Str := (noteW n).map joinB
def textOf (n : Nt) : Str := Txt.join "\n" (noteL n ++ [("" : Str)])
theorem sg_join (y : Str) (ps : List Str) : sg (Txt.join y ps) = TL.joinL (sg y) (ps.map sg) := by
  rw [TL.join_eq]
  exact TL.tl_join y ps
theorem sg_nl : sg ("\n" : Str) = [10] := nl_tl
theorem sg_bl : sg (" " : Str) = [32] := bl_tl
theorem sg_empty : sg ("" : Str) = [] := by decide +kernel
theorem joinL_end : ∀ ls : List (List Nat), TL.joinL [10] (ls ++ [[]]) = ls.flatMap fun l => l ++ [10]
  | [] => rfl
  | [a] => by show a ++ ([10] ++ []) = _; simp
  | a :: b :: r => by
    show a ++ ([10] ++ TL.joinL [10] ((b :: r) ++ [[]])) = _
    rw [joinL_end (b :: r), List.flatMap_cons (x := a), List.append_assoc]
theorem sg_text (n : Nt) : sg (textOf n) = ((noteL n).map sg).flatMap fun l => l ++ [10] := by
  unfold textOf
  rw [sg_join, sg_nl, List.map_append, List.map_cons, List.map_nil, sg_empty, joinL_end]
theorem sI_nat {i : Int} (h : 0 ≤ i) : sg (sI i) = TL.numL i.toNat := by
  have e : i = ((i.toNat : Nat) : Int) := by omega
  unfold sI
  rw [e]
  exact TL.tl_num i.toNat
theorem num_head : ∀ n : Nat, 1 ≤ n → (TL.numL n).head? ≠ some 48 := by
  intro n
  induction n using Nat.strongRecOn with
  | _ n ih =>
    intro h1 e
    by_cases h : n < 10
    · rw [TL.numL_lt h] at e
      injection e with e
      omega
    · rw [TL.numL_step (by omega), List.head?_append] at e
      have z := ih (n / 10) (by omega) (by omega)
      cases c : (TL.numL (n / 10)).head? with
      | none => exact TL.numL_ne _ (List.head?_eq_none_iff.mp c)
      | some d => rw [c] at e z; exact z e
theorem number_sI {i : Int} (h : 0 ≤ i ∧ i < 10000000000) : numberOf (sI i) = some i := by
  have e := sI_nat h.1
  have hl : (sI i).length ≤ 10 := by
    have z := TL.numL_len (n := i.toNat) (k := 10) (by decide) (by omega)
    rw [← e, sg_len] at z
    exact z
  have hne : (sI i).length ≠ 0 := fun z => by
    have c := TL.numL_ne i.toNat
    rw [← e] at c
    have d := sg_len (sI i)
    rw [z] at d
    exact c (List.length_eq_zero_iff.mp d)
  have h1 : lenOk (sI i) = true := by
    unfold lenOk
    rw [decide_eq_true (show (1 : Int) ≤ ((sI i).length : Int) by omega), decide_eq_true (show ((sI i).length : Int) ≤ 10 by omega)]
    rfl
  have h2 : zeroAhead (sI i) = false := by
    unfold zeroAhead
    by_cases z : i = 0
    · rw [z]; decide +kernel
    · rw [decide_eq_false (by rw [e]; exact num_head _ (by omega)), Bool.false_and]
  have h3 : (sg (sI i)).all isDig = true := by
    rw [e, List.all_eq_true]
    exact fun c hc => decide_eq_true (TL.numL_digits _ c hc)
  have hv : numV (sI i) = i := by
    unfold numV
    rw [e, TL.numL_val]
    omega
  unfold numberOf numOk
  rw [h1, h2, h3, hv]
  rfl
/-- no blank, no line's end -/
def plainS (x : Str) : Prop := 32 ∉ sg x ∧ 10 ∉ sg x
theorem plain_sI {i : Int} (h : 0 ≤ i) : plainS (sI i) := by
  unfold plainS
  rw [sI_nat h]
  exact ⟨TL.numL_free (by omega), TL.numL_free (by omega)⟩
theorem plain_lit (x : Str) (h : (!(sg x).contains 32 && !(sg x).contains 10) = true) : plainS x := by
  rw [Bool.and_eq_true] at h
  exact ⟨by simpa using h.1, by simpa using h.2⟩
theorem plain_keep {k : Int} : plainS (keepW k) := by
  unfold keepW
  split
  · exact plain_sI (by assumption)
  · exact plain_lit _ (by decide +kernel)
theorem joinL_mem (S : List Nat) : ∀ (ps : List (List Nat)) (c : Nat), c ∈ TL.joinL S ps → c ∈ S ∨ ∃ p ∈ ps, c ∈ p
  | [], c, h => by cases h
  | [p], c, h => .inr ⟨p, List.mem_cons_self, h⟩
  | p :: q :: r, c, h => by
    have h' : c ∈ p ++ (S ++ TL.joinL S (q :: r)) := h
    rcases List.mem_append.mp h' with h | h
    · exact .inr ⟨p, List.mem_cons_self, h⟩
    · rcases List.mem_append.mp h with h | h
      · exact .inl h
      · rcases joinL_mem S (q :: r) c h with h | ⟨z, hz, h⟩
        · exact .inl h
        · exact .inr ⟨z, List.mem_cons_of_mem _ hz, h⟩
/-- the words of a good night's text -/
structure NoteOk (n : Nt) : Prop where
  th : ∀ t ∈ n.things, 0 ≤ t.1 ∧ t.1 < 10000000000
  rm : 0 ≤ n.room ∧ n.room < 10000000000
  qu : ∀ q ∈ n.quarrels, (0 ≤ q.1 ∧ q.1 < 10000000000) ∧ (0 ≤ q.2.1 ∧ q.2.1 < 10000000000) ∧ (-1 ≤ q.2.2 ∧ q.2.2 < 10000000000)
theorem noteOk_of {n : Nt} (ok : n.ok = true) : NoteOk n := by
  unfold Nt.ok thingsOk roomOk quarrelsOk at ok
  simp only [Bool.and_eq_true, decide_eq_true_eq, List.all_eq_true] at ok
  obtain ⟨⟨⟨t1, t2⟩, t3⟩, r, q1, q2⟩ := ok
  refine ⟨fun t ht => ?_, by omega, fun q hq => ?_⟩
  · have := t3 t ht
    unfold paceOk at this
    have := of_decide_eq_true this
    omega
  · have := q2 q hq
    unfold quarrelOk quarrelIn at this
    simp only [Bool.and_eq_true, decide_eq_true_eq] at this
    omega
theorem words_plain {n : Nt} (ok : NoteOk n) : ∀ ws ∈ noteW n, ws ≠ [] ∧ ∀ w ∈ ws, plainS w := by
  intro ws hw
  unfold noteW at hw
  rcases List.mem_cons.mp hw with rfl | hw
  · refine ⟨by simp [boatW], fun w hw => ?_⟩
    unfold boatW at hw
    simp only [List.mem_cons, List.not_mem_nil, or_false] at hw
    rcases hw with rfl | rfl
    · exact plain_lit _ (by decide +kernel)
    · exact plain_sI ok.rm.1
  · rcases List.mem_append.mp hw with hw | hw
    · obtain ⟨t, ht, rfl⟩ := List.mem_map.mp hw
      refine ⟨by simp [thingW], fun w hw => ?_⟩
      unfold thingW at hw
      simp only [List.mem_cons, List.not_mem_nil, or_false] at hw
      rcases hw with rfl | rfl | rfl
      · exact plain_lit _ (by decide +kernel)
      · exact plain_sI (ok.th t ht).1
      · split <;> exact plain_lit _ (by decide +kernel)
    · obtain ⟨q, hq, rfl⟩ := List.mem_map.mp hw
      refine ⟨by simp [quarrelW], fun w hw => ?_⟩
      unfold quarrelW at hw
      simp only [List.mem_cons, List.not_mem_nil, or_false] at hw
      rcases hw with rfl | rfl | rfl | rfl
      · exact plain_lit _ (by decide +kernel)
      · exact plain_sI (ok.qu q hq).1.1
      · exact plain_sI (ok.qu q hq).2.1.1
      · exact plain_keep
theorem split_joinB {ws : List Str} (h : ws ≠ []) (hp : ∀ w ∈ ws, plainS w) : Txt.split (joinB ws) " " = ws :=
  TL.split_join (y := " ") (s := 32) (S := []) bl_tl (by decide +kernel) h fun p hp' => (hp p hp').1
theorem join_plain {ws : List Str} (hp : ∀ w ∈ ws, plainS w) : 10 ∉ sg (joinB ws) := fun h => by
  unfold joinB at h
  rw [sg_join, sg_bl] at h
  rcases joinL_mem _ _ _ h with h | ⟨p, hp', h⟩
  · simp at h
  · obtain ⟨w, hw, rfl⟩ := List.mem_map.mp hp'
    exact (hp w hw).2 h
theorem lines_text {n : Nt} (ok : NoteOk n) : linesW (textOf n) = noteW n ++ [[("" : Str)]] := by
  have wp := words_plain ok
  have sp : Txt.split (textOf n) "\n" = noteL n ++ [("" : Str)] := TL.split_join (y := "\n") (s := 10) (S := []) nl_tl (by decide +kernel) (by simp) fun p hp => by
    rcases List.mem_append.mp hp with hp | hp
    · obtain ⟨ws, hw, rfl⟩ := List.mem_map.mp hp
      exact join_plain (wp ws hw).2
    · rw [List.mem_singleton.mp hp]
      decide +kernel
  unfold linesW
  rw [sp, List.map_append, List.map_cons, List.map_nil]
  unfold noteL
  rw [List.map_map]
  congr 1
  conv => rhs; rw [← List.map_id (noteW n)]
  refine List.map_congr_left fun ws hw => ?_
  exact split_joinB (wp ws hw).1 (wp ws hw).2
theorem thing_back {t : Int × Bool} (h : 0 ≤ t.1 ∧ t.1 < 10000000000) : thingOf (thingW t) = some t := by
  obtain ⟨p, b⟩ := t
  unfold thingOf thingW
  have w2 : wAt ["thing", sI p, if b = true then ("rows" : Str) else "sits"] 2 = if b = true then ("rows" : Str) else "sits" := rfl
  have w1 : wAt ["thing", sI p, if b = true then ("rows" : Str) else "sits"] 1 = sI p := rfl
  dsimp only
  rw [w2, w1, number_sI h]
  cases b with
  | true => rfl
  | false => rfl
theorem keeper_back {k : Int} (h : -1 ≤ k ∧ k < 10000000000) : keeperOf (keepW k) = some k := by
  unfold keeperOf keepW
  by_cases h0 : 0 ≤ k
  · rw [if_pos h0, if_neg, number_sI ⟨h0, h.2⟩]
    intro e
    have c := congrArg sg e
    rw [sI_nat h0, show sg ("-" : Str) = [45] by decide +kernel] at c
    have d := TL.numL_digits k.toNat 45 (by rw [c]; simp)
    omega
  · rw [if_neg h0, if_pos rfl]
    congr 1
    omega
theorem quarrel_back {q : Int × Int × Int} (h : (0 ≤ q.1 ∧ q.1 < 10000000000) ∧ (0 ≤ q.2.1 ∧ q.2.1 < 10000000000) ∧ (-1 ≤ q.2.2 ∧ q.2.2 < 10000000000)) : quarrelOf (quarrelW q) = some q := by
  unfold quarrelOf quarrelW
  have w0 : wAt ["quarrel", sI q.1, sI q.2.1, keepW q.2.2] 0 = "quarrel" := rfl
  have w1 : wAt ["quarrel", sI q.1, sI q.2.1, keepW q.2.2] 1 = sI q.1 := rfl
  have w2 : wAt ["quarrel", sI q.1, sI q.2.1, keepW q.2.2] 2 = sI q.2.1 := rfl
  have w3 : wAt ["quarrel", sI q.1, sI q.2.1, keepW q.2.2] 3 = keepW q.2.2 := rfl
  rw [w0, w1, w2, w3, number_sI h.1, number_sI h.2.1, keeper_back h.2.2]
  rfl
theorem scan_quarrels : ∀ (qs : List (Int × Int × Int)) (ts : List (Int × Bool)) (acc : List (Int × Int × Int)), (∀ q ∈ qs, quarrelOf (quarrelW q) = some q) → scanW ts acc (qs.map quarrelW) = some (ts, acc ++ qs)
  | [], ts, acc, _ => by rw [List.append_nil]; rfl
  | q :: r, ts, acc, h => by
    rw [List.map_cons]
    have e : scanW ts acc (quarrelW q :: r.map quarrelW) = (quarrelOf (quarrelW q)).bind fun q => scanW ts (acc ++ [q]) (r.map quarrelW) := by
      show (if _ then _ else _) = _
      rw [if_neg]
      have : decide (wAt (quarrelW q) 0 = "thing") = false := by
        show decide (("quarrel" : Str) = "thing") = false
        decide +kernel
      rw [this, Bool.false_and]
      exact Bool.false_ne_true
    rw [e, h q List.mem_cons_self]
    show scanW ts (acc ++ [q]) (r.map quarrelW) = _
    rw [scan_quarrels r ts (acc ++ [q]) fun q hq => h q (List.mem_cons_of_mem _ hq), List.append_assoc]
    rfl
theorem scan_things : ∀ (ts acc : List (Int × Bool)) (qs : List (Int × Int × Int)), (∀ t ∈ ts, thingOf (thingW t) = some t) → (∀ q ∈ qs, quarrelOf (quarrelW q) = some q) → scanW acc [] (ts.map thingW ++ qs.map quarrelW) = some (acc ++ ts, qs)
  | [], acc, qs, _, hq => by
    rw [List.append_nil, List.map_nil, List.nil_append, scan_quarrels qs acc [] hq]
    rfl
  | t :: r, acc, qs, h, hq => by
    rw [List.map_cons, List.cons_append]
    have e : scanW acc [] (thingW t :: (r.map thingW ++ qs.map quarrelW)) = (thingOf (thingW t)).bind fun t => scanW (acc ++ [t]) [] (r.map thingW ++ qs.map quarrelW) := by
      show (if _ then _ else _) = _
      rw [if_pos]
      show (decide (("thing" : Str) = "thing") && decide (([] : List (Int × Int × Int)) = [])) = true
      decide +kernel
    rw [e, h t List.mem_cons_self]
    show scanW (acc ++ [t]) [] (r.map thingW ++ qs.map quarrelW) = _
    rw [scan_things r (acc ++ [t]) qs (fun t ht => h t (List.mem_cons_of_mem _ ht)) hq, List.append_assoc]
    rfl
theorem note_back {n : Nt} (ok : n.ok = true) : noteOf (linesW (textOf n)) = some n := by
  have no := noteOk_of ok
  rw [lines_text no]
  have hok : (lastOk (noteW n ++ [[("" : Str)]]) && headOk (noteW n ++ [[("" : Str)]])) = true := by
    unfold lastOk
    rw [List.getLast?_concat, decide_eq_true rfl, Bool.true_and]
    rfl
  have hr : restW (noteW n ++ [[("" : Str)]]) = n.things.map thingW ++ n.quarrels.map quarrelW := by
    unfold restW noteW
    rw [List.cons_append, List.drop_one, List.tail_cons, List.length_cons, List.length_append, List.length_singleton]
    rw [List.take_append_of_le_length (by omega), List.take_of_length_le (by omega)]
  unfold noteOf
  rw [if_pos hok, hr, scan_things _ _ _ (fun t ht => thing_back (no.th t ht)) (fun q hq => quarrel_back (no.qu q hq))]
  show ((numberOf (sI n.room)).bind fun r => if (Nt.mk ([] ++ n.things) r n.quarrels).ok = true then some (Nt.mk ([] ++ n.things) r n.quarrels) else none) = some n
  rw [number_sI no.rm, List.nil_append]
  show (if (Nt.mk n.things n.room n.quarrels).ok = true then some (Nt.mk n.things n.room n.quarrels) else none) = some n
  rw [if_pos ok]
/-! sizes, signs -/
theorem sI_len {i : Int} (h : 0 ≤ i ∧ i < 10000000000) : (sI i).length ≤ 10 := by
  have z := TL.numL_len (n := i.toNat) (k := 10) (by decide) (by omega)
  rw [← sI_nat h.1, sg_len] at z
  exact z
theorem keep_len {k : Int} (h : -1 ≤ k ∧ k < 10000000000) : (keepW k).length ≤ 10 := by
  unfold keepW
  split
  · exact sI_len ⟨by assumption, h.2⟩
  · decide +kernel

end Fy

namespace Fy
open PySem PySem.Spec PyProof.Rows L2
/-! ### lines put together -/
def txt (ls : List Str) : Str := ⟨((ls.map sg).flatMap fun l => l ++ [10]).toArray⟩
theorem sg_txt (ls : List Str) : sg (txt ls) = (ls.map sg).flatMap fun l => l ++ [10] := rfl
theorem txt_text (n : Nt) : textOf n = txt (noteL n) := sg_inj (by rw [sg_text, sg_txt])
theorem txt_snoc (ls : List Str) (l : Str) : txt (ls ++ [l]) = (txt ls ++ l) ++ "\n" := sg_inj (by
  rw [sg_app, sg_app, sg_txt, sg_txt, sg_nl, List.map_append, List.flatMap_append]
  simp)
theorem txt_nil : txt [] = "" := sg_inj (by rw [sg_empty]; rfl)
theorem len_app (x y : Str) : (x ++ y).length = x.length + y.length := by rw [← sg_len, sg_app, List.length_append, sg_len, sg_len]
theorem txt_len {N : Nat} : ∀ {ls : List Str}, (∀ l ∈ ls, l.length ≤ N) → (txt ls).length ≤ (N + 1) * ls.length
  | [], _ => Nat.le_refl _
  | l :: r, h => by
    have a := txt_len (ls := r) fun z hz => h z (List.mem_cons_of_mem _ hz)
    have b := h l List.mem_cons_self
    rw [← sg_len, sg_txt] at a ⊢
    rw [List.map_cons, List.flatMap_cons, List.length_append, List.length_append, sg_len, List.length_singleton, List.length_cons, Nat.mul_succ]
    omega
theorem app_assoc (x y z : Str) : (x ++ y) ++ z = x ++ (y ++ z) := sg_inj (by simp only [sg_app, List.append_assoc])
theorem nil_app (x : Str) : (("" : Str) ++ x) = x := sg_inj (by rw [sg_app, sg_empty]; rfl)
def thingL (t : Int × Bool) : Str := joinB (thingW t)
def quarrelL (q : Int × Int × Int) : Str := joinB (quarrelW q)
def boatL (r : Int) : Str := joinB (boatW r)
theorem noteL_eq (n : Nt) : noteL n = boatL n.room :: (n.things.map thingL ++ n.quarrels.map quarrelL) := by
  unfold noteL noteW
  rw [List.map_cons, List.map_append, List.map_map, List.map_map]
  rfl
def rowW (b : Bool) : Str := if b = true then "rows" else "sits"
theorem boatL_eq (r : Int) : boatL r = "boat " ++ sI r := sg_inj (by
  unfold boatL joinB boatW
  rw [sg_join, sg_bl, sg_app, show sg ("boat " : Str) = sg ("boat" : Str) ++ [32] by decide +kernel, List.append_assoc]
  rfl)
theorem thingL_eq (t : Int × Bool) : thingL t = (("thing " ++ sI t.1) ++ " ") ++ rowW t.2 := sg_inj (by
  unfold thingL joinB thingW
  rw [sg_join, sg_bl, sg_app, sg_app, sg_app, sg_bl, show sg ("thing " : Str) = sg ("thing" : Str) ++ [32] by decide +kernel, List.append_assoc, List.append_assoc, List.append_assoc]
  rfl)
theorem quarrelL_eq (q : Int × Int × Int) : quarrelL q = (((("quarrel " ++ sI q.1) ++ " ") ++ sI q.2.1) ++ " ") ++ keepW q.2.2 := sg_inj (by
  unfold quarrelL joinB quarrelW
  rw [sg_join, sg_bl]
  simp only [sg_app]
  rw [sg_bl, show sg ("quarrel " : Str) = sg ("quarrel" : Str) ++ [32] by decide +kernel]
  simp only [List.append_assoc]
  rfl)
theorem row_len (b : Bool) : (rowW b).length ≤ 20 := by cases b <;> decide +kernel
theorem boatL_len {r : Int} (h : 0 ≤ r ∧ r < 10000000000) : (boatL r).length ≤ 90 := by
  have a := sI_len h
  have b : ("boat " : Str).length ≤ 20 := by decide +kernel
  rw [boatL_eq, len_app]
  omega
theorem thingL_len {t : Int × Bool} (h : 0 ≤ t.1 ∧ t.1 < 10000000000) : (thingL t).length ≤ 90 := by
  have a := sI_len h
  have b : ("thing " : Str).length ≤ 20 := by decide +kernel
  have c : (" " : Str).length ≤ 20 := by decide +kernel
  have d := row_len t.2
  rw [thingL_eq, len_app, len_app, len_app]
  omega
theorem quarrelL_len {q : Int × Int × Int} (h : (0 ≤ q.1 ∧ q.1 < 10000000000) ∧ (0 ≤ q.2.1 ∧ q.2.1 < 10000000000) ∧ (-1 ≤ q.2.2 ∧ q.2.2 < 10000000000)) : (quarrelL q).length ≤ 90 := by
  have a := sI_len h.1
  have b : ("quarrel " : Str).length ≤ 20 := by decide +kernel
  have c : (" " : Str).length ≤ 10 := by decide +kernel
  have d := sI_len h.2.1
  have e := keep_len h.2.2
  rw [quarrelL_eq, len_app, len_app, len_app, len_app, len_app]
  omega
theorem lines_90 {n : Nt} (no : NoteOk n) : ∀ l ∈ noteL n, l.length ≤ 90 := fun l hl => by
  rw [noteL_eq] at hl
  rcases List.mem_cons.mp hl with rfl | hl
  · exact boatL_len no.rm
  · rcases List.mem_append.mp hl with hl | hl
    · obtain ⟨t, ht, rfl⟩ := List.mem_map.mp hl
      exact thingL_len (no.th t ht)
    · obtain ⟨q, hq, rfl⟩ := List.mem_map.mp hl
      exact quarrelL_len (no.qu q hq)
theorem ok_counts {n : Nt} (ok : n.ok = true) : (1 ≤ n.things.length ∧ n.things.length ≤ 6) ∧ n.quarrels.length ≤ 30 := by
  unfold Nt.ok thingsOk quarrelsOk at ok
  simp only [Bool.and_eq_true, decide_eq_true_eq] at ok
  exact ⟨ok.1.1, ok.2.2.1⟩
theorem noteL_len (n : Nt) : (noteL n).length = n.things.length + n.quarrels.length + 1 := by
  rw [noteL_eq, List.length_cons, List.length_append, List.length_map, List.length_map]
theorem text_len {n : Nt} (ok : n.ok = true) : (textOf n).length ≤ 5000 := by
  rw [txt_text]
  have a := txt_len (lines_90 (noteOk_of ok))
  have b := ok_counts ok
  rw [noteL_len] at a
  omega
/-- plain letters alone -/
def lowS (x : Str) : Prop := ∀ c ∈ sg x, c < 128
theorem low_lit (x : Str) (h : (sg x).all (fun c => decide (c < 128)) = true) : lowS x := fun c hc => of_decide_eq_true (List.all_eq_true.mp h c hc)
theorem low_app {x y : Str} (h : lowS x) (k : lowS y) : lowS (x ++ y) := fun c hc => by
  rw [sg_app] at hc
  exact (List.mem_append.mp hc).elim (h c) (k c)
theorem low_sI {i : Int} (h : 0 ≤ i) : lowS (sI i) := fun c hc => by
  rw [sI_nat h] at hc
  have := TL.numL_digits _ c hc
  omega
theorem low_keep (k : Int) : lowS (keepW k) := by
  unfold keepW
  split
  · exact low_sI (by assumption)
  · exact low_lit _ (by decide +kernel)
theorem low_row (b : Bool) : lowS (rowW b) := by cases b <;> exact low_lit _ (by decide +kernel)
theorem low_lines {n : Nt} (no : NoteOk n) : ∀ l ∈ noteL n, lowS l := fun l hl => by
  rw [noteL_eq] at hl
  rcases List.mem_cons.mp hl with rfl | hl
  · rw [boatL_eq]
    exact low_app (low_lit _ (by decide +kernel)) (low_sI no.rm.1)
  · rcases List.mem_append.mp hl with hl | hl
    · obtain ⟨t, ht, rfl⟩ := List.mem_map.mp hl
      rw [thingL_eq]
      exact low_app (low_app (low_app (low_lit _ (by decide +kernel)) (low_sI (no.th t ht).1)) (low_lit _ (by decide +kernel))) (low_row _)
    · obtain ⟨q, hq, rfl⟩ := List.mem_map.mp hl
      rw [quarrelL_eq]
      have z := no.qu q hq
      exact low_app (low_app (low_app (low_app (low_app (low_lit _ (by decide +kernel)) (low_sI z.1.1)) (low_lit _ (by decide +kernel))) (low_sI z.2.1.1)) (low_lit _ (by decide +kernel))) (low_keep _)
theorem low_txt {ls : List Str} (h : ∀ l ∈ ls, lowS l) : lowS (txt ls) := fun c hc => by
  rw [sg_txt] at hc
  obtain ⟨p, hp, hc⟩ := List.mem_flatMap.mp hc
  obtain ⟨l, hl, rfl⟩ := List.mem_map.mp hp
  rcases List.mem_append.mp hc with hc | hc
  · exact h l hl c hc
  · rw [List.mem_singleton.mp hc]; decide
theorem low_ok {x : Str} (h : lowS x) : PyData.strOk x = true := (okS_iff x).mpr fun c hc => Nat.lt_trans (h c hc) (by decide)
theorem text_ok {n : Nt} (ok : n.ok = true) : PyData.strOk (textOf n) = true := by
  rw [txt_text]
  exact low_ok (low_txt (low_lines (noteOk_of ok)))
/-! ### texts put together, by data -/
structure EvL (K : PySem.W.Frag) (te : TE) (σ : L2.St) (H : Hp) (x : Str) (N : Nat) : Prop where
  d : EvD K te σ H (.str x)
  l : x.length ≤ N
section
variable {K : PySem.W.Frag} {σ : L2.St} {H : Hp} {ta tb : TE} {x y : Str} {a b : Nat}
theorem el_add (h : EvL K ta σ H x a) (k : EvL K tb σ H y b) (z : a + b ≤ 100000) : EvL K (tOp rAddS ta tb) σ H (x ++ y) (a + b) :=
  ⟨ed_op h.d k.d (rd_addS (by have := h.l; have := k.l; omega)), by have := h.l; have := k.l; rw [len_app]; omega⟩
theorem el_lit (h : x.length ≤ 20) : EvL K (tC (.str x)) σ H x 20 := ⟨ed_str, h⟩
theorem el_var {i : Nat} (h : σ[i]? = some (some (.str x))) (k : x.length ≤ a) : EvL K (tVar i) σ H x a := ⟨ed_var h (.str _), k⟩
theorem log_ok {i : Int} (h : -1 ≤ i ∧ i < 10000000000) : i.natAbs.log2 < 1920 := by
  by_cases z : i.natAbs = 0
  · rw [z]; decide
  · refine (Nat.log2_lt z).mpr (Nat.lt_of_lt_of_le (show i.natAbs < 2 ^ 40 by omega) (Nat.pow_le_pow_right (n := 2) (by decide) (show 40 ≤ 1920 by decide)))
theorem el_strI {i : Int} (h : EvD K ta σ H (.int i)) (b : 0 ≤ i ∧ i < 10000000000) : EvL K (tCB rStrI (tCons ta tNil)) σ H (sI i) 10 :=
  ⟨ed_cb (eds_cons h eds_nil) (cd_strI (log_ok ⟨by omega, b.2⟩)), sI_len b⟩
end
def spShown (K : PySem.W.Frag) : Sp := fun vs H Q _ => ∃ v n, vs = [v] ∧ NightAt K H v n ∧ n.ok = true ∧ RetV (.str (textOf n)) H Q
def spLines (K : PySem.W.Frag) : Sp := fun vs H Q _ => ∃ v n, vs = [v] ∧ Dp K H v (eNt n) ∧ n.ok = true ∧ RetR (fun u H' => NewL K H u H' ((noteL n).map .str)) H Q

end Fy

namespace Fy
open PySem PySem.Spec PyProof.Rows L2
/-! ### nights shown, walked -/
theorem txt1 (l : Str) : txt [l] = l ++ "\n" := by
  have e := txt_snoc [] l
  rw [List.nil_append] at e
  rw [e, txt_nil, nil_app]
def thLines (n : Nt) (i : Nat) : List Str := boatL n.room :: (n.things.take i).map thingL
def quLines (n : Nt) (i : Nat) : List Str := boatL n.room :: (n.things.map thingL ++ (n.quarrels.take i).map quarrelL)
theorem thLines_snoc {n : Nt} {i : Nat} {t : Int × Bool} (h : n.things[i]? = some t) : thLines n (i + 1) = thLines n i ++ [thingL t] := by
  unfold thLines
  rw [take_snoc h, List.map_append]
  rfl
theorem quLines_snoc {n : Nt} {i : Nat} {q : Int × Int × Int} (h : n.quarrels[i]? = some q) : quLines n (i + 1) = quLines n i ++ [quarrelL q] := by
  unfold quLines
  rw [take_snoc h, List.map_append, List.cons_append, List.append_assoc]
  rfl
theorem thLines_end (n : Nt) : thLines n n.things.length = quLines n 0 := by
  unfold thLines quLines
  rw [List.take_length, List.take_zero, List.map_nil, List.append_nil]
theorem quLines_end (n : Nt) : quLines n n.quarrels.length = noteL n := by
  unfold quLines
  rw [List.take_length, noteL_eq]
theorem th_sub {n : Nt} (ok : n.ok = true) (i : Nat) : (txt (thLines n i)).length ≤ 5000 := by
  have no := noteOk_of ok
  have a := txt_len (N := 90) (ls := thLines n i) fun l hl => by
    refine lines_90 no l ?_
    rw [noteL_eq]
    unfold thLines at hl
    rcases List.mem_cons.mp hl with rfl | hl
    · exact List.mem_cons_self
    · obtain ⟨t, ht, rfl⟩ := List.mem_map.mp hl
      exact List.mem_cons_of_mem _ (List.mem_append_left _ (List.mem_map.mpr ⟨t, List.mem_of_mem_take ht, rfl⟩))
  have b := ok_counts ok
  unfold thLines at a ⊢
  rw [List.length_cons, List.length_map, List.length_take] at a
  omega
theorem qu_sub {n : Nt} (ok : n.ok = true) (i : Nat) : (txt (quLines n i)).length ≤ 5000 := by
  have no := noteOk_of ok
  have a := txt_len (N := 90) (ls := quLines n i) fun l hl => by
    refine lines_90 no l ?_
    rw [noteL_eq]
    unfold quLines at hl
    rcases List.mem_cons.mp hl with rfl | hl
    · exact List.mem_cons_self
    · rcases List.mem_append.mp hl with hl | hl
      · exact List.mem_cons_of_mem _ (List.mem_append_left _ hl)
      · obtain ⟨q, hq, rfl⟩ := List.mem_map.mp hl
        exact List.mem_cons_of_mem _ (List.mem_append_right _ (List.mem_map.mpr ⟨q, List.mem_of_mem_take hq, rfl⟩))
  have b := ok_counts ok
  unfold quLines at a ⊢
  rw [List.length_cons, List.length_append, List.length_map, List.length_map, List.length_take] at a
  omega
section
variable {P : Program} {w : World} {K : PySem.W.Frag} {mg : Str → Option Value} {base : Heap}
theorem sc_shown : FnScope ["night", "text", "pace", "rows", "word", "one", "other", "keeper"] ["night"] (defScope s_shown) := ⟨rfl, rfl, rfl, by decide +kernel, rfl, by decide +kernel, by decide +kernel⟩
theorem ok_shown (T : Tx K mg) : Has P w K mg base CX0 2 "shown" ["night"] (spShown K) := by
  obtain ⟨fd, F⟩ := T.f_shown
  have N_quarrels := ok_Night_quarrels (P := P) (w := w) (base := base) T
  have N_things := ok_Night_things (P := P) (w := w) (base := base) T
  have N_room := ok_Night_room (P := P) (w := w) (base := base) T
  refine ⟨T.g_shown, fd, F.ok sc_shown (fun vs H Q E h => ?_) (fun cdv A outer s H vs Q E hr h => ⟨_, PSs.nox (pss_cons (ps_set (i := 1) sc_shown.nd rfl (.inl rfl) (pe_op (r := rAddS) op_add_str (pe_op (r := rAddS) op_add_str pe_str (pe_callTy (r := rStrI) call_str_int (by rfl) T.b_str (by decide +kernel) (pa_cons (pe_nm0 (C := He.ga K "Night") (pv 0) N_room (hr.mono (by decide)) pass0) pa_nil))) pe_str))
      (pss_cons (ps_for PassesOwn.never rfl (pi_list (pe_nm0 (C := He.ga K "Night") (pv 0) N_things (hr.mono (by decide)) pass0)) (pg_tup (by rfl) (pgs_cons (pg_name (i := 2) sc_shown.nd rfl (.inl rfl)) (pgs_cons (pg_name (i := 3) sc_shown.nd rfl (.inl rfl)) pgs_nil))) (pss_cons (ps_set (i := 4) sc_shown.nd rfl (.inl rfl) pe_str)
      (pss_cons (ps_if (pt_val (pv 3)) (pss_one (ps_set (i := 4) sc_shown.nd rfl (.inl rfl) pe_str)) pss_nil)
      (pss_one (ps_set (i := 1) sc_shown.nd rfl (.inl rfl) (pe_op (r := rAddS) op_add_str (pe_op (r := rAddS) op_add_str (pe_op (r := rAddS) op_add_str (pe_op (r := rAddS) op_add_str (pe_op (r := rAddS) op_add_str (pv 1) pe_str) (pe_callTy (r := rStrI) call_str_int (by rfl) T.b_str (by decide +kernel) (pa_cons (pv 2) pa_nil))) pe_str) (pv 4)) pe_str))))))
      (pss_cons (ps_for PassesOwn.never rfl (pi_list (pe_nm0 (C := He.ga K "Night") (pv 0) N_quarrels (hr.mono (by decide)) pass0)) (pg_tup (by rfl) (pgs_cons (pg_name (i := 5) sc_shown.nd rfl (.inl rfl)) (pgs_cons (pg_name (i := 6) sc_shown.nd rfl (.inl rfl)) (pgs_cons (pg_name (i := 7) sc_shown.nd rfl (.inl rfl)) pgs_nil)))) (pss_cons (ps_set (i := 4) sc_shown.nd rfl (.inl rfl) pe_str)
      (pss_cons (ps_if (pt_cmpR op_ge (pv 7) pe_int (nomark _)) (pss_one (ps_set (i := 4) sc_shown.nd rfl (.inl rfl) (pe_callTy (r := rStrI) call_str_int (by rfl) T.b_str (by decide +kernel) (pa_cons (pv 7) pa_nil)))) pss_nil)
      (pss_one (ps_set (i := 1) sc_shown.nd rfl (.inl rfl) (pe_op (r := rAddS) op_add_str (pe_op (r := rAddS) op_add_str (pe_op (r := rAddS) op_add_str (pe_op (r := rAddS) op_add_str (pe_op (r := rAddS) op_add_str (pe_op (r := rAddS) op_add_str (pe_op (r := rAddS) op_add_str (pv 1) pe_str) (pe_callTy (r := rStrI) call_str_int (by rfl) T.b_str (by decide +kernel) (pa_cons (pv 5) pa_nil))) pe_str) (pe_callTy (r := rStrI) call_str_int (by rfl) T.b_str (by decide +kernel) (pa_cons (pv 6) pa_nil))) pe_str) (pv 4)) pe_str))))))
      (pss_one (ps_ret (pv 1)))))), ?_⟩), F.bindsN fun _ _ _ _ _ _ us hl => match us, hl with | [_], _ => rfl, F.kp⟩
  · obtain ⟨v, n, rfl, _⟩ := h
    rfl
  · obtain ⟨v, n, rfl, N, ok, k⟩ := h
    have no := noteOk_of ok
    refine w_asg (K := K) (d := .str (txt (thLines n 0))) (EvD.cast (el_add (el_add (el_lit (by decide +kernel)) (el_strI (ed_room rfl N) no.rm) (by decide)) (el_lit (by decide +kernel)) (by decide)).d (by unfold thLines; rw [List.take_zero, List.map_nil, txt1, boatL_eq])) (fun v1 H1 x1 h1 => ?_)
    cases dp_str.mp h1
    refine w_forLx (K := K) (ds := n.things.map eT) (en_things rfl (N.mono x1)).toD (fun i σ H' => ∃ a b c, σ = [some v, some (.str (txt (thLines n i))), a, b, c, none, none, none]) (fun H2 x2 => ⟨none, none, none, rfl⟩) ?_ ?_
    · rintro i d x σ' H2 hd x2 hx ⟨a, b, c, rfl⟩
      obtain ⟨t, ht, rfl⟩ := get_map hd
      obtain ⟨p, b⟩ := t
      have tb := no.th _ (List.mem_of_getElem? ht)
      obtain ⟨ta, rfl, hs⟩ := dp_eT.mp hx
      refine g_tup2 rfl hs ?_
      show tSeq _ _ _ _ _
      refine w_asg (K := K) (d := .str "sits") ed_str (fun v4 H3 x3 h3 => ?_)
      cases dp_str.mp h3
      refine w_join (fun σ' H' => σ' = [some v, some (.str (txt (thLines n i))), some (.int p), some (.bl b), some (.str (rowW b)), none, none, none] ∧ Ex H2 H') ?go (fun go => ?main)
      case main =>
        refine' w_when K (b := b) ?t (fun hb H4 x4 => ?_) (fun hb H4 x4 => ?_)
        case t => walk_at "et"
        · show tAsg _ _ _ _ _
          refine w_asg1 (K := K) (d := .str "rows") ed_str (fun v5 H5 x5 h5 => ?_)
          cases dp_str.mp h5
          exact go _ _ ⟨by rw [hb]; rfl, (x3.trans x4).trans x5⟩
        · exact go _ _ ⟨by rw [hb]; rfl, x3.trans x4⟩
      case go =>
        rintro σ' H4 ⟨rfl, x4⟩
        show tAsg _ _ _ _ _
        refine w_asg1 (K := K) (d := .str (txt (thLines n (i + 1)))) (EvD.cast (el_add (el_add (el_add (el_add (el_add (el_var (a := 5000) rfl (th_sub ok i)) (el_lit (by decide +kernel)) (by decide)) (el_strI (ed_var rfl (.int _)) tb) (by decide)) (el_lit (by decide +kernel)) (by decide)) (el_var (a := 20) rfl (row_len b)) (by decide)) (el_lit (by decide +kernel)) (by decide)).d ?_) (fun v5 H5 x5 h5 => ?_)
        · rw [thLines_snoc ht, txt_snoc, thingL_eq]
          simp only [app_assoc]
        · cases dp_str.mp h5
          exact ⟨x4.trans x5, _, _, _, rfl⟩
    · rintro σ' H2 x2 ⟨a, b, c, rfl⟩
      rw [List.length_map, thLines_end]
      refine w_forLx (K := K) (ds := n.quarrels.map eQ) (en_quarrels rfl ((N.mono x1).mono x2)).toD (fun i σ H' => ∃ c d e f, σ = [some v, some (.str (txt (quLines n i))), a, b, c, d, e, f]) (fun H2 x2 => ⟨_, _, _, _, rfl⟩) ?_ ?_
      · rintro i d x σ' H3 hd x3 hx ⟨c, d, e, f, rfl⟩
        obtain ⟨q, hq, rfl⟩ := get_map hd
        obtain ⟨one, other, keep⟩ := q
        have qb := no.qu _ (List.mem_of_getElem? hq)
        obtain ⟨ta, rfl, hs⟩ := dp_eQ.mp hx
        refine g_tup3 rfl hs ?_
        show tSeq _ _ _ _ _
        refine w_asg (K := K) (d := .str "-") ed_str (fun v4 H4 x4 h4 => ?_)
        cases dp_str.mp h4
        refine w_join (fun σ' H' => σ' = [some v, some (.str (txt (quLines n i))), a, b, some (.str (keepW keep)), some (.int one), some (.int other), some (.int keep)] ∧ Ex H3 H') ?go (fun go => ?main)
        case main =>
          refine' w_when K (b := decide (keep ≥ 0)) ?t (fun hb H5 x5 => ?_) (fun hb H5 x5 => ?_)
          case t => walk_at "et"
          · have h0 : 0 ≤ keep := of_decide_eq_true hb
            show tAsg _ _ _ _ _
            refine w_asg1 (K := K) (d := .str (sI keep)) (el_strI (ed_var rfl (.int _)) ⟨h0, qb.2.2.2⟩).d (fun v5 H6 x6 h6 => ?_)
            cases dp_str.mp h6
            exact go _ _ ⟨by unfold keepW; rw [if_pos h0]; rfl, (x4.trans x5).trans x6⟩
          · have h0 : ¬ 0 ≤ keep := of_decide_eq_false hb
            exact go _ _ ⟨by unfold keepW; rw [if_neg h0]; rfl, x4.trans x5⟩
        case go =>
          rintro σ' H5 ⟨rfl, x5⟩
          show tAsg _ _ _ _ _
          refine w_asg1 (K := K) (d := .str (txt (quLines n (i + 1)))) (EvD.cast (el_add (el_add (el_add (el_add (el_add (el_add (el_add (el_var (a := 5000) rfl (qu_sub ok i)) (el_lit (by decide +kernel)) (by decide)) (el_strI (ed_var rfl (.int _)) qb.1) (by decide)) (el_lit (by decide +kernel)) (by decide)) (el_strI (ed_var rfl (.int _)) qb.2.1) (by decide)) (el_lit (by decide +kernel)) (by decide)) (el_var (a := 10) rfl (keep_len qb.2.2)) (by decide)) (el_lit (by decide +kernel)) (by decide)).d ?_) (fun v5 H6 x6 h6 => ?_)
          · rw [quLines_snoc hq, txt_snoc, quarrelL_eq]
            simp only [app_assoc]
          · cases dp_str.mp h6
            exact ⟨x5.trans x6, _, _, _, _, rfl⟩
      · rintro σ' H3 x3 ⟨c, d, e, f, rfl⟩
        rw [List.length_map, quLines_end, ← txt_text]
        refine w_ret1 (K := K) (d := .str (textOf n)) (ed_var rfl (.str _)) fun v9 H9 x9 h9 => ?_
        cases dp_str.mp h9
        exact k H9 (((x1.trans x2).trans x3).trans x9)
end

end Fy

namespace Fy
open PySem PySem.Spec PyProof.Rows L2
/-! ### _law_lines, walked -/
abbrev rInt1L : List V → Hp → VK → Prop := fun xs H Q => (∃ i, xs = [.int i] ∧ Q (.int i) H) ∨ ∃ k, xs = [.bl k] ∧ Q (.int (if k then 1 else 0)) H
section
variable {K : PySem.W.Frag} {σ : L2.St} {H : Hp} {ta tb tl te : TE} {D : Ends} {tu tz : TS} {g : TG} {ds : List PyData}
theorem cd_intBL {b : Bool} : CD K rInt1L [.bool b] (.int (if b then 1 else 0)) := fun H vs h Q q => by
  obtain ⟨v, rfl, h1⟩ := dpa1 h
  cases dp_bl.mp h1
  exact .inr ⟨b, rfl, q _ H (Evl.Ex.refl H) (.int _)⟩
/-- a list that stood in H0, named by a term that lays nothing -/
def EvOld (K : PySem.W.Frag) (te : TE) (σ : L2.St) (H H0 : Hp) (ds : List PyData) : Prop := ∀ Q : VK, (∀ p xs, SqL K H0 p xs → DpAll K H0 xs ds → Q (.ref p) H) → te σ H Q
theorem eo_ix {j i : Nat} {v : V} {dds : List PyData} {H0 : Hp} (hj : σ[j]? = some (some v)) (hv : Dp K H0 v (.tuple dds)) (x0 : Ex H0 H) (hi : dds[i]? = some (.list ds)) : EvOld K (tOp (rIxT K) (tVar j) (tC (.int (i : Int)))) σ H H0 ds := fun Q q => by
  obtain ⟨a, xs, rfl, h1, h2⟩ := dp_tup.mp hv
  obtain ⟨y, hy, hyd⟩ := dpa_get' h2 hi
  obtain ⟨p, ys, rfl, p1, p2⟩ := dp_lst.mp hyd
  exact ⟨_, hj, a, xs, i, .ref p, rfl, rfl, Evl.ex_t x0 h1, atI_nat hy, q p ys p1 p2⟩
/-- over a list that stood, while a list made since grows -/
theorem w_layO {l : Addr} {H0 : Hp} (h : EvOld K tl σ H H0 ds) (x0 : Ex H0 H) (l0 : H0 l = none) (acc : Nat → List PyData) (l1 : ∃ ys, H l = some (.lst ys) ∧ DpAll K H ys (acc 0)) (Pv : Nat → L2.St → Prop) (p0 : Pv 0 σ)
    (hs : ∀ i d x σ' H' ys, ds[i]? = some d → Ex H0 H' → Dp K H' x d → Pv i σ' → H' l = some (.lst ys) → DpAll K H' ys (acc i) → g x σ' H' fun σ2 H2 => tu { D with nx := LayS K l H' (Pv (i + 1)) (acc (i + 1)), ct := LayS K l H' (Pv (i + 1)) (acc (i + 1)), bk := tz D } σ2 H2)
    (hd : ∀ σ' H' ys, Ex H0 H' → Pv ds.length σ' → H' l = some (.lst ys) → DpAll K H' ys (acc ds.length) → tz D σ' H') : tSeq (tFor (iList K tl) g tu) tz D σ H :=
  h _ fun p xs h1 h2 => by
    obtain ⟨ys0, l1, d1⟩ := l1
    have hl := dpa_len h2
    refine ⟨p, rfl, ⟨xs, Evl.ex_l x0 h1⟩, fun i m σ' H' => m = xs.length - i ∧ i ≤ xs.length ∧ Ex H0 H' ∧ Pv i σ' ∧ ∃ ys, H' l = some (.lst ys) ∧ DpAll K H' ys (acc i), ⟨xs.length, by simp, Nat.zero_le _, x0, p0, ys0, l1, d1⟩, ?_⟩
    rintro i m σ' H' ⟨rfl, hi, e0, pv, ys, el, ea⟩
    have q := Evl.ex_l e0 h1
    by_cases hlt : i < xs.length
    · refine .inr ⟨⟨xs, xs[i], q, by simp [hlt]⟩, LayS K l H' (Pv (i + 1)) (acc (i + 1)), fun σ3 H3 p3 => ?_, fun y H2 yy => ?_⟩
      · obtain ⟨p1, p2, p3⟩ := p3
        exact ⟨xs.length - (i + 1), by omega, rfl, hlt, e0.but l0 p2, p1, p3⟩
      · obtain ⟨e2, yy⟩ := yy
        subst e2
        obtain ⟨d, hd', hdy⟩ := dpa_get h2 (yy xs q)
        exact hs i d y σ' _ ys hd' e0 (dp_mono e0 _ _ hdy) pv el ea
    · have e2 : i = xs.length := by omega
      subst e2
      rw [hl] at pv ea
      exact .inl ⟨⟨xs, q, Nat.le_refl _⟩, hd σ' H' ys e0 pv el ea⟩
end
section
variable {P : Program} {w : World} {K : PySem.W.Frag} {mg : Str → Option Value} {base : Heap}
theorem sc__law_lines : FnScope ["night", "lines", "pace", "rows", "one", "other", "keeper", "words"] ["night"] (defScope s__law_lines) := ⟨rfl, rfl, rfl, by decide +kernel, rfl, by decide +kernel, by decide +kernel⟩
theorem ok__law_lines (T : Tx K mg) : Has P w K mg base CX0 2 "_law_lines" ["night"] (spLines K) := by
  obtain ⟨fd, F⟩ := T.f__law_lines
  refine ⟨T.g__law_lines, fd, F.ok sc__law_lines (fun vs H Q E h => ?_) (fun cdv A outer s H vs Q E hr h => ⟨_, PSs.nox (pss_cons (ps_set (i := 1) sc__law_lines.nd rfl (.inl rfl) (pe_lst (pa_cons (pe_op (r := rAddS) op_add_str pe_str (pe_callTy (r := rStrI) call_str_int (by rfl) T.b_str (by decide +kernel) (pa_cons (pe_ix (r := rIxT K) ix_tup (pv 0) pe_int (fun _ _ => rfl)) pa_nil))) pa_nil)))
      (pss_cons (ps_for PassesOwn.never rfl (pi_list (pe_ix (r := rIxT K) ix_tup (pv 0) pe_int (fun _ _ => rfl))) (pg_tup (by rfl) (pgs_cons (pg_name (i := 2) sc__law_lines.nd rfl (.inl rfl)) (pgs_cons (pg_name (i := 3) sc__law_lines.nd rfl (.inl rfl)) pgs_nil))) (pss_one (ps_expr (pe_bm PySem.F.plainAttrs_list PySem.F.slot_list_append PySem.F.type_list_append mt_append (pv 1) (pa_cons (pe_op (r := rAddS) op_add_str (pe_op (r := rAddS) op_add_str (pe_op (r := rAddS) op_add_str pe_str (pe_callTy (r := rStrI) call_str_int (by rfl) T.b_str (by decide +kernel) (pa_cons (pv 2) pa_nil))) pe_str) (pe_ix (r := rIxL K) ix_list (pe_lst (pa_cons pe_str (pa_cons pe_str pa_nil))) (pe_callTy call_int1 (by rfl) T.b_int (by decide +kernel) (pa_cons (pv 3) pa_nil)) (fun _ _ => rfl))) pa_nil)))))
      (pss_cons (ps_for PassesOwn.never rfl (pi_list (pe_ix (r := rIxT K) ix_tup (pv 0) pe_int (fun _ _ => rfl))) (pg_tup (by rfl) (pgs_cons (pg_name (i := 4) sc__law_lines.nd rfl (.inl rfl)) (pgs_cons (pg_name (i := 5) sc__law_lines.nd rfl (.inl rfl)) (pgs_cons (pg_name (i := 6) sc__law_lines.nd rfl (.inl rfl)) pgs_nil)))) (pss_cons (ps_set (i := 7) sc__law_lines.nd rfl (.inl rfl) (pe_lst (pa_cons pe_str (pa_cons (pe_callTy (r := rStrI) call_str_int (by rfl) T.b_str (by decide +kernel) (pa_cons (pv 4) pa_nil)) (pa_cons (pe_callTy (r := rStrI) call_str_int (by rfl) T.b_str (by decide +kernel) (pa_cons (pv 5) pa_nil)) (pa_cons pe_str pa_nil))))))
      (pss_cons (ps_if (pt_cmpR op_ge (pv 6) pe_int (nomark _)) (pss_one (ps_asg (pe_callTy (r := rStrI) call_str_int (by rfl) T.b_str (by decide +kernel) (pa_cons (pv 6) pa_nil)) (pg_sub (pv 7) pe_int set_list))) pss_nil)
      (pss_one (ps_expr (pe_bm PySem.F.plainAttrs_list PySem.F.slot_list_append PySem.F.type_list_append mt_append (pv 1) (pa_cons (pe_join pe_str (pv 7)) pa_nil)))))))
      (pss_one (ps_ret (pv 1)))))), ?_⟩), F.bindsN fun _ _ _ _ _ _ us hl => match us, hl with | [_], _ => rfl, F.kp⟩
  · obtain ⟨v, n, rfl, _⟩ := h
    rfl
  · obtain ⟨v, n, rfl, N, ok, k⟩ := h
    have no := noteOk_of ok
    have oc := ok_counts ok
    have N' : Dp K H v (.tuple [.list (n.things.map eT), .int n.room, .list (n.quarrels.map eQ)]) := N
    have e0 : EvL K (tOp rAddS (tC (.str "boat ")) (tCB rStrI (tCons (tOp (rIxT K) (tVar 0) (tC (.int 1))) tNil))) [some v, none, none, none, none, none, none, none] H (boatL n.room) 30 := by
      rw [boatL_eq]
      exact el_add (el_lit (by decide +kernel)) (el_strI (ed_op (ed_var rfl N') (ed_int (i := 1)) (rd_ixT (by rfl))) no.rm) (by decide)
    refine w_asgN (K := K) (ds := (thLines n 0).map .str) (EvN.cast (en_lst (eds_cons e0.d eds_nil) (show 1 ≤ 100000 by decide)) (by unfold thLines; rw [List.take_zero]; rfl)) (fun v1 H1 x1 h1 => ?_)
    obtain ⟨l, ys, rfl, l0, l1, l2⟩ := h1
    refine w_layO (K := K) (l := l) (H0 := H) (eo_ix (i := 0) rfl N' x1 rfl) x1 l0 (fun i => (thLines n i).map .str) ⟨ys, l1, l2⟩ (fun i σ => ∃ a b, σ = [some v, some (.ref l), a, b, none, none, none, none]) ⟨none, none, rfl⟩ ?_ ?_
    · rintro i d x σ' H2 ys hd x2 hx ⟨a, b, rfl⟩ hl2 ha2
      obtain ⟨t, ht, rfl⟩ := get_map hd
      obtain ⟨p, b⟩ := t
      have tb := no.th _ (List.mem_of_getElem? ht)
      have il := lt_of_get ht
      obtain ⟨ta, rfl, hs⟩ := dp_eT.mp hx
      refine g_tup2 rfl hs ?_
      show tDrop _ _ _ _
      have row : EvL K (tOp (rIxL K) (tLst (tCons (tC (.str "sits")) (tCons (tC (.str "rows")) tNil))) (tCB rInt1L (tCons (tVar 3) tNil))) [some v, some (.ref l), some (.int p), some (.bl b), none, none, none, none] H2 (rowW b) 20 :=
        ⟨ed_op (d := .list [.str "sits", .str "rows"]) (e := .int (if b then 1 else 0)) (en_lst (eds_cons ed_str (eds_cons ed_str eds_nil)) (show 2 ≤ 100000 by decide)).toD (ed_cb (eds_cons (ed_var rfl (.bl _)) eds_nil) cd_intBL) (rd_ixL (by cases b <;> rfl)), row_len b⟩
      exact w_lay (K := K) (d := .str (thingL (p, b))) rfl (EvD.cast (el_add (el_add (el_add (el_lit (by decide +kernel)) (el_strI (ed_var rfl (.int _)) tb) (by decide)) (el_lit (by decide +kernel)) (by decide)) row (by decide)).d (by rw [thingL_eq])) (ExB.refl l H2) hl2 ha2 (noLs_map (fun _ => rfl) _) rfl (by unfold thLines; rw [List.length_map, List.length_cons, List.length_map, List.length_take]; omega) (by show (thLines n (i + 1)).map PyData.str = _; rw [thLines_snoc ht, List.map_append]; rfl) ⟨_, _, rfl⟩ (fun _ _ h => h)
    · rintro σ' H2 ys x2 ⟨a, b, rfl⟩ hl2 ha2
      rw [List.length_map, thLines_end] at ha2
      refine w_layO (K := K) (l := l) (H0 := H) (eo_ix (i := 2) rfl N' x2 rfl) x2 l0 (fun i => (quLines n i).map .str) ⟨ys, hl2, ha2⟩ (fun i σ => ∃ c d e f, σ = [some v, some (.ref l), a, b, c, d, e, f]) ⟨_, _, _, _, rfl⟩ ?_ ?_
      · rintro i d x σ' H3 ys hd x3 hx ⟨c, d, e, f, rfl⟩ hl3 ha3
        obtain ⟨q, hq, rfl⟩ := get_map hd
        obtain ⟨one, other, keep⟩ := q
        have qb := no.qu _ (List.mem_of_getElem? hq)
        have il := lt_of_get hq
        obtain ⟨ta, rfl, hs⟩ := dp_eQ.mp hx
        refine g_tup3 rfl hs ?_
        show tSeq _ _ _ _ _
        refine w_asgN (K := K) (ds := ([("quarrel" : Str), sI one, sI other, "-"]).map .str) (en_lst (eds_cons ed_str (eds_cons (el_strI (ed_var rfl (.int _)) qb.1).d (eds_cons (el_strI (ed_var rfl (.int _)) qb.2.1).d (eds_cons ed_str eds_nil)))) (show 4 ≤ 100000 by decide)) (fun v7 H4 x4 h4 => ?_)
        obtain ⟨m, ws, rfl, m0, m1, m2⟩ := h4
        refine w_join (fun σ' H' => σ' = [some v, some (.ref l), a, b, some (.int one), some (.int other), some (.int keep), some (.ref m)] ∧ Ex H3 H' ∧ ∃ zs, H' m = some (.lst zs) ∧ DpAll K H' zs ((quarrelW (one, other, keep)).map .str)) ?go (fun go => ?main)
        case main =>
          refine' w_when K (b := decide (keep ≥ 0)) ?t (fun hb H5 x5 => ?_) (fun hb H5 x5 => ?_)
          case t => walk_at "et"
          · have h0 : 0 ≤ keep := of_decide_eq_true hb
            show tAsg _ _ _ _ _
            refine (el_strI (K := K) (ed_var rfl (.int _)) ⟨h0, qb.2.2.2⟩).d H5 (Evl.Ex.refl H5) _ fun u H6 x6 hu => ?_
            obtain ⟨w1, w2, w3, w4, rfl, a1, a2, a3, a4⟩ : ∃ w1 w2 w3 w4, ws = [w1, w2, w3, w4] ∧ Dp K H4 w1 (.str "quarrel") ∧ Dp K H4 w2 (.str (sI one)) ∧ Dp K H4 w3 (.str (sI other)) ∧ Dp K H4 w4 (.str "-") := by
              cases m2 with
              | cons a1 m2 => cases m2 with
                | cons a2 m2 => cases m2 with
                  | cons a3 m2 => cases m2 with
                    | cons a4 m2 => cases m2; exact ⟨_, _, _, _, rfl, a1, a2, a3, a4⟩
            have m6 := (x5.trans x6) _ _ m1
            refine ⟨_, rfl, m, [w1, w2, w3, w4], 3, 3, rfl, rfl, m6, rfl, ?_⟩
            have u6 : Up H6 (upd H6 m (.lst [w1, w2, w3, u])) := Up.lst m6
            have x46 := x5.trans x6
            refine go _ _ ⟨rfl, (x4.trans x46).mut m0, [w1, w2, w3, u], upd_same, ?_⟩
            unfold quarrelW keepW
            rw [if_pos h0]
            exact .cons (dp_up u6 _ _ rfl (dp_mono x46 _ _ a1)) (.cons (dp_up u6 _ _ rfl (dp_mono x46 _ _ a2)) (.cons (dp_up u6 _ _ rfl (dp_mono x46 _ _ a3)) (.cons (dp_up u6 _ _ rfl hu) .nil)))
          · have h0 : ¬ 0 ≤ keep := of_decide_eq_false hb
            refine go _ _ ⟨rfl, x4.trans x5, ws, x5 _ _ m1, ?_⟩
            unfold quarrelW keepW
            rw [if_neg h0]
            exact dpa_mono x5 _ _ m2
        case go =>
          rintro σ' H5 ⟨rfl, x5, zs, hz, hzd⟩
          show tDrop _ _ _ _
          have jn : EvD K (tM1 (rJoin K) (tC (.str " ")) (tVar 7)) [some v, some (.ref l), a, b, some (.int one), some (.int other), some (.int keep), some (.ref m)] H5 (.str (quarrelL (one, other, keep))) := by
            refine ed_join (ys := quarrelW (one, other, keep)) ed_str (ed_var rfl (dp_lst.mpr ⟨m, zs, rfl, SqL.of hz, hzd⟩)) ?_
            have b1 := sI_len qb.1
            have b2 := sI_len qb.2.1
            have b3 := keep_len qb.2.2
            have b4 : ("quarrel" : Str).length ≤ 20 := by decide +kernel
            have b5 : (" " : Str).length ≤ 20 := by decide +kernel
            unfold quarrelW
            simp only [List.map_cons, List.map_nil, List.sum_cons, List.sum_nil, List.length_cons, List.length_nil]
            dsimp only at b1 b2 b3
            omega
          exact w_lay (K := K) rfl jn (ExB.ex x5) (x5 _ _ hl3) (dpa_mono x5 _ _ ha3) (noLs_map (fun _ => rfl) _) rfl (by unfold quLines; rw [List.length_map, List.length_cons, List.length_append, List.length_map, List.length_map, List.length_take]; omega) (by show (quLines n (i + 1)).map PyData.str = _; rw [quLines_snoc hq, List.map_append]; rfl) ⟨_, _, _, _, rfl⟩ (fun _ _ h => h)
      · rintro σ' H3 ys x3 ⟨c, d, e, f, rfl⟩ hl3 ha3
        rw [List.length_map, quLines_end] at ha3
        refine ⟨_, rfl, ?_⟩
        exact k _ H3 x3 ⟨l, ys, rfl, l0, hl3, ha3⟩
end

end Fy

namespace Fy
open PySem PySem.Spec PyProof.Rows L2
/-! ### crossings, in plain Lean -/
def climb (m : Nat) : Int → List Int → Bool
  | _, [] => true
  | last, t :: r => decide (last < t ∧ t < (m : Int)) && climb m t r
def standOk (m : Nat) (s : List Int × Int) : Bool := climb m (-1) s.1 && decide (s.2 = 0 ∨ s.2 = 1)
def bankOf (m : Nat) (s : List Int × Int) : List Int := if s.2 = 0 then s.1 else restOf s.1 m
def ledOver (s : List Int × Int) (c : List Int) : List Int × Int := if s.2 = 0 then (s.1.filter (fun t => !c.contains t), 1) else ((s.1 ++ c).mergeSort leZ, 0)
def stepF (room : Int) (f : List (List Int)) (t : Int) : List (List Int) := f ++ (f.filter fun g => decide ((g.length : Int) < room)).map fun g => g ++ [t]
def growF (room : Int) (bank : List Int) : List (List Int) := bank.foldl (stepF room) [[]]
def groupsOf (bank : List Int) (room : Int) : List (List Int) := ((growF room bank).mergeSort leI).drop 1
def rowsAt (ts : List (Int × Bool)) (t : Int) : Bool := (ts.getD t.toNat (0, false)).2
def paceAt (ts : List (Int × Bool)) (t : Int) : Int := (ts.getD t.toNat (0, false)).1
def canRow (ts : List (Int × Bool)) (c : List Int) : Bool := decide (0 < ((c.filter (rowsAt ts)).length : Int))
def Nt.good (n : Nt) (s : List Int × Int) : Bool := Fy.good n.quarrels s.1 n.things.length
def Nt.lets (n : Nt) (s : List Int × Int) (c : List Int) : Bool := canRow n.things c && n.good (ledOver s c)
def Nt.crews (n : Nt) (s : List Int × Int) : List (List Int) := (groupsOf (bankOf n.things.length s) n.room).filter (n.lets s)
def inThings (m : Nat) (g : List Int) : Prop := ∀ t ∈ g, 0 ≤ t ∧ t < (m : Int)
theorem climb_in {m : Nat} : ∀ {last : Int} {g : List Int}, -1 ≤ last → climb m last g = true → inThings m g
  | _, [], _, _ => fun t h => by cases h
  | last, x :: r, hl, h => by
    unfold climb at h
    simp only [Bool.and_eq_true, decide_eq_true_eq] at h
    intro t ht
    rcases List.mem_cons.mp ht with rfl | ht
    · omega
    · exact climb_in (by omega) h.2 t ht
theorem growF_len {room : Int} : ∀ (bank : List Int) (f : List (List Int)), (bank.foldl (stepF room) f).length ≤ f.length * 2 ^ bank.length
  | [], f => by simp
  | t :: r, f => by
    have h := growF_len (room := room) r (stepF room f t)
    have h2 : (stepF room f t).length ≤ f.length * 2 := by
      unfold stepF
      rw [List.length_append, List.length_map]
      have := List.length_filter_le (fun g : List Int => decide ((g.length : Int) < room)) f
      omega
    rw [List.foldl_cons, List.length_cons, Nat.pow_succ]
    refine Nat.le_trans h ?_
    rw [Nat.mul_comm (2 ^ r.length) 2, ← Nat.mul_assoc]
    exact Nat.mul_le_mul_right _ h2
theorem growF_items {room : Int} {m n : Nat} : ∀ (bank : List Int) (f : List (List Int)), inThings m bank → (∀ g ∈ f, inThings m g ∧ g.length ≤ n) → ∀ g ∈ bank.foldl (stepF room) f, inThings m g ∧ g.length ≤ n + bank.length
  | [], f, _, h => fun g hg => h g hg
  | t :: r, f, hb, h => fun g hg => by
    have q := growF_items (n := n + 1) r (stepF room f t) (fun x hx => hb x (List.mem_cons_of_mem _ hx)) (fun k hk => ?_) g (by simpa using hg)
    · rw [List.length_cons]; exact ⟨q.1, by omega⟩
    · unfold stepF at hk
      rcases List.mem_append.mp hk with hk | hk
      · exact ⟨(h k hk).1, by have := (h k hk).2; omega⟩
      · obtain ⟨k', hk', rfl⟩ := List.mem_map.mp hk
        have q := h k' (List.mem_filter.mp hk').1
        refine ⟨fun x hx => ?_, by rw [List.length_append, List.length_singleton]; omega⟩
        rcases List.mem_append.mp hx with hx | hx
        · exact q.1 x hx
        · rw [List.mem_singleton.mp hx]; exact hb t List.mem_cons_self
/-- the first stays the empty one -/
theorem growF_head {room : Int} : ∀ (bank : List Int) (f : List (List Int)), ∃ r, bank.foldl (stepF room) ([] :: f) = [] :: r
  | [], f => ⟨f, rfl⟩
  | t :: r, f => by
    obtain ⟨r', h⟩ := growF_head r (f ++ (([] :: f).filter fun g => decide ((g.length : Int) < room)).map fun g => g ++ [t])
    exact ⟨r', by rw [List.foldl_cons]; exact h⟩
theorem groupsOf_items {bank : List Int} {room : Int} {m : Nat} (h : inThings m bank) : ∀ c ∈ groupsOf bank room, inThings m c ∧ c.length ≤ bank.length := by
  intro c hc
  have h1 := List.mem_of_mem_drop hc
  have h2 := (List.mergeSort_perm _ _).mem_iff.mp h1
  have := growF_items (n := 0) bank [[]] h (fun g hg => by rw [List.mem_singleton.mp hg]; exact ⟨fun t ht => (nomatch ht), Nat.le_refl _⟩) c h2
  exact ⟨this.1, by have := this.2; omega⟩
theorem groupsOf_len {bank : List Int} {room : Int} : (groupsOf bank room).length ≤ 2 ^ bank.length := by
  unfold groupsOf
  rw [List.length_drop, List.length_mergeSort]
  have := growF_len (room := room) bank [[]]
  simp at this
  unfold growF
  omega
theorem restOf_in {g : List Int} {m : Nat} : inThings m (restOf g m) := fun t ht => by
  have := (List.mem_filter.mp ht).1
  exact mem_rng.mp this
theorem restOf_len {g : List Int} {m : Nat} : (restOf g m).length ≤ m := by
  unfold restOf
  have := List.length_filter_le (fun t => !g.contains t) (rng m)
  rw [rng_len] at this
  exact this
theorem bankOf_in {m : Nat} {s : List Int × Int} (h : inThings m s.1) : inThings m (bankOf m s) := by
  unfold bankOf
  split
  · exact h
  · exact restOf_in
theorem climb_len {m : Nat} : ∀ {last : Int} {g : List Int}, climb m last g = true → g = [] ∨ (g.length : Int) ≤ (m : Int) - 1 - last
  | _, [], _ => .inl rfl
  | last, x :: r, h => by
    unfold climb at h
    simp only [Bool.and_eq_true, decide_eq_true_eq] at h
    right
    rw [List.length_cons]
    rcases climb_len h.2 with rfl | q
    · simp; omega
    · omega
theorem standOk_in {m : Nat} {s : List Int × Int} (h : standOk m s = true) : inThings m s.1 ∧ s.1.length ≤ m := by
  unfold standOk at h
  rw [Bool.and_eq_true] at h
  refine ⟨climb_in (last := -1) (by decide) h.1, ?_⟩
  rcases climb_len h.1 with q | q
  · rw [q]; exact Nat.zero_le _
  · omega
theorem bankOf_len {m : Nat} {s : List Int × Int} (h : s.1.length ≤ m) : (bankOf m s).length ≤ m := by
  unfold bankOf
  split
  · exact h
  · exact restOf_len
theorem growF_il {room : Int} {n : Nat} : ∀ (bank : List Int) (f : List (List Int)), (∀ g ∈ f, g.length ≤ n) → ∀ g ∈ bank.foldl (stepF room) f, g.length ≤ n + bank.length
  | [], f, h => fun g hg => h g hg
  | t :: r, f, h => fun g hg => by
    have q := growF_il (n := n + 1) r (stepF room f t) (fun k hk => ?_) g (by simpa using hg)
    · rw [List.length_cons]; omega
    · unfold stepF at hk
      rcases List.mem_append.mp hk with hk | hk
      · have := h k hk; omega
      · obtain ⟨k', hk', rfl⟩ := List.mem_map.mp hk
        have q := h k' (List.mem_filter.mp hk').1
        rw [List.length_append, List.length_singleton]; omega
theorem growF_snoc {room : Int} {bank : List Int} {i : Nat} {t : Int} (h : bank[i]? = some t) : growF room (bank.take (i + 1)) = stepF room (growF room (bank.take i)) t := by
  unfold growF
  rw [take_snoc h, List.foldl_append]
  rfl

end Fy

namespace Fy
open PySem PySem.Spec PyProof.Rows L2
/-! ### the two ways to the crews are one -/
theorem toks_inj : ∀ {g k : List Int}, PySem.W.keyToksAll (g.map .int) = PySem.W.keyToksAll (k.map .int) → g = k
  | [], [], _ => rfl
  | [], x :: k, h => by rw [List.map_cons, PySem.W.toks_all_cons] at h; simp [PySem.W.keyToksAll] at h
  | x :: g, [], h => by rw [List.map_cons, PySem.W.toks_all_cons] at h; simp [PySem.W.keyToksAll] at h
  | x :: g, y :: k, h => by
    rw [List.map_cons, List.map_cons, PySem.W.toks_all_cons, PySem.W.toks_all_cons] at h
    simp [PySem.W.keyToks] at h
    rw [h.1, toks_inj h.2]
abbrev kO : PyProof.Rows.KeyOrd := PyProof.Rows.listOrd PyProof.Rows.itemOrd
theorem leI_eq (g k : List Int) : leI g k = !kO.blt (PySem.W.keyToks (eI k)) (PySem.W.keyToks (eI g)) := rfl
theorem keyToks_eI (g : List Int) : PySem.W.keyToks (eI g) = PySem.W.keyToksAll (g.map .int) := by simp only [eI, PySem.W.keyToks]
theorem leI_total (g k : List Int) : (leI g k || leI k g) = true := by
  rw [leI_eq, leI_eq]
  cases h : kO.blt (PySem.W.keyToks (eI k)) (PySem.W.keyToks (eI g)) with
  | false => rfl
  | true =>
    cases h2 : kO.blt (PySem.W.keyToks (eI g)) (PySem.W.keyToks (eI k)) with
    | false => rfl
    | true =>
      have := kO.trans _ _ _ h h2
      rw [kO.irrefl] at this
      cases this
theorem leI_trans (a b c : List Int) (h1 : leI a b = true) (h2 : leI b c = true) : leI a c = true := by
  rw [leI_eq, Bool.not_eq_true'] at h1 h2 ⊢
  cases h : kO.blt (PySem.W.keyToks (eI c)) (PySem.W.keyToks (eI a)) with
  | false => rfl
  | true =>
    rcases kO.negTrans _ (PySem.W.keyToks (eI b)) _ h with q | q
    · rw [h2] at q; cases q
    · rw [h1] at q; cases q
theorem leI_anti {a b : List Int} (h1 : leI a b = true) (h2 : leI b a = true) : a = b := by
  rw [leI_eq, Bool.not_eq_true'] at h1 h2
  have := kO.total _ _ h2 h1
  rw [keyToks_eI, keyToks_eI] at this
  exact toks_inj this
theorem leI_nil (g : List Int) : leI [] g = true := by
  rw [leI_eq, keyToks_eI, keyToks_eI, Bool.not_eq_true']
  cases g with
  | nil => exact kO.irrefl _
  | cons x g =>
    have h : kO.blt (PySem.W.keyToksAll ([].map .int)) (PySem.W.keyToksAll ((x :: g).map .int)) = true := by
      show PyProof.Rows.lexLt PyProof.Rows.itemOrd _ _ = true
      rw [List.map_cons, PySem.W.toks_all_cons]
      simp only [List.map_nil, PySem.W.keyToksAll]
      rw [PyProof.Rows.lex_diff (O := PyProof.Rows.itemOrd) (by simp)]
      rfl
    cases h2 : kO.blt (PySem.W.keyToksAll ((x :: g).map .int)) (PySem.W.keyToksAll ([].map .int)) with
    | false => rfl
    | true =>
      have := kO.trans _ _ _ h h2
      rw [kO.irrefl] at this
      cases this
theorem sort_pw (L : List (List Int)) : (L.mergeSort leI).Pairwise (fun a b => leI a b = true) := List.pairwise_mergeSort leI_trans leI_total L
theorem sort_uniq {A B : List (List Int)} (p : A.Perm B) (ha : A.Pairwise (fun a b => leI a b = true)) (hb : B.Pairwise (fun a b => leI a b = true)) : A = B :=
  p.eq_of_pairwise (fun a b _ _ h1 h2 => leI_anti h1 h2) ha hb
theorem sort_perm {A B : List (List Int)} (p : A.Perm B) : A.mergeSort leI = B.mergeSort leI :=
  sort_uniq ((List.mergeSort_perm A leI).trans (p.trans (List.mergeSort_perm B leI).symm)) (sort_pw A) (sort_pw B)
theorem sort_filter (A : List (List Int)) (p : List Int → Bool) : (A.mergeSort leI).filter p = (A.filter p).mergeSort leI :=
  sort_uniq (((List.mergeSort_perm A leI).filter p).trans (List.mergeSort_perm (A.filter p) leI).symm) ((sort_pw A).filter p) (sort_pw _)
theorem sort_nil (r : List (List Int)) : ([] :: r).mergeSort leI = [] :: r.mergeSort leI :=
  sort_uniq ((List.mergeSort_perm ([] :: r) leI).trans (List.Perm.cons _ (List.mergeSort_perm r leI).symm)) (sort_pw _) (List.pairwise_cons.mpr ⟨fun g _ => leI_nil g, sort_pw r⟩)
/-! subsets -/
theorem sub_one {α : Type} {l : List α} {t : α} (h : l.Sublist [t]) : l = [] ∨ l = [t] := by
  cases h with
  | cons _ h => exact .inl (List.sublist_nil.mp h)
  | cons_cons _ h => exact .inr (by rw [List.sublist_nil.mp h])
theorem growF_mem {room : Int} {bank : List Int} {c : List Int} : ∀ i, i ≤ bank.length → (c ∈ growF room (bank.take i) ↔ c.Sublist (bank.take i) ∧ (c = [] ∨ (c.length : Int) ≤ room)) := by
  intro i
  induction i generalizing c with
  | zero =>
    intro _
    rw [List.take_zero]
    constructor
    · intro h
      have : c = [] := List.mem_singleton.mp h
      rw [this]; exact ⟨List.Sublist.refl _, .inl rfl⟩
    · rintro ⟨h, _⟩
      rw [List.sublist_nil.mp h]; exact List.mem_singleton.mpr rfl
  | succ i ih =>
    intro hi
    have ht : bank[i]? = some bank[i] := List.getElem?_eq_getElem (by omega)
    rw [growF_snoc ht, take_snoc ht]
    unfold stepF
    rw [List.mem_append]
    constructor
    · rintro (h | h)
      · obtain ⟨h1, h2⟩ := (ih (by omega)).mp h
        exact ⟨h1.trans (List.sublist_append_left _ _), h2⟩
      · obtain ⟨g, hg, rfl⟩ := List.mem_map.mp h
        obtain ⟨hg, hl⟩ := List.mem_filter.mp hg
        obtain ⟨h1, _⟩ := (ih (by omega)).mp hg
        refine ⟨h1.append (List.Sublist.refl _), .inr ?_⟩
        have := of_decide_eq_true hl
        rw [List.length_append, List.length_singleton]
        omega
    · rintro ⟨h1, h2⟩
      obtain ⟨l1, l2, rfl, h3, h4⟩ := List.sublist_append_iff.mp h1
      rcases sub_one h4 with rfl | rfl
      · left
        rw [List.append_nil] at h2 ⊢
        exact (ih (by omega)).mpr ⟨h3, h2⟩
      · right
        rcases h2 with h2 | h2
        · simp at h2
        · rw [List.length_append, List.length_singleton] at h2
          exact List.mem_map.mpr ⟨l1, List.mem_filter.mpr ⟨(ih (by omega)).mpr ⟨h3, .inr (by omega)⟩, decide_eq_true (by omega)⟩, rfl⟩
theorem growF_iff {room : Int} {bank c : List Int} : c ∈ growF room bank ↔ c.Sublist bank ∧ (c = [] ∨ (c.length : Int) ≤ room) := by
  have := growF_mem (room := room) (bank := bank) (c := c) bank.length (Nat.le_refl _)
  rwa [List.take_length] at this
theorem growF_nodup {room : Int} {bank : List Int} (hn : bank.Nodup) : ∀ i, i ≤ bank.length → (growF room (bank.take i)).Nodup := by
  intro i
  induction i with
  | zero => intro _; rw [List.take_zero]; show [([] : List Int)].Nodup; simp
  | succ i ih =>
    intro hi
    have ht : bank[i]? = some bank[i] := List.getElem?_eq_getElem (by omega)
    rw [growF_snoc ht]
    unfold stepF
    have nd := ih (by omega)
    refine List.nodup_append.mpr ⟨nd, ?_, fun a ha b hb e => ?_⟩
    · rw [List.nodup_iff_pairwise_ne, List.pairwise_map]
      have h2 := (List.nodup_iff_pairwise_ne.mp nd).filter (fun g => decide ((g.length : Int) < room))
      exact h2.imp fun {x y} h e => h (List.append_cancel_right e)
    · subst e
      obtain ⟨g, hg, e⟩ := List.mem_map.mp hb
      have h1 := ((growF_mem i (by omega)).mp ha).1
      have hm : bank[i] ∈ bank.take i := h1.subset (by rw [← e]; simp)
      obtain ⟨j, hj, ej⟩ := List.mem_iff_getElem.mp hm
      rw [List.getElem_take] at ej
      rw [List.length_take] at hj
      have := (List.nodup_iff_pairwise_ne.mp hn)
      have hlt : j < i := by omega
      exact (List.pairwise_iff_getElem.mp this j i (by omega) (by omega) hlt) ej
/-! bits -/
theorem bits_mod {x y : Int} {m : Nat} (h : ∀ i < m, x / 2 ^ i % 2 = y / 2 ^ i % 2) : bitsL x m = bitsL y m := by
  unfold bitsL
  refine List.filter_congr fun t ht => ?_
  have := mem_rng.mp ht
  rw [h t.toNat (by omega)]
theorem pow_add_bit {x : Int} {i m : Nat} (h : i < m) : (x + 2 ^ m) / 2 ^ i % 2 = x / 2 ^ i % 2 := by
  obtain ⟨k, rfl⟩ : ∃ k, m = k + 1 + i := ⟨m - i - 1, by omega⟩
  rw [Int.pow_add, Int.add_mul_ediv_right _ _ (Int.ne_of_gt (Int.pow_pos (by decide))), Int.pow_succ, Int.add_mul_emod_self_right]
theorem groups_mem {m : Nat} {c : List Int} : (∃ x : Nat, x < 2 ^ m ∧ bitsL x m = c) ↔ c.Sublist (rng m) := by
  constructor
  · rintro ⟨x, _, rfl⟩
    exact List.filter_sublist
  · induction m generalizing c with
    | zero =>
      intro h
      have : c = [] := List.sublist_nil.mp h
      exact ⟨0, by decide, by rw [this]; rfl⟩
    | succ m ih =>
      intro h
      rw [rng_succ] at h
      obtain ⟨l1, l2, rfl, h3, h4⟩ := List.sublist_append_iff.mp h
      obtain ⟨x, hx, e⟩ := ih h3
      have hp : ((2 ^ m : Nat) : Int) = (2 : Int) ^ m := by rw [Int.natCast_pow]; rfl
      have hx' : (x : Int) < 2 ^ m := by rw [← hp]; exact Int.ofNat_lt.mpr hx
      have e0 : (x : Int) / 2 ^ m = 0 := Int.ediv_eq_zero_of_lt (Int.natCast_nonneg _) hx'
      rcases sub_one h4 with rfl | rfl
      · refine ⟨x, by rw [Nat.pow_succ]; omega, ?_⟩
        rw [bitsL_succ, e, e0, if_neg (by decide)]
      · refine ⟨x + 2 ^ m, by rw [Nat.pow_succ]; omega, ?_⟩
        have ec : ((x + 2 ^ m : Nat) : Int) = (x : Int) + 2 ^ m := by rw [Int.natCast_add, hp]
        rw [ec, bitsL_succ, bits_mod (y := (x : Int)) (fun i hi => pow_add_bit hi), e]
        have e1 : ((x : Int) + 2 ^ m) / 2 ^ m % 2 = 1 := by
          rw [Int.add_ediv_of_dvd_right (Int.dvd_refl _), e0, Int.ediv_self (Int.ne_of_gt (Int.pow_pos (by decide)))]
          rfl
        rw [if_pos e1]
def decI (c : List Int) : Nat := (c.map fun t => 2 ^ t.toNat).sum
theorem dec_bits (x m : Nat) : decI (bitsL x m) = x % 2 ^ m := by
  induction m with
  | zero => simp [bitsL, rng, decI, Nat.mod_one]
  | succ m ih =>
    have hp : ((2 ^ m : Nat) : Int) = (2 : Int) ^ m := by rw [Int.natCast_pow]; rfl
    have e : ((x : Int) / 2 ^ m % 2 = 1) ↔ x / 2 ^ m % 2 = 1 := by
      rw [← hp]
      omega
    rw [bitsL_succ, Nat.pow_succ, Nat.mod_mul]
    unfold decI at ih ⊢
    rw [List.map_append, List.sum_append, ih]
    congr 1
    by_cases h : x / 2 ^ m % 2 = 1
    · rw [if_pos (e.mpr h), h]; simp
    · rw [if_neg (fun q => h (e.mp q)), show x / 2 ^ m % 2 = 0 by omega]; simp
theorem groups_nodup (m : Nat) : (groups m).Nodup := by
  unfold groups
  rw [List.nodup_iff_pairwise_ne, List.pairwise_map]
  have h := List.nodup_range (n := 2 ^ m)
  rw [List.nodup_iff_pairwise_ne, List.pairwise_iff_getElem] at h
  rw [List.pairwise_iff_getElem]
  intro i j hi hj hij e
  have d := congrArg decI e
  rw [dec_bits, dec_bits] at d
  simp only [List.getElem_range, List.length_range] at d hi hj
  rw [Nat.mod_eq_of_lt hi, Nat.mod_eq_of_lt hj] at d
  omega
theorem groups_iff {m : Nat} {c : List Int} : c ∈ groups m ↔ c.Sublist (rng m) := by
  rw [← groups_mem]
  unfold groups
  rw [List.mem_map]
  constructor
  · rintro ⟨x, hx, e⟩; exact ⟨x, List.mem_range.mp hx, e⟩
  · rintro ⟨x, hx, e⟩; exact ⟨x, List.mem_range.mpr hx, e⟩
/-! a group in order is a part of rng m -/
theorem climb_filter {m : Nat} : ∀ {k : Nat} {last : Int} {g : List Int}, climb m last g = true → -1 ≤ last → (k : Int) = last + 1 → ∀ n, k + n = m → g = ((List.range n).map fun i : Nat => ((k + i : Nat) : Int)).filter fun t => g.contains t := by
  intro k last g h hl hk n
  induction n generalizing k last g with
  | zero =>
    intro hn
    cases g with
    | nil => rfl
    | cons x r =>
      unfold climb at h
      simp only [Bool.and_eq_true, decide_eq_true_eq] at h
      omega
  | succ n ih =>
    intro hn
    have er : ((List.range (n + 1)).map fun i : Nat => ((k + i : Nat) : Int)) = (k : Int) :: ((List.range n).map fun i : Nat => (((k + 1) + i : Nat) : Int)) := by
      rw [List.range_succ_eq_map, List.map_cons, List.map_map]
      congr 1
      exact List.map_congr_left fun i _ => by show ((k + (i + 1) : Nat) : Int) = _; congr 1; omega
    rw [er]
    cases g with
    | nil => simp
    | cons x r =>
      have h' := h
      unfold climb at h
      simp only [Bool.and_eq_true, decide_eq_true_eq] at h
      by_cases hx : x = (k : Int)
      · subst hx
        rw [List.filter_cons, if_pos (by simp)]
        congr 1
        have q := ih (k := k + 1) h.2 (by omega) (by omega) (by omega)
        rw [q]
        refine List.filter_congr fun t ht => ?_
        obtain ⟨i, _, rfl⟩ := List.mem_map.mp ht
        rw [← q, List.contains_cons]
        have : ((((k + 1) + i : Nat) : Int) == (k : Int)) = false := by rw [beq_eq_false_iff_ne]; omega
        rw [this, Bool.false_or]
      · have nk : (x :: r).contains (k : Int) = false := by
          rw [← Bool.not_eq_true, List.contains_iff_mem]
          intro hm
          rcases List.mem_cons.mp hm with e | e
          · exact hx e.symm
          · have : ∀ {l : Int} {q : List Int}, climb m l q = true → ∀ t ∈ q, l < t := by
              intro l q
              induction q generalizing l with
              | nil => intro _ t ht; cases ht
              | cons y q ih =>
                intro hq t ht
                unfold climb at hq
                simp only [Bool.and_eq_true, decide_eq_true_eq] at hq
                rcases List.mem_cons.mp ht with rfl | ht
                · exact hq.1.1
                · have := ih hq.2 t ht; omega
            have := this h.2 _ e
            omega
        rw [List.filter_cons, if_neg (by rw [nk]; exact Bool.false_ne_true)]
        exact ih (k := k + 1) (last := (k : Int)) (by unfold climb; simp only [Bool.and_eq_true, decide_eq_true_eq]; exact ⟨⟨by omega, h.1.2⟩, h.2⟩) (by omega) (by omega) (by omega)
theorem climb_rng {m : Nat} {g : List Int} (h : climb m (-1) g = true) : g = (rng m).filter fun t => g.contains t := by
  have := climb_filter (k := 0) h (by decide) (by decide) m (by omega)
  have e : (List.range m).map (fun i : Nat => ((0 + i : Nat) : Int)) = rng m := List.map_congr_left fun i _ => by rw [Nat.zero_add]
  rw [e] at this
  exact this
theorem climb_sub {m : Nat} {g : List Int} (h : climb m (-1) g = true) : g.Sublist (rng m) := by rw [climb_rng h]; exact List.filter_sublist
theorem rest_sub {m : Nat} {g : List Int} : (restOf g m).Sublist (rng m) := List.filter_sublist
theorem sub_self {m : Nat} {g : List Int} (h : g.Sublist (rng m)) : g = (rng m).filter fun t => g.contains t := by
  have nd := (rng_nodup m)
  have h1 : g.Sublist ((rng m).filter fun t => g.contains t) := by
    have := h.filter (fun t => g.contains t)
    rwa [List.filter_eq_self.mpr (fun a ha => by simpa using ha)] at this
  have h2 : ((rng m).filter fun t => g.contains t).Perm g := (List.perm_ext_iff_of_nodup (nd.filter _) (nd.sublist h)).mpr fun a => by
    rw [List.mem_filter]
    constructor
    · rintro ⟨_, h⟩; simpa using h
    · intro ha; exact ⟨h.subset ha, by simpa using ha⟩
  exact h1.eq_of_length_le (Nat.le_of_eq h2.length_eq)
theorem sub_iff {m : Nat} {c b : List Int} (hb : b.Sublist (rng m)) : c.Sublist b ↔ c.Sublist (rng m) ∧ ∀ t ∈ c, t ∈ b := by
  constructor
  · intro h; exact ⟨h.trans hb, fun t ht => h.subset ht⟩
  · rintro ⟨h1, h2⟩
    have := h1.filter (fun t => b.contains t)
    rw [List.filter_eq_self.mpr (fun a ha => by simpa using h2 a ha), ← sub_self hb] at this
    exact this
/-! what the law reckons -/
def behind (s : List Int × Int) (c : List Int) (m : Nat) : List Int × Int := if s.2 = 0 then (s.1.filter (fun t => !c.contains t), 1) else ((rng m).filter (fun t => s.1.contains t || c.contains t), 0)
def lawBank (m : Nat) (s : List Int × Int) : List Int := if s.2 = 1 then restOf s.1 m else s.1
def Nt.lawLets (n : Nt) (s : List Int × Int) (c : List Int) : Bool :=
  (decide (1 ≤ (c.length : Int)) && decide ((c.length : Int) ≤ n.room)) && decide (((c.filter fun t => !(lawBank n.things.length s).contains t).length : Int) = 0) && (decide (0 < ((c.filter (rowsAt n.things)).length : Int)) && Fy.good n.quarrels (behind s c n.things.length).1 n.things.length)
def Nt.lawCrews (n : Nt) (s : List Int × Int) : List (List Int) := ((groups n.things.length).filter (n.lawLets s)).mergeSort leI
theorem bank_eq {m : Nat} {s : List Int × Int} (h : standOk m s = true) : lawBank m s = bankOf m s := by
  unfold standOk at h
  rw [Bool.and_eq_true] at h
  have h2 := of_decide_eq_true h.2
  unfold lawBank bankOf
  rcases h2 with e | e
  · rw [if_neg (by omega), if_pos e]
  · rw [if_pos e, if_neg (by omega)]
theorem bank_sub {m : Nat} {s : List Int × Int} (h : standOk m s = true) : (bankOf m s).Sublist (rng m) := by
  unfold standOk at h
  rw [Bool.and_eq_true] at h
  unfold bankOf
  split
  · exact climb_sub h.1
  · exact rest_sub
theorem leZ_total (g k : Int) : (leZ g k || leZ k g) = true := by simp [leZ]; omega
theorem leZ_trans (a b c : Int) (h1 : leZ a b = true) (h2 : leZ b c = true) : leZ a c = true := by simp [leZ] at *; omega
theorem rng_pw (m : Nat) : (rng m).Pairwise (fun a b => leZ a b = true) := by
  unfold rng
  rw [List.pairwise_map]
  have : (List.range m).Pairwise (· < ·) := List.pairwise_lt_range
  exact this.imp fun {a b} h => by simp [leZ]; omega
/-- the standing behind a crossing -/
theorem led_eq {m : Nat} {s : List Int × Int} {c : List Int} (h : standOk m s = true) (hc : c.Sublist (bankOf m s)) : ledOver s c = behind s c m := by
  unfold ledOver behind
  by_cases e : s.2 = 0
  · rw [if_pos e, if_pos e]
  · rw [if_neg e, if_neg e]
    have hb : bankOf m s = restOf s.1 m := by unfold bankOf; rw [if_neg e]
    rw [hb] at hc
    have hs : s.1.Sublist (rng m) := by unfold standOk at h; rw [Bool.and_eq_true] at h; exact climb_sub h.1
    have ndr := rng_nodup m
    have hp : (s.1 ++ c).Perm ((rng m).filter fun t => s.1.contains t || c.contains t) := by
      refine (List.perm_ext_iff_of_nodup ?_ (ndr.filter _)).mpr fun a => ?_
      · refine List.nodup_append.mpr ⟨ndr.sublist hs, ndr.sublist (hc.trans rest_sub), fun a ha b hb' e2 => ?_⟩
        subst e2
        have := (List.mem_filter.mp (hc.subset hb')).2
        simp at this
        exact this ha
      · rw [List.mem_append, List.mem_filter]
        simp only [Bool.or_eq_true, List.contains_iff_mem]
        constructor
        · rintro (ha | ha)
          · exact ⟨hs.subset ha, .inl ha⟩
          · exact ⟨rest_sub.subset (hc.subset ha), .inr ha⟩
        · exact fun q => q.2
    have q : (s.1 ++ c).mergeSort leZ = (rng m).filter fun t => s.1.contains t || c.contains t :=
      ((List.mergeSort_perm _ leZ).trans hp).eq_of_pairwise (fun a b _ _ h1 h2 => by simp [leZ] at h1 h2; omega) (List.pairwise_mergeSort leZ_trans leZ_total _) ((rng_pw m).filter _)
    rw [q]
theorem crews_eq {n : Nt} {s : List Int × Int} (h : standOk n.things.length s = true) : n.crews s = n.lawCrews s := by
  have hb := bank_sub h
  have ndb := (rng_nodup n.things.length).sublist hb
  obtain ⟨r, hr⟩ := growF_head (room := n.room) (bankOf n.things.length s) []
  have hr' : growF n.room (bankOf n.things.length s) = [] :: r := hr
  have nd : (growF n.room (bankOf n.things.length s)).Nodup := by
    have := growF_nodup (room := n.room) ndb _ (Nat.le_refl _)
    rwa [List.take_length] at this
  rw [hr', List.nodup_cons] at nd
  unfold Nt.crews Nt.lawCrews groupsOf
  rw [hr', sort_nil, List.drop_one, List.tail_cons, sort_filter]
  refine sort_perm ((List.perm_ext_iff_of_nodup (nd.2.filter _) ((groups_nodup _).filter _)).mpr fun c => ?_)
  rw [List.mem_filter, List.mem_filter, groups_iff]
  have mr : c ∈ r ↔ c ≠ [] ∧ c.Sublist (bankOf n.things.length s) ∧ (c.length : Int) ≤ n.room := by
    have q := growF_iff (room := n.room) (bank := bankOf n.things.length s) (c := c)
    rw [hr', List.mem_cons] at q
    constructor
    · intro hc
      have ne : c ≠ [] := fun e => nd.1 (by rw [← e]; exact hc)
      obtain ⟨q1, q2⟩ := q.mp (.inr hc)
      rcases q2 with q2 | q2
      · exact absurd q2 ne
      · exact ⟨ne, q1, q2⟩
    · rintro ⟨ne, h1, h2⟩
      rcases q.mpr ⟨h1, .inr h2⟩ with e | e
      · exact absurd e ne
      · exact e
  rw [mr, sub_iff hb]
  have ef : (((c.filter fun t => !(lawBank n.things.length s).contains t).length : Int) = 0) ↔ ∀ t ∈ c, t ∈ bankOf n.things.length s := by
    rw [bank_eq h]
    have : ((c.filter fun t => !(bankOf n.things.length s).contains t).length : Int) = 0 ↔ c.filter (fun t => !(bankOf n.things.length s).contains t) = [] := by
      rw [← List.length_eq_zero_iff]; omega
    rw [this, List.filter_eq_nil_iff]
    simp
  have el : (1 ≤ (c.length : Int)) ↔ c ≠ [] := by
    rw [← List.length_pos_iff]; omega
  constructor
  · rintro ⟨⟨h1, ⟨h2, h3⟩, h4⟩, h5⟩
    refine ⟨h2, ?_⟩
    unfold Nt.lets canRow Nt.good at h5
    unfold Nt.lawLets
    rw [led_eq h ((sub_iff hb).mpr ⟨h2, h3⟩)] at h5
    rw [h5, decide_eq_true (el.mpr h1), decide_eq_true h4, decide_eq_true (ef.mpr h3)]
    rfl
  · rintro ⟨h2, h5⟩
    unfold Nt.lawLets at h5
    rw [Bool.and_eq_true, Bool.and_eq_true, Bool.and_eq_true] at h5
    obtain ⟨⟨⟨h1, h4⟩, h3⟩, h6⟩ := h5
    have h3' := ef.mp (of_decide_eq_true h3)
    refine ⟨⟨el.mp (of_decide_eq_true h1), ⟨h2, h3'⟩, of_decide_eq_true h4⟩, ?_⟩
    unfold Nt.lets canRow Nt.good
    rw [led_eq h ((sub_iff hb).mpr ⟨h2, h3'⟩)]
    exact h6

end Fy

namespace Fy
open PySem PySem.Spec PyProof.Rows L2
/-! ### crossings: promises and readings -/
theorem atI_map {α : Type} {f : α → PyData} {xs : List α} {d : α} {t : Int} (h0 : 0 ≤ t) (h1 : t < xs.length) : atI (xs.map f) t = some (f (xs.getD t.toNat d)) := by
  have e : t = ((t.toNat : Nat) : Int) := by omega
  have hk : t.toNat < xs.length := by omega
  rw [e]
  refine atI_nat ?_
  rw [List.getElem?_map, List.getElem?_eq_getElem hk, List.getD_eq_getElem?_getD, show ((t.toNat : Int)).toNat = t.toNat by omega, List.getElem?_eq_getElem hk]
  rfl
/-- a night and a datum -/
def spNS (K : PySem.W.Frag) {β : Type} (enc : β → PyData) (dom : Nt → β → Prop) (out : Nt → β → PyData) : Sp := fun vs H Q _ => ∃ v n u b, vs = [v, u] ∧ NightAt K H v n ∧ Dp K H u (enc b) ∧ dom n b ∧ RetR (fun v H' => Dp K H' v (out n b)) H Q
def few (n : Nt) : Prop := n.things.length ≤ 1000
def spPeaceful (K : PySem.W.Frag) : Sp := spNS K eS (fun n _ => few n) (fun n s => .bool (n.good s))
def spBeside (K : PySem.W.Frag) : Sp := spNS K eS (fun n _ => few n) (fun n s => eI (bankOf n.things.length s))
def spCanRow (K : PySem.W.Frag) : Sp := spNS K eI (fun n c => few n ∧ inThings n.things.length c ∧ c.length ≤ 1000) (fun n c => .bool (canRow n.things c))
def spLed (K : PySem.W.Frag) : Sp := spP K (fun x : (List Int × Int) × List Int => x.1.1.length ≤ 1000 ∧ x.2.length ≤ 1000) (fun x => [eS x.1, eI x.2]) (fun x => eS (ledOver x.1 x.2))
def spGroupsOf (K : PySem.W.Frag) : Sp := spL K (fun x : List Int × Int => x.1.length ≤ 6) (fun x => [eI x.1, .int x.2]) (fun x => (groupsOf x.1 x.2).map eI)
def spLook (K : PySem.W.Frag) : Sp := fun vs H Q E => ∃ v n u s, vs = [v, u] ∧ NightAt K H v n ∧ Dp K H u (eS s) ∧ few n ∧ (standOk n.things.length s = true → ∀ H', Ex H H' → Q .non H') ∧ (standOk n.things.length s = false → ∀ H', Ex H H' → E (.ref (He.ga K "NoStanding")) none H')
def spGoodX (K : PySem.W.Frag) : Sp := fun vs H Q E => ∃ v n u s, vs = [v, u] ∧ NightAt K H v n ∧ Dp K H u (eS s) ∧ few n ∧ (standOk n.things.length s = true → ∀ H', Ex H H' → Q (.bl (n.good s)) H') ∧ (standOk n.things.length s = false → ∀ H', Ex H H' → E (.ref (He.ga K "NoStanding")) none H')
def spStart (K : PySem.W.Frag) : Sp := fun vs H Q E => ∃ v n u s, vs = [v, u] ∧ NightAt K H v n ∧ Dp K H u (eS s) ∧ few n ∧ (standOk n.things.length s = true → n.good s = true → ∀ H', Ex H H' → Q .non H') ∧
  (standOk n.things.length s = false → ∀ H', Ex H H' → E (.ref (He.ga K "NoStanding")) none H') ∧ (standOk n.things.length s = true → n.good s = false → ∀ H', Ex H H' → E (.ref (He.ga K "BadStart")) none H')
def spCrews (K : PySem.W.Frag) : Sp := fun vs H Q E => ∃ v n u s, vs = [v, u] ∧ NightAt K H v n ∧ Dp K H u (eS s) ∧ n.things.length ≤ 6 ∧ (standOk n.things.length s = true → n.good s = true → RetR (fun v H' => NewL K H v H' ((n.crews s).map eI)) H Q) ∧
  (standOk n.things.length s = false → ∀ H', Ex H H' → E (.ref (He.ga K "NoStanding")) none H') ∧ (standOk n.things.length s = true → n.good s = false → ∀ H', Ex H H' → E (.ref (He.ga K "BadStart")) none H')
section
variable {K : PySem.W.Frag} {σ : L2.St} {H : Hp} {ta tb tc : TE} {E : XK} {i j : Nat} {v u : V} {n : Nt} {s : List Int × Int} {c : List Int} {D : Ends} {tz : TS}
theorem ed_ns {β : Type} {enc : β → PyData} {dom : Nt → β → Prop} {out : Nt → β → PyData} {b : β} (hi : σ[i]? = some (some v)) (hN : NightAt K H v n) (hb : EvD K tb σ H (enc b)) (hd : dom n b) : EvD K (tCall (spNS K enc dom out) [] E (tCons (tVar i) (tCons tb tNil))) σ H (out n b) := fun H1 x Q q =>
  ⟨v, hi, hb H1 x _ fun u H2 x2 h2 => ⟨v, n, u, b, rfl, hN.mono (x.trans x2), h2, hd, fun w H3 x3 h3 => q w H3 (x2.trans x3) h3⟩⟩
theorem ed_peaceful (hi : σ[i]? = some (some v)) (hN : NightAt K H v n) (hb : EvD K tb σ H (eS s)) (hd : few n) : EvD K (tCall (spPeaceful K) [] E (tCons (tVar i) (tCons tb tNil))) σ H (.bool (n.good s)) := ed_ns hi hN hb hd
theorem ed_beside (hi : σ[i]? = some (some v)) (hN : NightAt K H v n) (hb : EvD K tb σ H (eS s)) (hd : few n) : EvD K (tCall (spBeside K) [] E (tCons (tVar i) (tCons tb tNil))) σ H (eI (bankOf n.things.length s)) := ed_ns hi hN hb hd
theorem ed_canRow (hi : σ[i]? = some (some v)) (hN : NightAt K H v n) (hb : EvD K tb σ H (eI c)) (hd : few n ∧ inThings n.things.length c ∧ c.length ≤ 1000) : EvD K (tCall (spCanRow K) [] E (tCons (tVar i) (tCons tb tNil))) σ H (.bool (canRow n.things c)) := ed_ns hi hN hb hd
theorem ed_led (h1 : EvD K ta σ H (eS s)) (h2 : EvD K tb σ H (eI c)) (h0 : s.1.length ≤ 1000 ∧ c.length ≤ 1000) : EvD K (tCall (spLed K) [] E (tCons ta (tCons tb tNil))) σ H (eS (ledOver s c)) :=
  ed_call (x := (s, c)) h0 (eds_cons h1 (eds_cons h2 eds_nil))
theorem en_groupsOf {r : Int} (h1 : EvD K ta σ H (eI c)) (h2 : EvD K tb σ H (.int r)) (h0 : c.length ≤ 6) : EvN K (tCall (spGroupsOf K) [] E (tCons ta (tCons tb tNil))) σ H ((groupsOf c r).map eI) :=
  en_call (x := (c, r)) h0 (eds_cons h1 (eds_cons h2 eds_nil))
theorem ed_goodX (hi : σ[i]? = some (some v)) (hN : NightAt K H v n) (hb : EvD K tb σ H (eS s)) (hd : few n) (ok : standOk n.things.length s = true) : EvD K (tCall (spGoodX K) [] E (tCons (tVar i) (tCons tb tNil))) σ H (.bool (n.good s)) := fun H1 x Q q =>
  ⟨v, hi, hb H1 x _ fun u H2 x2 h2 => ⟨v, n, u, s, rfl, hN.mono (x.trans x2), h2, hd, fun _ H3 x3 => q _ H3 (x2.trans x3) (.bl _), fun c => by rw [ok] at c; cases c⟩⟩
theorem en_crews (hi : σ[i]? = some (some v)) (hN : NightAt K H v n) (hb : EvD K tb σ H (eS s)) (hd : n.things.length ≤ 6) (ok : standOk n.things.length s = true) (gd : n.good s = true) : EvN K (tCall (spCrews K) [] E (tCons (tVar i) (tCons tb tNil))) σ H ((n.crews s).map eI) := fun H1 x Q q =>
  ⟨v, hi, hb H1 x _ fun u H2 x2 h2 => ⟨v, n, u, s, rfl, hN.mono (x.trans x2), h2, hd, fun _ _ w H3 x3 h3 => q w H3 (x2.trans x3) (h3.back x2), fun c => absurd (ok.symm.trans c) (by decide), fun _ c => absurd (gd.symm.trans c) (by decide)⟩⟩
theorem w_callSv {sp : Sp} {F : L2.St → XK} (hi : σ[i]? = some (some v)) (hj : σ[j]? = some (some u)) (k : sp [v, u] H (fun _ H2 => tz D σ H2) (F σ)) : tSeq (tDrop (tCallS sp F (tCons (tVar i) (tCons (tVar j) tNil)))) tz D σ H := ⟨v, hi, u, hj, k⟩
variable {tr : TA} {d : PyData} {K' : PySem.W.Frag}
theorem i_Peaceful (h : EvD K (tCall (spPeaceful K') [] E tr) σ H d) : EvD K (tCall (spPeaceful K') [] E tr) σ H d := h
theorem i_Beside (h : EvD K (tCall (spBeside K') [] E tr) σ H d) : EvD K (tCall (spBeside K') [] E tr) σ H d := h
theorem i_CanRow (h : EvD K (tCall (spCanRow K') [] E tr) σ H d) : EvD K (tCall (spCanRow K') [] E tr) σ H d := h
theorem i_Led (h : EvD K (tCall (spLed K') [] E tr) σ H d) : EvD K (tCall (spLed K') [] E tr) σ H d := h
theorem i_GroupsOf (h : EvD K (tCall (spGroupsOf K') [] E tr) σ H d) : EvD K (tCall (spGroupsOf K') [] E tr) σ H d := h
theorem i_GoodX (h : EvD K (tCall (spGoodX K') [] E tr) σ H d) : EvD K (tCall (spGoodX K') [] E tr) σ H d := h
theorem i_Crews (h : EvD K (tCall (spCrews K') [] E tr) σ H d) : EvD K (tCall (spCrews K') [] E tr) σ H d := h
end

end Fy

namespace Fy
open PySem PySem.Spec PyProof.Rows L2
end Fy
local macro_rules | `(tactic| walk_at "na") => `(tactic| first | assumption | (refine Fy.NightAt.mono ?_ (by assumption); walk_at "ex"))
local macro_rules | `(tactic| walk_at "ed") => `(tactic| ((with_reducible refine' Fy.i_Things ?hh); (case hh => exact Fy.EvN.toD (Fy.en_things rfl (by walk_at "na")))))
local macro_rules | `(tactic| walk_at "ed") => `(tactic| ((with_reducible refine' Fy.i_Quarrels ?hh); (case hh => exact Fy.EvN.toD (Fy.en_quarrels rfl (by walk_at "na")))))
local macro_rules | `(tactic| walk_at "ed") => `(tactic| ((with_reducible refine' Fy.i_Room ?hh); (case hh => exact Fy.ed_room rfl (by walk_at "na"))))
local macro_rules | `(tactic| walk_at "ed") => `(tactic| ((with_reducible refine' Fy.i_Begins ?hh); (case hh => exact Fy.ed_begins rfl (by walk_at "na") (by walk_at "side"))))
local macro_rules | `(tactic| walk_at "ed") => `(tactic| ((with_reducible refine' Fy.i_Ends ?hh); (case hh => exact Fy.ed_ends rfl (by walk_at "na"))))
local macro_rules | `(tactic| walk_at "ed") => `(tactic| ((with_reducible refine' Fy.i_Peace ?hh); (case hh => exact Fy.ed_npeace rfl (by walk_at "na") (by walk_at "ed"))))
local macro_rules | `(tactic| walk_at "ed") => `(tactic| ((with_reducible refine' Fy.i_Over ?hh); (case hh => exact Fy.ed_nover rfl (by walk_at "na") (by walk_at "side") (by walk_at "ed"))))
local macro_rules | `(tactic| walk_at "ed") => `(tactic| ((with_reducible refine' Fy.i_TupRg ?hh); (case hh => exact Fy.ed_tupRg (by walk_at "ed") (by walk_at "side"))))


namespace Fy
open PySem PySem.Spec PyProof.Rows L2
end Fy
local macro_rules | `(tactic| walk_at "rd") => `(tactic| ((with_reducible refine' Fy.i_CatA ?hh); (case hh => exact Fy.rd_catA (by walk_at "side"))))
local macro_rules | `(tactic| walk_at "ed") => `(tactic| ((with_reducible refine' Fy.i_SortTup ?hh); (case hh => exact Fy.EvN.toD (Fy.en_cb (by walk_at "eds") Fy.cn_sortTup))))
local macro_rules | `(tactic| walk_at "ed") => `(tactic| ((with_reducible refine' Fy.i_Peaceful ?hh); (case hh => exact Fy.ed_peaceful rfl (by walk_at "na") (by walk_at "ed") (by walk_at "side"))))
local macro_rules | `(tactic| walk_at "ed") => `(tactic| ((with_reducible refine' Fy.i_Beside ?hh); (case hh => exact Fy.ed_beside rfl (by walk_at "na") (by walk_at "ed") (by walk_at "side"))))
local macro_rules | `(tactic| walk_at "ed") => `(tactic| ((with_reducible refine' Fy.i_CanRow ?hh); (case hh => exact Fy.ed_canRow rfl (by walk_at "na") (by walk_at "ed") (by walk_at "side"))))
local macro_rules | `(tactic| walk_at "ed") => `(tactic| ((with_reducible refine' Fy.i_Led ?hh); (case hh => exact Fy.ed_led (by walk_at "ed") (by walk_at "ed") (by walk_at "side"))))
local macro_rules | `(tactic| walk_at "ed") => `(tactic| ((with_reducible refine' Fy.i_GroupsOf ?hh); (case hh => exact Fy.EvN.toD (Fy.en_groupsOf (by walk_at "ed") (by walk_at "ed") (by walk_at "side")))))
local macro_rules | `(tactic| walk_at "ed") => `(tactic| ((with_reducible refine' Fy.i_GoodX ?hh); (case hh => exact Fy.ed_goodX rfl (by walk_at "na") (by walk_at "ed") (by walk_at "side") (by walk_at "side"))))
local macro_rules | `(tactic| walk_at "ed") => `(tactic| ((with_reducible refine' Fy.i_Crews ?hh); (case hh => exact Fy.EvN.toD (Fy.en_crews rfl (by walk_at "na") (by walk_at "ed") (by walk_at "side") (by walk_at "side") (by walk_at "side")))))

namespace Fy
open PySem PySem.Spec PyProof.Rows L2
section
variable {P : Program} {w : World} {K : PySem.W.Frag} {mg : Str → Option Value} {base : Heap}
theorem sc_look_at : FnScope ["night", "standing", "last", "thing"] ["night", "standing"] (defScope s_look_at) := ⟨rfl, rfl, rfl, by decide +kernel, rfl, by decide +kernel, by decide +kernel⟩
theorem ok_look_at (T : Tx K mg) : Has P w K mg base (L2N.CX P w) 2 "look_at" ["night", "standing"] (spLook K) := by
  obtain ⟨fd, F⟩ := T.f_look_at
  have N_things := ok_Night_things (P := P) (w := w) (base := base) T
  refine ⟨T.g_look_at, fd, F.ok sc_look_at (fun vs H Q E h => ?_) (fun cdv A outer s H vs Q E hr h => ⟨_, (pss_cons (ps_set (i := 2) sc_look_at.nd rfl (.inl rfl) (pe_un un_neg pe_int))
      (pss_cons (ps_for (passes_of rfl) rfl (pi_tup (pe_ix (r := rIxT K) ix_tup (pv 1) pe_int (fun _ _ => rfl))) (pg_name (i := 3) sc_look_at.nd rfl (.inl rfl)) (pss_cons (ps_if (PW.pt (pw_or (pt_cmpR op_le (pv 3) (pv 2) (nomark _)) (pw_or1 (pt_cmpR op_ge (pv 3) (pe_callB (r := rLenQ K) call_len_seq (by rfl) T.b_len (by decide +kernel) (pa_cons (pe_nm0 (C := He.ga K "Night") (pv 0) N_things (hr.mono (by decide)) pass0) pa_nil)) (nomark _))))) (pss_one (ps_raiseOwnN rfl (L2N.takes_of rfl rfl rfl rfl) T.x_NoStanding T.g_NoStanding rfl)) pss_nil)
      (pss_one (ps_set (i := 2) sc_look_at.nd rfl (.inl rfl) (pv 3)))))
      (pss_one (ps_if (PW.pt (pw_and (pt_cmpR op_ne (pe_ix (r := rIxT K) ix_tup (pv 1) pe_int (fun _ _ => rfl)) pe_int (nomark _)) (pw_and1 (pt_cmpR op_ne (pe_ix (r := rIxT K) ix_tup (pv 1) pe_int (fun _ _ => rfl)) pe_int (nomark _))))) (pss_one (ps_raiseOwnN rfl (L2N.takes_of rfl rfl rfl rfl) T.x_NoStanding T.g_NoStanding rfl)) pss_nil)))), ?_⟩), F.bindsN fun _ _ _ _ _ _ us hl => match us, hl with | [_, _], _ => rfl, F.kp⟩
  · obtain ⟨v, n, u, s, rfl, _⟩ := h
    rfl
  · obtain ⟨v, n, u, s, rfl, N, hu, hf, kq, ke⟩ := h
    have hlen : n.things.length ≤ 1000 := hf
    refine' w_asg (K := K) (d := .int (-1)) ?t (fun v1 H1 x1 h1 => ?_)
    case t => walk_at "ed"
    cases dp_int.mp h1
    refine' w_forTx (K := K) (ds := s.1.map .int) ?tl (fun i σ H' => ∃ y l, σ = [some v, some u, some (.int l), y] ∧ climb n.things.length (-1) s.1 = climb n.things.length l (s.1.drop i)) (fun H2 x2 => ⟨none, -1, rfl, by rw [List.drop_zero]⟩) ?_ ?_
    case tl =>
      refine (?tq : EvD K _ _ _ (eI s.1))
      walk_at "ed"
    · rintro i d x σ H' hd x2 hx ⟨y, l, rfl, hc⟩
      obtain ⟨t, ht, rfl⟩ := get_map hd
      cases dp_int.mp hx
      have hdr : s.1.drop i = t :: s.1.drop (i + 1) := by
        obtain ⟨h1, h2⟩ := List.getElem?_eq_some_iff.mp ht
        rw [List.drop_eq_getElem_cons h1, h2]
      rw [hdr] at hc
      have hc' : climb n.things.length (-1) s.1 = (decide (l < t ∧ t < (n.things.length : Int)) && climb n.things.length t (s.1.drop (i + 1))) := hc
      show tSeq _ _ _ _ _
      refine' w_when K (b := decide (t ≤ l) || decide ((((n.things.map eT).length : Nat) : Int) ≤ t)) ?tt (fun hb H3 x3 => ?_) (fun hb H3 x3 => ?_)
      case tt => walk_at "et"
      · refine ke ?_ H3 ((x1.trans x2).trans x3)
        unfold standOk
        rw [hc', decide_eq_false (by rw [List.length_map] at hb; simp at hb; omega)]
        rfl
      · refine' w_asg1 (K := K) (d := .int t) ?ta (fun v4 H4 x4 h4 => ?_)
        case ta => walk_at "ed"
        cases dp_int.mp h4
        refine ⟨x3.trans x4, _, _, rfl, ?_⟩
        rw [hc', decide_eq_true (by rw [List.length_map] at hb; simp at hb; omega), Bool.true_and]
    · rintro σ H' x2 ⟨y, l, rfl, hc⟩
      rw [List.length_map, List.drop_length] at hc
      have hc' : climb n.things.length (-1) s.1 = true := hc
      refine' w_when1 K (b := !decide (s.2 = 0) && !decide (s.2 = 1)) ?tt (fun hb H3 x3 => ?_) (fun hb H3 x3 => ?_)
      case tt => walk_at "et"
      · refine ke ?_ H3 ((x1.trans x2).trans x3)
        unfold standOk
        rw [decide_eq_false (by simp at hb; omega), Bool.and_false]
      · refine kq ?_ H3 ((x1.trans x2).trans x3)
        unfold standOk
        rw [hc', decide_eq_true (by simp at hb; omega)]
        rfl
theorem sc_peaceful : FnScope ["night", "standing"] ["night", "standing"] (defScope s_peaceful) := ⟨rfl, rfl, rfl, by decide +kernel, rfl, by decide +kernel, by decide +kernel⟩
theorem ok_peaceful (T : Tx K mg) : Has P w K mg base CX0 2 "peaceful" ["night", "standing"] (spPeaceful K) := by
  obtain ⟨fd, F⟩ := T.f_peaceful
  have N_peace := ok_Night_peace (P := P) (w := w) (base := base) T
  have N_over_there := ok_Night_over_there (P := P) (w := w) (base := base) T
  refine ⟨T.g_peaceful, fd, F.ok sc_peaceful (fun vs H Q E h => ?_) (fun cdv A outer s H vs Q E hr h => ⟨_, PSs.nox (pss_one (ps_ret (pe_and (pe_nm (C := He.ga K "Night") (pv 0) N_peace (hr.mono (by decide)) pass0 (pa_cons (pe_ix (r := rIxT K) ix_tup (pv 1) pe_int (fun _ _ => rfl)) pa_nil)) (pe_one (pe_nm (C := He.ga K "Night") (pv 0) N_peace (hr.mono (by decide)) pass0 (pa_cons (pe_nm (C := He.ga K "Night") (pv 0) N_over_there (hr.mono (by decide)) pass0 (pa_cons (pe_ix (r := rIxT K) ix_tup (pv 1) pe_int (fun _ _ => rfl)) pa_nil)) pa_nil)))))), ?_⟩), F.bindsN fun _ _ _ _ _ _ us hl => match us, hl with | [_, _], _ => rfl, F.kp⟩
  · obtain ⟨v, n, u, s, rfl, _⟩ := h
    rfl
  · obtain ⟨v, n, u, s, rfl, N, hu, hf, k⟩ := h
    have hlen : n.things.length ≤ 1000 := hf
    refine' w_ret1 (K := K) (d := .bool (n.good s)) ?t (fun v4 H4 x4 h4 => k v4 H4 x4 h4)
    case t =>
      refine (?tq : EvD K _ _ _ (.bool (peace n.quarrels s.1 && peace n.quarrels (restOf s.1 n.things.length))))
      walk_at "ed"
theorem sc_good : FnScope ["night", "standing"] ["night", "standing"] (defScope s_good) := ⟨rfl, rfl, rfl, by decide +kernel, rfl, by decide +kernel, by decide +kernel⟩
theorem ok_good (T : Tx K mg) : Has P w K mg base (L2N.CX P w) 3 "good" ["night", "standing"] (spGoodX K) := by
  obtain ⟨fd, F⟩ := T.f_good
  have G_peaceful := ok_peaceful (P := P) (w := w) (base := base) T
  have G_look_at := ok_look_at (P := P) (w := w) (base := base) T
  refine ⟨T.g_good, fd, F.ok sc_good (fun vs H Q E h => ?_) (fun cdv A outer s H vs Q E hr h => ⟨_, (pss_cons (ps_expr (pe_fxN G_look_at (hr.mono (by decide)) rfl (L2N.takes_of rfl rfl rfl rfl) (pa_cons (pv 0) (pa_cons (pv 1) pa_nil))))
      (pss_one (ps_ret (pe_f G_peaceful (hr.mono (by decide)) rfl (pa_cons (pv 0) (pa_cons (pv 1) pa_nil)))))), ?_⟩), F.bindsN fun _ _ _ _ _ _ us hl => match us, hl with | [_, _], _ => rfl, F.kp⟩
  · obtain ⟨v, n, u, s, rfl, _⟩ := h
    rfl
  · obtain ⟨v, n, u, s, rfl, N, hu, hf, kq, ke⟩ := h
    refine w_callSv rfl rfl ⟨v, n, u, s, rfl, N, hu, hf, fun ok H1 x1 => ?_, fun ok H1 x1 => ke ok H1 x1⟩
    refine' w_ret1 (K := K) (d := .bool (n.good s)) ?t (fun v4 H4 x4 h4 => ?_)
    case t => walk_at "ed"
    cases dp_bl.mp h4
    exact kq ok H4 (x1.trans x4)
theorem sc_look_at_start : FnScope ["night", "standing"] ["night", "standing"] (defScope s_look_at_start) := ⟨rfl, rfl, rfl, by decide +kernel, rfl, by decide +kernel, by decide +kernel⟩
theorem ok_look_at_start (T : Tx K mg) : Has P w K mg base (L2N.CX P w) 4 "look_at_start" ["night", "standing"] (spStart K) := by
  obtain ⟨fd, F⟩ := T.f_look_at_start
  have G_good := ok_good (P := P) (w := w) (base := base) T
  refine ⟨T.g_look_at_start, fd, F.ok sc_look_at_start (fun vs H Q E h => ?_) (fun cdv A outer s H vs Q E hr h => ⟨_, (pss_one (ps_if (pt_not (pt_val (pe_fxN G_good (hr.mono (by decide)) rfl (L2N.takes_of rfl rfl rfl rfl) (pa_cons (pv 0) (pa_cons (pv 1) pa_nil))))) (pss_one (ps_raiseOwnN rfl (L2N.takes_of rfl rfl rfl rfl) T.x_BadStart T.g_BadStart rfl)) pss_nil)), ?_⟩), F.bindsN fun _ _ _ _ _ _ us hl => match us, hl with | [_, _], _ => rfl, F.kp⟩
  · obtain ⟨v, n, u, s, rfl, _⟩ := h
    rfl
  · obtain ⟨v, n, u, s, rfl, N, hu, hf, kq, ke, kb⟩ := h
    refine ⟨_, rfl, _, rfl, v, n, u, s, rfl, N, hu, hf, fun ok H1 x1 => ⟨_, rfl, ?_⟩, fun ok H1 x1 => ke ok H1 x1⟩
    cases hg : n.good s with
    | true => exact kq ok hg H1 x1
    | false => exact kb ok hg H1 x1
theorem sc_beside_boat : FnScope ["night", "standing"] ["night", "standing"] (defScope s_beside_boat) := ⟨rfl, rfl, rfl, by decide +kernel, rfl, by decide +kernel, by decide +kernel⟩
theorem ok_beside_boat (T : Tx K mg) : Has P w K mg base CX0 2 "beside_boat" ["night", "standing"] (spBeside K) := by
  obtain ⟨fd, F⟩ := T.f_beside_boat
  have N_over_there := ok_Night_over_there (P := P) (w := w) (base := base) T
  refine ⟨T.g_beside_boat, fd, F.ok sc_beside_boat (fun vs H Q E h => ?_) (fun cdv A outer s H vs Q E hr h => ⟨_, PSs.nox (pss_cons (ps_if (pt_cmpR op_eq (pe_ix (r := rIxT K) ix_tup (pv 1) pe_int (fun _ _ => rfl)) pe_int (nomark _)) (pss_one (ps_ret (pe_ix (r := rIxT K) ix_tup (pv 1) pe_int (fun _ _ => rfl)))) pss_nil)
      (pss_one (ps_ret (pe_nm (C := He.ga K "Night") (pv 0) N_over_there (hr.mono (by decide)) pass0 (pa_cons (pe_ix (r := rIxT K) ix_tup (pv 1) pe_int (fun _ _ => rfl)) pa_nil))))), ?_⟩), F.bindsN fun _ _ _ _ _ _ us hl => match us, hl with | [_, _], _ => rfl, F.kp⟩
  · obtain ⟨v, n, u, s, rfl, _⟩ := h
    rfl
  · obtain ⟨v, n, u, s, rfl, N, hu, hf, k⟩ := h
    have hlen : n.things.length ≤ 1000 := hf
    refine' w_when K (b := decide (s.2 = 0)) ?tt (fun hb H3 x3 => ?_) (fun hb H3 x3 => ?_)
    case tt => walk_at "et"
    · refine' w_ret1 (K := K) (d := eI s.1) ?t (fun v4 H4 x4 h4 => k v4 H4 (x3.trans x4) ?_)
      case t => walk_at "ed"
      show Dp K H4 v4 (eI (bankOf n.things.length s))
      unfold bankOf
      rw [if_pos (by simpa using hb)]
      exact h4
    · refine' w_ret1 (K := K) (d := eI (restOf s.1 n.things.length)) ?t (fun v4 H4 x4 h4 => k v4 H4 (x3.trans x4) ?_)
      case t => walk_at "ed"
      show Dp K H4 v4 (eI (bankOf n.things.length s))
      unfold bankOf
      rw [if_neg (by simpa using hb)]
      exact h4
theorem sc_led_over : FnScope ["standing", "crew", "thing"] ["standing", "crew"] (defScope s_led_over) := ⟨rfl, rfl, rfl, by decide +kernel, rfl, by decide +kernel, by decide +kernel⟩
theorem ok_led_over (T : Tx K mg) : Has P w K mg base CX0 2 "led_over" ["standing", "crew"] (spLed K) := by
  obtain ⟨fd, F⟩ := T.f_led_over
  refine ⟨T.g_led_over, fd, F.ok sc_led_over (fun vs H Q E h => ?_) (fun cdv A outer s H vs Q E hr h => ⟨_, PSs.nox (pss_cons (ps_if (pt_cmpR op_eq (pe_ix (r := rIxT K) ix_tup (pv 0) pe_int (fun _ _ => rfl)) pe_int (nomark _)) (pss_one (ps_ret (pe_tup (pa_cons (pe_callTy (r := rTupQ K) call_tuple_of (by rfl) T.b_tuple (by decide +kernel) (pa_cons (pe_lc (own := [("thing", 2)]) (g := gName 2) (by rfl) sc_led_over.nd (pi_tup (pe_ix (r := rIxT K) ix_tup (pv 0) pe_int (fun _ _ => rfl))) (blkOk_by (N := ["standing", "crew", "thing"]) (sc := defScope s_led_over) (by decide +kernel)) (fun _ _ _ _ _ => pg_name (i := 2) sc_led_over.nd rfl (.inl rfl)) (fun _ _ _ _ _ => (pts_one (pt_cmpR (r := rIn K true) op_notIn_seq (pv 2) (pv 1) (by rfl)))) (fun _ _ _ _ _ => (pv 2))) pa_nil)) (pa_cons pe_int pa_nil))))) pss_nil)
      (pss_one (ps_ret (pe_tup (pa_cons (pe_callTy (r := rTupQ K) call_tuple_of (by rfl) T.b_tuple (by decide +kernel) (pa_cons (pe_callB (r := rSortTup K) (cr_sortTup hr.units) (by rfl) T.b_sorted (by decide +kernel) (pa_cons (pe_op (r := rCatA K) op_catA (pe_ix (r := rIxT K) ix_tup (pv 0) pe_int (fun _ _ => rfl)) (pv 1)) pa_nil)) pa_nil)) (pa_cons pe_int pa_nil)))))), ?_⟩), F.bindsN fun _ _ _ _ _ _ us hl => match us, hl with | [_, _], _ => rfl, F.kp⟩
  · exact spP.len (n := 2) (fun _ => rfl) h
  · obtain ⟨⟨s, c⟩, ⟨h1, h2⟩, hv0, q⟩ := h
    dsimp only at h1 h2 hv0 q
    obtain ⟨v, u, rfl, hv, hu⟩ := dpa2 hv0
    refine' w_when K (b := decide (s.2 = 0)) ?tt (fun hb H3 x3 => ?_) (fun hb H3 x3 => ?_)
    case tt => walk_at "et"
    · have e : ledOver s c = (s.1.filter (fun t => !c.contains t), 1) := by unfold ledOver; rw [if_pos (by simpa using hb)]
      refine' w_ret1 (K := K) (d := eS (s.1.filter (fun t => !c.contains t), 1)) (ed_tup (eds_cons (ed_cb (eds_cons (en_fmT .int (xs := s.1) (fun t => !c.contains t) .int (fun _ => rfl) ?tx (by omega) (fun _ => rfl) (fun i a v H1 _ x1 hv => ?tc) (fun i a v H1 _ _ x1 hv => ?te)).toD eds_nil) cd_tupL) (eds_cons ed_int eds_nil)) (show 2 ≤ 100000 by decide)) (fun v4 H4 x4 h4 => q v4 H4 (x3.trans x4) (by rw [e]; exact h4))
      case tx =>
        refine (?tq : EvD K _ _ _ (eI s.1))
        walk_at "ed"
      case tc => walk_at "et"
      case te => walk_at "ed"
    · have e : ledOver s c = ((s.1 ++ c).mergeSort leZ, 0) := by unfold ledOver; rw [if_neg (by simpa using hb)]
      have hl : s.1.length + c.length ≤ 100000 := by omega
      refine' w_ret1 (K := K) (d := eS ((s.1 ++ c).mergeSort leZ, 0)) (ed_tup (eds_cons (ed_cb (eds_cons ?tx eds_nil) cd_tupL) (eds_cons ed_int eds_nil)) (show 2 ≤ 100000 by decide)) (fun v4 H4 x4 h4 => q v4 H4 (x3.trans x4) (by rw [e]; exact h4))
      case tx => walk_at "ed"
theorem sc_groups_of : FnScope ["group", "room", "found", "thing", "some"] ["group", "room"] (defScope s_groups_of) := ⟨rfl, rfl, rfl, by decide +kernel, rfl, by decide +kernel, by decide +kernel⟩
theorem ok_groups_of (T : Tx K mg) : Has P w K mg base CX0 2 "groups_of" ["group", "room"] (spGroupsOf K) := by
  obtain ⟨fd, F⟩ := T.f_groups_of
  refine ⟨T.g_groups_of, fd, F.ok sc_groups_of (fun vs H Q E h => ?_) (fun cdv A outer s H vs Q E hr h => ⟨_, PSs.nox (pss_cons (ps_set (i := 2) sc_groups_of.nd rfl (.inl rfl) (pe_lst (pa_cons (pe_tup pa_nil) pa_nil)))
      (pss_cons (ps_for PassesOwn.never rfl (pi_tup (pv 0)) (pg_name (i := 3) sc_groups_of.nd rfl (.inr rfl)) (pss_one (ps_expr (pe_bm PySem.F.plainAttrs_list PySem.F.slot_list_extend PySem.F.type_list_extend mt_extend (pv 2) (pa_cons (pe_lc (own := [("some", 4)]) (g := gName 4) (by rfl) sc_groups_of.nd (pi_list (pv 2)) (blkOk_by (N := ["group", "room", "found", "thing", "some"]) (sc := defScope s_groups_of) (by decide +kernel)) (fun _ _ _ _ _ => pg_name (i := 4) sc_groups_of.nd rfl (.inl rfl)) (fun _ _ _ _ _ => (pts_one (pt_cmpR op_lt (pe_callB (r := rLenQ K) call_len_seq (by rfl) T.b_len (by decide +kernel) (pa_cons (pv 4) pa_nil)) (pv 1) (nomark _)))) (fun _ _ _ _ _ => (pe_op (r := rCatA K) op_catA (pv 4) (pe_tup (pa_cons (pv 3) pa_nil))))) pa_nil)))))
      (pss_one (ps_ret (pe_slice (r := rSlL K) sl_list (pe_callB (r := rSortTI K) (cr_sortTI hr.units) (by rfl) T.b_sorted (by decide +kernel) (pa_cons (pv 2) pa_nil)) (po_some pe_int) po_none))))), ?_⟩), F.bindsN fun _ _ _ _ _ _ us hl => match us, hl with | [_, _], _ => rfl, F.kp⟩
  · exact spL.len (n := 2) (fun _ => rfl) h
  · obtain ⟨⟨g, room⟩, h1, hv0, q⟩ := h
    dsimp only at h1 hv0 q
    obtain ⟨v, u, rfl, hv, hu⟩ := dpa2 hv0
    cases dp_int.mp hu
    refine' w_asgN (K := K) (ds := [eI []]) (en_lst (eds_cons (ed_tup (ds := []) eds_nil (by decide)) eds_nil) (by decide)) (fun v2 H2 x2 hL => ?_)
    obtain ⟨l, xs, rfl, l0, l1, l2⟩ := hL
    refine' w_layT (K := K) (l := l) (H0 := H) (ds := g.map .int) ?tl (noL_int g) x2 l0 (fun i => (growF room (g.take i)).map eI) (fun i => noLs_map noL_eI _) ⟨xs, l1, l2⟩ (fun i σ => ∃ y, σ = [some v, some (.int room), some (.ref l), y, none]) ⟨none, rfl⟩ ?_ ?_
    case tl =>
      refine (?tq : EvD K _ _ _ (eI g))
      walk_at "ed"
    · rintro i d x σ' H' ys hd x3 hx ⟨y, rfl⟩ hl hD
      obtain ⟨t, ht, rfl⟩ := get_map hd
      cases dp_int.mp hx
      have hF : (growF room (g.take i)).length ≤ 64 := by
        have h2 := growF_len (room := room) (g.take i) [[]]
        have h3 : 2 ^ (g.take i).length ≤ 2 ^ 6 := Nat.pow_le_pow_right (by decide) (by rw [List.length_take]; omega)
        simp only [List.length_singleton, Nat.one_mul] at h2
        unfold growF
        omega
      have hI : ∀ k ∈ growF room (g.take i), k.length ≤ 6 := fun k hk => by
        have := growF_il (n := 0) (g.take i) [[]] (fun g hg => by rw [List.mem_singleton.mp hg]; exact Nat.le_refl _) k hk
        rw [List.length_take] at this
        omega
      have hdl : Dp K H' (.ref l) (.list ((growF room (g.take i)).map eI)) := dp_lst.mpr ⟨l, ys, rfl, SqL.of hl, hD⟩
      have comp : EvN K (tLc (iList K (tVar 2)) (gName 4) (tTest (tOp (rI0 fun i j => .bl (decide (i < j))) (tCB (rLenQ K) (tCons (tVar 4) tNil)) (tVar 1))) (tOp (rCatA K) (tVar 4) (tTup (tCons (tVar 3) tNil))) [4]) [some v, some (.int room), some (.ref l), some (.int t), none] H'
          (((growF room (g.take i)).filter fun k => decide ((k.length : Int) < room)).map fun k => eI (k ++ [t])) := by
        refine' en_fmL eI (fun k => decide ((k.length : Int) < room)) (fun k => eI (k ++ [t])) (fun _ => noL_eI _) ?a (by omega) (fun _ => rfl) (fun i a v H1 ha x1 hv => ?b) (fun i a v H1 ha _ x1 hv => ?c)
        case a => walk_at "ed"
        case b => walk_at "et"
        case c =>
          have hk := hI a (List.mem_of_getElem? ha)
          have hk2 : a.length + [t].length ≤ 100000 := by rw [List.length_singleton]; omega
          refine ed_op (d := eI a) (e := eI [t]) ?d1 ?d2 (rd_catA hk2)
          case d1 => walk_at "ed"
          case d2 =>
            refine (?tq2 : EvD K _ _ _ (.tuple [.int t]))
            walk_at "ed"
      refine ⟨_, rfl, .inl ⟨rfl, _, SqL.of hl⟩, comp H' (Evl.Ex.refl H') _ fun v3 H3 x4 hv3 => ?_⟩
      obtain ⟨b, zs, rfl, b0, b1, b2⟩ := hv3
      have hz : zs.length ≤ 64 := by
        have := dpa_len b2
        rw [List.length_map] at this
        have h4 := List.length_filter_le (fun k : List Int => decide ((k.length : Int) < room)) (growF room (g.take i))
        omega
      have hy : ys.length ≤ 64 := by have := dpa_len hD; rw [List.length_map] at this; omega
      refine ⟨l, b, ys, zs, rfl, rfl, x4 _ _ hl, b1, Evl.sz_of (by omega), ⟨_, rfl⟩, ExB.upd x4, _, upd_same, ?_⟩
      have u : Up H3 (upd H3 l (.lst (ys ++ zs))) := Up.lst (x4 _ _ hl)
      show DpAll K _ _ ((growF room (g.take (i + 1))).map eI)
      rw [growF_snoc ht]
      unfold stepF
      rw [List.map_append, List.map_map]
      exact dpa_app (dpa_up u _ _ (noLs_map noL_eI _) (dpa_mono x4 _ _ hD)) (dpa_up u _ _ (noLs_map (fun _ => noL_eI _) _) b2)
    · rintro σ' H' ys x3 ⟨y, rfl⟩ hl hD
      rw [List.length_map, List.take_length] at hD
      have hk : SortI (growF room g) := by
        obtain ⟨r, hr⟩ := growF_head (room := room) g []
        exact .inr ⟨r, hr⟩
      have hdl : Dp K H' (.ref l) (.list ((growF room g).map eI)) := dp_lst.mpr ⟨l, ys, rfl, SqL.of hl, hD⟩
      refine w_retN1 (K := K) (en_slL (en_cb (eds_cons (ed_var rfl hdl) eds_nil) (cn_sortTI hk)).toD (eo_some (i := ((1 : Nat) : Int)) ed_int) eo_none) fun v5 H5 x5 h5 => q v5 H5 (x3.trans x5) ?_
      rw [cutD_from] at h5
      show NewL K H v5 H5 ((groupsOf g room).map eI)
      unfold groupsOf
      rw [List.map_drop]
      exact h5.back x3
theorem sc_can_row : FnScope ["night", "crew", "thing"] ["night", "crew"] (defScope s_can_row) := ⟨rfl, rfl, rfl, by decide +kernel, rfl, by decide +kernel, by decide +kernel⟩
theorem ok_can_row (T : Tx K mg) : Has P w K mg base CX0 2 "can_row" ["night", "crew"] (spCanRow K) := by
  obtain ⟨fd, F⟩ := T.f_can_row
  have N_things := ok_Night_things (P := P) (w := w) (base := base) T
  refine ⟨T.g_can_row, fd, F.ok sc_can_row (fun vs H Q E h => ?_) (fun cdv A outer s H vs Q E hr h => ⟨_, PSs.nox (pss_one (ps_ret (pe_cmpR op_gt (pe_callB (r := rLenQ K) call_len_seq (by rfl) T.b_len (by decide +kernel) (pa_cons (pe_lc (own := [("thing", 2)]) (g := gName 2) (by rfl) sc_can_row.nd (pi_tup (pv 1)) (blkOk_by (N := ["night", "crew", "thing"]) (sc := defScope s_can_row) (by decide +kernel)) (fun _ _ _ _ _ => pg_name (i := 2) sc_can_row.nd rfl (.inl rfl)) (fun _ _ _ _ _ => (pts_one (pt_val (pe_ix (r := rIxT K) ix_tup (pe_ix (r := rIxL K) ix_list (pe_nm0 (C := He.ga K "Night") (pv 0) N_things (hr.mono (by decide)) pass0) (pv 2) (fun _ _ => rfl)) pe_int (fun _ _ => rfl))))) (fun _ _ _ _ _ => (pv 2))) pa_nil)) pe_int (nomark _)))), ?_⟩), F.bindsN fun _ _ _ _ _ _ us hl => match us, hl with | [_, _], _ => rfl, F.kp⟩
  · obtain ⟨v, n, u, s, rfl, _⟩ := h
    rfl
  · obtain ⟨v, n, u, c, rfl, N, hu, ⟨hf, hin, hc⟩, k⟩ := h
    have hlen : n.things.length ≤ 1000 := hf
    have comp : EvN K (tLc (iTup K (tVar 1)) (gName 2) (tB (tOp (rIxT K) (tOp (rIxL K) (tMeth (He.ga K "Night") "things" (spNThings K) [] E0 (tVar 0) tNil) (tVar 2)) (tC (.int 1)))) (tVar 2) [2]) [some v, some u, none] H ((c.filter (rowsAt n.things)).map .int) := by
      refine' en_fmT .int (rowsAt n.things) .int (fun _ => rfl) ?a (by omega) (fun _ => rfl) (fun i a v H1 ha x1 hv => ?b) (fun i a v H1 ha _ x1 hv => ?c)
      case a =>
        refine (?tq : EvD K _ _ _ (eI c))
        walk_at "ed"
      case b =>
        have hm := hin a (List.mem_of_getElem? ha)
        refine eb_dB (ed_op (d := eT (n.things.getD a.toNat (0, false))) (ed_op (d := .list (n.things.map eT)) ?e1 (ed_var rfl hv) (rd_ixL (atI_map hm.1 hm.2))) ed_int (rd_ixT (by rfl)))
        case e1 => walk_at "ed"
      case c => exact ed_var rfl hv
    refine' w_ret1 (K := K) (d := .bool (canRow n.things c)) (ed_op (d := .int ((c.filter (rowsAt n.things)).map PyData.int).length) (ed_cb (eds_cons comp.toD eds_nil) cd_lenL) ed_int (rd_I0 fun _ => ?t)) (fun v4 H4 x4 h4 => k v4 H4 x4 h4)
    case t => rw [List.length_map]; exact .bl _
theorem sc_crews : FnScope ["night", "standing", "found", "crew"] ["night", "standing"] (defScope s_crews) := ⟨rfl, rfl, rfl, by decide +kernel, rfl, by decide +kernel, by decide +kernel⟩
theorem ok_crews (T : Tx K mg) : Has P w K mg base (L2N.CX P w) 5 "crews" ["night", "standing"] (spCrews K) := by
  obtain ⟨fd, F⟩ := T.f_crews
  have G_groups_of := ok_groups_of (P := P) (w := w) (base := base) T
  have G_beside_boat := ok_beside_boat (P := P) (w := w) (base := base) T
  have G_peaceful := ok_peaceful (P := P) (w := w) (base := base) T
  have G_led_over := ok_led_over (P := P) (w := w) (base := base) T
  have G_can_row := ok_can_row (P := P) (w := w) (base := base) T
  have G_look_at_start := ok_look_at_start (P := P) (w := w) (base := base) T
  have N_room := ok_Night_room (P := P) (w := w) (base := base) T
  refine ⟨T.g_crews, fd, F.ok sc_crews (fun vs H Q E h => ?_) (fun cdv A outer s H vs Q E hr h => ⟨_, (pss_cons (ps_expr (pe_fxN G_look_at_start (hr.mono (by decide)) rfl (L2N.takes_of rfl rfl rfl rfl) (pa_cons (pv 0) (pa_cons (pv 1) pa_nil))))
      (pss_cons (ps_set (i := 2) sc_crews.nd rfl (.inl rfl) (pe_lst pa_nil))
      (pss_cons (ps_for (passes_of rfl) rfl (pi_list (pe_f G_groups_of (hr.mono (by decide)) rfl (pa_cons (pe_f G_beside_boat (hr.mono (by decide)) rfl (pa_cons (pv 0) (pa_cons (pv 1) pa_nil))) (pa_cons (pe_nm0 (C := He.ga K "Night") (pv 0) N_room (hr.mono (by decide)) pass0) pa_nil)))) (pg_name (i := 3) sc_crews.nd rfl (.inl rfl)) (pss_one (ps_if (PW.pt (pw_and (pt_val (pe_f G_can_row (hr.mono (by decide)) rfl (pa_cons (pv 0) (pa_cons (pv 3) pa_nil)))) (pw_and1 (pt_val (pe_f G_peaceful (hr.mono (by decide)) rfl (pa_cons (pv 0) (pa_cons (pe_f G_led_over (hr.mono (by decide)) rfl (pa_cons (pv 1) (pa_cons (pv 3) pa_nil))) pa_nil))))))) (pss_one (ps_expr (pe_bm PySem.F.plainAttrs_list PySem.F.slot_list_append PySem.F.type_list_append mt_append (pv 2) (pa_cons (pv 3) pa_nil)))) pss_nil)))
      (pss_one (ps_ret (pv 2)))))), ?_⟩), F.bindsN fun _ _ _ _ _ _ us hl => match us, hl with | [_, _], _ => rfl, F.kp⟩
  · obtain ⟨v, n, u, s, rfl, _⟩ := h
    rfl
  · obtain ⟨v, n, u, s, rfl, N, hu, hlen, kq, ke, kb⟩ := h
    have hf : few n := Nat.le_trans hlen (by decide)
    refine w_callSv rfl rfl ⟨v, n, u, s, rfl, N, hu, hf, fun ok gd H1 x1 => ?_, ke, kb⟩
    obtain ⟨hin, hsl⟩ := standOk_in ok
    have hs6 : s.1.length ≤ 1000 := by omega
    have hbank : (bankOf n.things.length s).length ≤ 6 := Nat.le_trans (bankOf_len hsl) hlen
    refine' w_asgN (K := K) (ds := []) (en_lst eds_nil (by decide)) (fun v2 H2 x2 hL => ?_)
    obtain ⟨l, xs, rfl, l0, l1, l2⟩ := hL
    refine' w_layN (K := K) (l := l) (H0 := H1) (ds := (groupsOf (bankOf n.things.length s) n.room).map eI) (en_groupsOf ?ta ?tb hbank) (noLs_map noL_eI _) x2 l0 (fun i => (((groupsOf (bankOf n.things.length s) n.room).take i).filter (n.lets s)).map eI) (fun i => noLs_map noL_eI _) ⟨xs, l1, by rw [List.take_zero]; exact l2⟩ (fun i σ => ∃ y, σ = [some v, some u, some (.ref l), y]) ⟨none, rfl⟩ ?_ ?_
    case ta => walk_at "ed"
    case tb => walk_at "ed"
    · rintro i d x σ' H' ys hd x3 hx ⟨y, rfl⟩ hl hD
      obtain ⟨c, hc, rfl⟩ := get_map hd
      have hci := groupsOf_items (bankOf_in hin) c (List.mem_of_getElem? hc)
      have hcd : few n ∧ inThings n.things.length c ∧ c.length ≤ 1000 := ⟨hf, hci.1, by omega⟩
      have hled : s.1.length ≤ 1000 ∧ c.length ≤ 1000 := ⟨hs6, by omega⟩
      have hx' : Dp K H' x (eI c) := hx
      have x13 := x1.trans x3
      show tIfS _ _ _ _ _ _
      refine' w_when1 K (b := canRow n.things c && n.good (ledOver s c)) ?tt (fun hb H4 x4 => ?_) (fun hb H4 x4 => ?_)
      case tt => walk_at "et"
      · have hb' : n.lets s c = true := hb
        refine w_lay (acc := (((groupsOf (bankOf n.things.length s) n.room).take i).filter (n.lets s)).map eI) (d := eI c) rfl (ed_var rfl (dp_mono x4 _ _ hx')) (ExB.ex x4) (x4 _ _ hl) (dpa_mono x4 _ _ hD) (noLs_map noL_eI _) (noL_eI _) ?_ ?_ ⟨_, rfl⟩ (fun σ3 H3 h3 => h3)
        · have h2 := List.length_filter_le (n.lets s) ((groupsOf (bankOf n.things.length s) n.room).take i)
          have h3 : (groupsOf (bankOf n.things.length s) n.room).length ≤ 2 ^ 6 := Nat.le_trans groupsOf_len (Nat.pow_le_pow_right (by decide) hbank)
          rw [List.length_take] at h2
          rw [List.length_map]
          omega
        · rw [take_snoc hc, List.filter_append, List.map_append]
          congr 1
          rw [List.filter_cons, if_pos hb']
          rfl
      · have hb' : n.lets s c = false := hb
        refine ⟨⟨_, rfl⟩, ExB.ex x4, ys, x4 _ _ hl, ?_⟩
        show DpAll K _ _ ((((groupsOf (bankOf n.things.length s) n.room).take (i + 1)).filter (n.lets s)).map eI)
        rw [take_snoc hc, List.filter_append, List.filter_cons, if_neg (by rw [hb']; exact Bool.false_ne_true), List.filter_nil, List.append_nil]
        exact dpa_mono x4 _ _ hD
    · rintro σ' H' ys x3 ⟨y, rfl⟩ hl hD
      rw [List.length_map, List.take_length] at hD
      exact ⟨_, rfl, kq ok gd _ H' (x1.trans x3) ⟨l, ys, rfl, Evl.fresh_back x1 l0, hl, hD⟩⟩
end

end Fy

namespace Fy
open PySem PySem.Spec PyProof.Rows L2
/-! ### the laws' own crossings: promises and readings -/
theorem exc_true (b : Bool) : (b = true) ∨ (b = false) := by cases b <;> simp
/-- isinstance(e, c) of the exception that a suite holds -/
def rIsX (K : PySem.W.Frag) (cls : Value) (dd : Option Addr) (a : Addr) : List V → Hp → VK → Prop := fun xs H Q => ∃ D, cls = .ref D ∧ dd = none ∧ ExcC K D ∧ rIsE K D a xs H Q
theorem call_isX {X : Cx} {a : Addr} {cls : Value} {dd : Option Addr} {oe : Obj} {pn : List (Addr × Obj)} (hz : Zc cls dd oe) (hf : ∃ vs, oe.data = .fields vs) : CallR (X.suite a ((a, oe) :: pn)) (.builtin "isinstance") (rIsX X.K cls dd a) := by
  intro pins s σ H xs us Q I r h
  obtain ⟨D, rfl, rfl, C, h⟩ := h
  exact call_isE C hz hf pins s σ H xs us Q I r h
theorem sub_climb {m : Nat} : ∀ {g : List Int} {last : Int}, g.Pairwise (· < ·) → (∀ t ∈ g, last < t ∧ t < (m : Int)) → climb m last g = true
  | [], _, _, _ => rfl
  | x :: r, last, hp, hb => by
    have h1 := hb x List.mem_cons_self
    have h2 := List.pairwise_cons.mp hp
    unfold climb
    rw [decide_eq_true h1, Bool.true_and]
    exact sub_climb h2.2 fun t ht => ⟨h2.1 t ht, (hb t (List.mem_cons_of_mem _ ht)).2⟩
theorem rng_lt (m : Nat) : (rng m).Pairwise (· < ·) := by
  unfold rng
  rw [List.pairwise_map]
  have : (List.range m).Pairwise (· < ·) := List.pairwise_lt_range
  exact this.imp fun {a b} h => by omega
theorem climb_of_sub {m : Nat} {g : List Int} (h : g.Sublist (rng m)) : climb m (-1) g = true :=
  sub_climb ((rng_lt m).sublist h) fun t ht => by have := mem_rng.mp (h.subset ht); omega
theorem bits_sub {x : Int} {m : Nat} : (bitsL x m).Sublist (rng m) := List.filter_sublist
theorem sub_len {m : Nat} {g : List Int} (h : g.Sublist (rng m)) : g.length ≤ m := by have := h.length_le; rw [rng_len] at this; exact this
theorem sub_in {m : Nat} {g : List Int} (h : g.Sublist (rng m)) : inThings m g := fun t ht => mem_rng.mp (h.subset ht)
def spBehind (K : PySem.W.Frag) : Sp := spP K (fun x : (List Int × Int) × List Int × Nat => x.1.1.length ≤ 1000 ∧ x.2.2 ≤ 1000) (fun x => [eS x.1, eI x.2.1, .int (x.2.2 : Int)]) (fun x => eS (behind x.1 x.2.1 x.2.2))
def spLCrews (K : PySem.W.Frag) : Sp := spL K (fun x : Nt × (List Int × Int) => x.1.things.length ≤ 6 ∧ x.2.1.length ≤ 1000) (fun x => [.list (x.1.things.map eT), .int x.1.room, .list (x.1.quarrels.map eQ), eS x.2]) (fun x => (x.1.lawCrews x.2).map eI)
def spLGroup (K : PySem.W.Frag) : Sp := spP K (fun x : List Int × List Int => x.1.length ≤ 1000) (fun x => [eI x.1, eI x.2]) (fun x => .bool (decide (x.1 = x.2)))
def spRight (K : PySem.W.Frag) : Sp := spP K (fun x : List (List Int) × List (List Int) => (∀ g ∈ x.1, g.length ≤ 1000) ∧ x.2.length ≤ 1000) (fun x => [.list (x.1.map eI), .list (x.2.map eI)]) (fun x => .bool (decide (x.1 = x.2)))
/-- _law_told of crews -/
def dStart : PyData := .tuple [.str "start"]
def spTold2 (K : PySem.W.Frag) : Sp := fun vs H Q _ => ∃ v n u s, vs = [v, u] ∧ NightAt K H v n ∧ Dp K H u (eS s) ∧ n.things.length ≤ 6 ∧ standOk n.things.length s = true ∧
  (n.good s = true → RetR (fun v H' => NewL K H v H' ((n.crews s).map eI)) H Q) ∧ (n.good s = false → RetR (fun v H' => Dp K H' v dStart) H Q)
section
variable {K : PySem.W.Frag} {σ : L2.St} {H : Hp} {ta tb tc td : TE} {E : XK} {n : Nt} {s : List Int × Int} {c g : List Int} {m : Nat}
theorem ed_behind (h1 : EvD K ta σ H (eS s)) (h2 : EvD K tb σ H (eI c)) (h3 : EvD K tc σ H (.int (m : Int))) (h0 : s.1.length ≤ 1000 ∧ m ≤ 1000) : EvD K (tCall (spBehind K) [] E (tCons ta (tCons tb (tCons tc tNil)))) σ H (eS (behind s c m)) :=
  ed_call (x := (s, c, m)) h0 (eds_cons h1 (eds_cons h2 (eds_cons h3 eds_nil)))
theorem en_lcrews (n : Nt) (h1 : EvD K ta σ H (.list (n.things.map eT))) (h2 : EvD K tb σ H (.int n.room)) (h3 : EvD K tc σ H (.list (n.quarrels.map eQ))) (h4 : EvD K td σ H (eS s)) (h0 : n.things.length ≤ 6 ∧ s.1.length ≤ 1000) :
    EvN K (tCall (spLCrews K) [] E (tCons ta (tCons tb (tCons tc (tCons td tNil))))) σ H ((n.lawCrews s).map eI) :=
  en_call (x := (n, s)) h0 (eds_cons h1 (eds_cons h2 (eds_cons h3 (eds_cons h4 eds_nil))))
theorem ed_lgroup (h1 : EvD K ta σ H (eI c)) (h2 : EvD K tb σ H (eI g)) (h0 : c.length ≤ 1000) : EvD K (tCall (spLGroup K) [] E (tCons ta (tCons tb tNil))) σ H (.bool (decide (c = g))) :=
  ed_call (x := (c, g)) h0 (eds_cons h1 (eds_cons h2 eds_nil))
theorem ed_right {F G : List (List Int)} (h1 : EvD K ta σ H (.list (F.map eI))) (h2 : EvD K tb σ H (.list (G.map eI))) (h0 : (∀ g ∈ F, g.length ≤ 1000) ∧ G.length ≤ 1000) : EvD K (tCall (spRight K) [] E (tCons ta (tCons tb tNil))) σ H (.bool (decide (F = G))) :=
  ed_call (x := (F, G)) h0 (eds_cons h1 (eds_cons h2 eds_nil))
variable {tr : TA} {d : PyData} {K' : PySem.W.Frag} {ds es : List PyData}
theorem i_Behind (h : EvD K (tCall (spBehind K') [] E tr) σ H d) : EvD K (tCall (spBehind K') [] E tr) σ H d := h
theorem i_LGroup (h : EvD K (tCall (spLGroup K') [] E tr) σ H d) : EvD K (tCall (spLGroup K') [] E tr) σ H d := h
theorem i_Right (h : EvD K (tCall (spRight K') [] E tr) σ H d) : EvD K (tCall (spRight K') [] E tr) σ H d := h
theorem rd_inB {b : Bool} {bs : List Bool} : RD K (rIn K true) (.bool b) (.list (bs.map .bool)) (.bool (!bs.contains b)) := fun H x y hx hy Q q => by
  obtain ⟨a, xs, rfl, hs, hd⟩ := dp_lst.mp hy
  rw [dpa_bls.mp hd] at hs
  rw [dp_bl.mp hx]
  have fl : ∀ bs : List Bool, (bs.map V.bl).all flatV = true := fun bs => by induction bs with
    | nil => rfl
    | cons c r ih => rw [List.map_cons, List.all_cons, ih]; rfl
  have iv : ∀ bs : List Bool, inV (.bl b) (bs.map V.bl) = bs.contains b := fun bs => by
    induction bs with
    | nil => rfl
    | cons c r ih =>
      unfold inV at ih ⊢
      rw [List.map_cons, List.any_cons, ih, List.contains_cons]
      cases b <;> cases c <;> rfl
  refine ⟨a, _, rfl, .inl hs, rfl, fl bs, ?_⟩
  rw [if_pos rfl, iv]
  exact q _ H (Evl.Ex.refl H) (.bl _)
theorem en_cat {i : Nat} {v : V} {H0 : Hp} (h1 : σ[i]? = some (some v)) (hv : NewL K H0 v H ds) (h2 : EvN K tb σ H es) (hl : ds.length + es.length ≤ 100000) : EvN K (tOp rCat (tVar i) tb) σ H (ds ++ es) := fun H1 x Q q =>
  ⟨v, h1, h2 H1 x _ fun u H2 x2 hu => by
    obtain ⟨p, xs, rfl, _, p1, p2⟩ := hv
    obtain ⟨r, ys, rfl, r0, r1, r2⟩ := hu
    have e1 := dpa_len p2
    have e2 := dpa_len r2
    refine ⟨p, r, xs, ys, rfl, rfl, x2 _ _ (x _ _ p1), r1, Evl.sz_of (by omega), fun z hz => q _ _ (x2.trans (Evl.Ex.new hz)) ⟨z, _, rfl, Evl.fresh_back x2 hz, upd_same, dpa_app (dpa_mono ((x.trans x2).trans (Evl.Ex.new hz)) _ _ p2) (dpa_mono (Evl.Ex.new hz) _ _ r2)⟩⟩⟩
end
section
variable {K : PySem.W.Frag} {σ : L2.St} {H : Hp} {a D C : Addr} {i : Nat} {b : Bool}
theorem named_one {c : Addr} : ∀ u, RelV (.ref c) u → u = .ref c := fun u r => by cases r; rfl
theorem named_ty {T : String} : ∀ u, RelV (.ty T) u → u = .type T := fun u r => by cases r; rfl
theorem ed_isX (hi : σ[i]? = some (some (.ref a))) (c : ExcC K D) (h : PySem.W.kitOne K (.ref D) (.ref C) = some b) : EvD K (tCB (rIsX K (.ref D) none a) (tCons (tVar i) (tCons (tC (.ref C)) tNil))) σ H (.bool b) := fun H1 x Q q =>
  ⟨_, hi, D, rfl, rfl, c, .ref C, .ref C, b, rfl, named_one, h, q _ H1 (Evl.Ex.refl H1) (.bl b)⟩
theorem ed_isV {T : String} (hi : σ[i]? = some (some (.ref a))) (c : ExcC K D) (h : PySem.W.kitOne K (.ref D) (.type T) = some b) : EvD K (tCB (rIsX K (.ref D) none a) (tCons (tVar i) (tCons (tC (.ty T)) tNil))) σ H (.bool b) := fun H1 x Q q =>
  ⟨_, hi, D, rfl, rfl, c, .ty T, .type T, b, rfl, named_ty, h, q _ H1 (Evl.Ex.refl H1) (.bl b)⟩
end
theorem w_clr {K : PySem.W.Frag} {σ : L2.St} {H : Hp} {D : Ends} {tz : TS} {i : Nat} {p : Addr} {xs : List V} (hi : σ[i]? = some (some (.ref p))) (hp : H p = some (.lst xs)) (k : tz D σ (upd H p (.lst []))) : tSeq (tDrop (tBM0 K "list" rClear (tVar i))) tz D σ H :=
  ⟨_, hi, .inl ⟨rfl, _, SqL.of hp⟩, p, xs, rfl, rfl, hp, k⟩

end Fy

namespace Fy
open PySem PySem.Spec PyProof.Rows L2
/-! a def whose argument is the exception held -/
structure FnHc (P : Program) (w : World) (K : PySem.W.Frag) (mg : Str → Option Value) (base : Heap) (k : Nat) (f : Addr) (fd : FuncData) (ps : List Str) (sp : Addr × Obj → Sp) : Prop where
  ln : ∀ p vs H Q E, sp p vs H Q E → vs.length = ps.length
  go : ∀ (p : Addr × Obj) (A : Around) (out : List Env) (s : Shared) (H : Hp) (ar : Args) (us : List Value) (vs : List V) (Q : VK) (E : XK), sp p vs H Q E → L2H.RoomH k A → L2H.Hot1 A p → L2H.PinOk out H s p → Env0 P w K mg base A out s H → BindsTo s fd ar (ps.zip us) → Vals vs us →
    codeAny (model P w) A (.call (.ref f) ar) (CR CX0 out P w H s Q E) s
theorem FunD.okHc {P : Program} {w : World} {K : PySem.W.Frag} {mg : Str → Option Value} {base : Heap} {x qual : Str} {pr : Arguments} {body : List Stmt} {sc : Scope} {f : Addr} {fd : FuncData} {N ps : List Str} {k : Nat} {sp : Addr × Obj → Sp}
    (F : FunD K x qual pr body sc [] [] f fd) (S : FnScope N ps sc) (ln : ∀ p vs H Q E, sp p vs H Q E → vs.length = ps.length)
    (bd : ∀ (p : Addr × Obj) (cdv : Value) (A : Around) (out : List Env) (s : Shared) (H : Hp) (vs : List V) (Q : VK) (E : XK), L2H.Hot1 A p → L2H.RoomH k (A.deeper (envOfC qual sc s.heap.objs.size f cdv)) → sp p vs H Q E →
      ∃ t, PSs (L2H.cxH CX0 P w K mg base N qual sc f cdv A out s H E p) body t ∧ t { nx := fun _ H' => Q .non H', rt := Q } (L2.start N vs) H) : FnHc P w K mg base (k + 1) f fd ps sp := by
  obtain ⟨o1, o2, u1, u2, u3, u4, u5, cdv, u6, u7, rfl, lk, hcd, _, _⟩ := F.ex
  refine ⟨ln, fun p A out s H ar us vs Q E q rm ht pn e0 bt rl => ?_⟩
  have n1 := ln _ _ _ _ _ q
  have kin : K.In s.heap := e0.mod.kin.keeps fun b o z => (e0.bs b o z).1
  have nol : s.heap.NoLimit := e0.mod.nolimit.keeps fun b o z => (e0.bs b o z).1
  have kd : ∀ y ∈ ps.zip us, sc.names.lookup y.1 = some .local ∨ (sc.names.lookup y.1 = some .cell ∧ ((cellsFrom (s.heap.objs.size + 1) sc.names []).lookup y.1).isSome = true) := by
    rintro ⟨n, v⟩ hy
    have z := S.par n (List.of_mem_zip hy).1
    exact z.imp id fun c => ⟨c, PySem.W.cellsFrom_some _ _ _ (Or.inl c)⟩
  refine codeAny_call_function rm.depth (kin _ _ lk) rfl S.co S.gen rfl (PySem.W.codeRec_of kin hcd) (bt _ _ _ _ (wpAny_newFunctionEnv_cells S.kind kd fun env he s1 xc => ?_))
  cases he
  refine ⟨nol.keeps xc.toInCall.keep, codeAny_func ?_⟩
  obtain ⟨t, pt, g⟩ := bd p cdv A out s H vs Q E ht (rm.deeper _) q
  have J := L2H.inv_startH (CX := CX0) (E := E) (N := N) (vs := vs) S pn e0 n1 rl xc
  refine wpAny_mono (pt.run [] s1 (L2.start N vs) H _ J g) ?_ fun _ _ z => z
  have en : ∀ {σ' : L2.St} {H' : Hp} {v : V} {u : Value} {s' : Shared}, Inv (L2H.cxH CX0 P w K mg base N qual sc f cdv A out s H E p) [] σ' H' s' → RelV v u → Q v H' → CE out P w H s Q u s' := by
    intro σ' H' v u s' J2 rv q2
    exact ⟨v, H', J2.os, J2.bare, J2.base, J2.hok, rv, q2⟩
  rintro (_ | _ | _ | u) s' g2
  case ret =>
    obtain ⟨v, σ', H', J2, rv, q2⟩ := g2
    exact en J2 rv q2
  case next =>
    obtain ⟨σ', H', J2, q2⟩ := g2
    exact en (v := V.non) (u := Value.none) J2 rfl q2
  all_goals (obtain ⟨_, _, _, q2⟩ := g2; exact q2.elim)
structure HasH (P : Program) (w : World) (K : PySem.W.Frag) (mg : Str → Option Value) (base : Heap) (k : Nat) (x : Str) (ps : List Str) (sp : Addr × Obj → Sp) : Prop where
  g : mg x = some (.ref (He.ga K x))
  ok : ∃ fd, FnHc P w K mg base k (He.ga K x) fd ps sp ∧ Binds K fd ps [] ∧ PySem.W.keepIn K (.ref (He.ga K x)) = true
theorem pe_fH {X : Cx} {k : Nat} {x : Str} {ps : List Str} {sp : Addr × Obj → Sp} {p : Addr × Obj} {q pos : Pos} {e : Expr} {es : List Expr} {t : TA} {sq : Sp} (F : HasH X.prog X.w X.K X.mg X.base k x ps sp) (rm : L2H.RoomH k X.A) (ht : L2H.Hot1 X.A p) (hp : p ∈ X.pn) (hsp : ∀ vs H Q E, sq vs H Q E → sp p vs H Q E) (hg : Gl X x) (ha : PA X (e :: es) t)
    (hdb : (x == ("__debug__" : Str)) = false := by decide) (he : starEach (e :: es) X.env = (false, eval e X.env) :: starEach es X.env := by rfl) (hpl : (backTo pos (starEach es X.env)).any (·.1) = false := by rfl) : PE X (.Call (.Name x q) (e :: es) [] pos) (tCall sq [] E0 t) := by
  obtain ⟨fd, G, b, kp⟩ := F.ok
  refine ⟨fun pns s σ H Q I h => wpAny_Call_Name_kw (ld_glob I hg F.g (PySem.W.callWith_K (h₀ := X.base) I.ok.mod.kin kp (thn (ha.run pos pns s σ H _ I h) fun us s1 ⟨vs, H1, I1, r, q1⟩ => ⟨I1.kIn, ?_⟩) he hpl) hdb)⟩
  have q3 : sq (vs ++ []) H1 Q E0 := q1
  rw [List.append_nil] at q3
  have q2 := hsp _ _ _ _ q3
  have n1 := G.ln _ _ _ _ _ q2
  have bt := b s1 us I1.kIn (by rw [List.append_nil, ← r.length]; exact n1)
  rw [List.append_nil] at bt
  obtain ⟨p1, p2, p3, p4, p5⟩ := I1.pin p (List.mem_append_left _ hp)
  refine wpAny_call (codeAny_mono (G.go p X.A X.stack s1 H1 ⟨us, []⟩ us vs Q E0 q2 rm ht ⟨p1, p2, fun hm => (List.mem_cons.mp (I1.stkSub p.1 hm)).elim p3 p4, p5⟩ I1.env0 bt r) ?_)
  rintro (u | fl) s2 g
  · exact g.elim
  · rcases fl with _ | _ | _ | u
    case ret => exact I1.after g
    all_goals exact g.elim
/-- isinstance(e, c) of a pinned exception -/
theorem call_isP {X : Cx} {p : Addr × Obj} (hp : p ∈ X.pn) (hf : ∃ vs, p.2.data = .fields vs) : CallR X (.builtin "isinstance") (rIsX X.K p.2.cls p.2.dict p.1) := by
  intro pns s σ H xs us Q I r h
  obtain ⟨D, hD, hdd, C, c, cv, b, rfl, hcv, e, q⟩ := h
  rcases r with _ | ⟨rx, rr⟩
  rcases rr with _ | ⟨rt, rr⟩
  cases rr
  cases rx
  cases hcv _ rt
  obtain ⟨vs, hv⟩ := hf
  have at_ : PySem.W.InstAt s.heap p.1 p.2 D none := by
    have g := (I.pin p (List.mem_append.mpr (.inl hp))).1
    obtain ⟨a, oc, od, oda, osl⟩ := p
    dsimp only at hD hdd hv g ⊢
    subst hD hdd hv
    exact ⟨g, rfl, rfl, trivial⟩
  exact PySem.W.kia_one (PySem.W.handS_kitx_exc C.hg C.hk C.hs C.hd C.ha C.hn C.ht C.hm) I.kIn at_ e (fun z => nomatch z) fun tk => ⟨.bl b, H, I.kept (t' := tk) fun _ _ z => z, rfl, q⟩
/-! what a suite tells of the exception that it holds -/
theorem roomM {k : Nat} {A : Around} {v : Option Value} (r : Room k A) : L2H.RoomH k (A.mark v) := ⟨r.dp, r.un⟩
theorem hotM {A : Around} {a : Addr} {oe : Obj} {cls : Value} {d : Option Addr} (hz : L2N.Zn cls d oe) (hf : ∃ vs, oe.data = .fields vs) : L2H.Hot1 (A.mark (some (.ref a))) (a, oe) := ⟨rfl, hf.choose, hf.choose_spec, hz.2.2 _ hf.choose_spec⟩
def flagsOf (x : Str) : List Bool := [isx x "BadThing", isx x "BadRoom", isx x "BadQuarrel", isx x "NoStanding", isx x "BadStart", isx x "NoCrew", isx x "BadNote", true]
def spFlagsC (K : PySem.W.Frag) (a : Addr) (cls : Value) (d : Option Addr) : Sp := fun vs H Q _ => ∃ x ∈ exs, cls = .ref (He.ga K x) ∧ d = none ∧ vs = [.ref a] ∧ ∀ v H', Ex H H' → NewL K H v H' ((flagsOf x).map .bool) → Q v H'
def spFlags (K : PySem.W.Frag) : Addr × Obj → Sp := fun p => spFlagsC K p.1 p.2.cls p.2.dict
theorem spFlags_c {K : PySem.W.Frag} {a : Addr} {oe : Obj} {cls : Value} {d : Option Addr} (hz : L2N.Zn cls d oe) : ∀ vs H Q E, spFlagsC K a cls d vs H Q E → spFlags K (a, oe) vs H Q E := fun vs H Q E h => by
  unfold spFlags
  rw [hz.1, hz.2.1]
  exact h
theorem spFlags_len {K : PySem.W.Frag} {p : Addr × Obj} {vs : List V} {H : Hp} {Q : VK} {E : XK} (h : spFlags K p vs H Q E) : vs.length = 1 := by
  obtain ⟨x, hx, hc, hd, rfl, k⟩ := h
  rfl

end Fy

namespace Fy
open PySem PySem.Spec PyProof.Rows L2
end Fy
local macro_rules | `(tactic| walk_at "ed") => `(tactic| ((with_reducible refine' Fy.i_Behind ?hh); (case hh => exact Fy.ed_behind (by walk_at "ed") (by walk_at "ed") (by walk_at "ed") (by walk_at "side"))))
local macro_rules | `(tactic| walk_at "ed") => `(tactic| ((with_reducible refine' Fy.i_LGroup ?hh); (case hh => exact Fy.ed_lgroup (by walk_at "ed") (by walk_at "ed") (by walk_at "side"))))
local macro_rules | `(tactic| walk_at "ed") => `(tactic| ((with_reducible refine' Fy.i_Right ?hh); (case hh => exact Fy.ed_right (by walk_at "ed") (by walk_at "ed") (by walk_at "side"))))

namespace Fy
open PySem PySem.Spec PyProof.Rows L2
theorem behind_len {s : List Int × Int} {c : List Int} {m : Nat} (h : s.1.length ≤ 1000) (hm : m ≤ 1000) : (behind s c m).1.length ≤ 1000 := by
  unfold behind
  split
  · exact Nat.le_trans (List.length_filter_le _ _) h
  · refine Nat.le_trans (List.length_filter_le _ _) ?_
    rw [rng_len]; exact hm
theorem rest_len1000 {g : List Int} {m : Nat} (h : m ≤ 1000) : (restOf g m).length ≤ 1000 := Nat.le_trans restOf_len h
theorem groups_len {m : Nat} : (groups m).length = 2 ^ m := by unfold groups; rw [List.length_map, List.length_range]
section
variable {P : Program} {w : World} {K : PySem.W.Frag} {mg : Str → Option Value} {base : Heap}
end

end Fy

namespace Fy
open PySem PySem.Spec PyProof.Rows L2
/-! ### one crossing: promises -/
/-- the slowest -/
def maxI (l : List Int) : Int := l.max?.getD 0
theorem maxI_eq {l : List Int} {m : Int} (h1 : m ∈ l) (h2 : ∀ y ∈ l, y ≤ m) : m = maxI l := by
  unfold maxI
  rw [List.max?_eq_some_iff.mpr ⟨h1, h2⟩]
  rfl
def minutesOf (ts : List (Int × Bool)) (c : List Int) : Int := maxI (c.map (paceAt ts))
theorem units65 {k : Nat} {A : Around} (r : Room k A) : A.units + 65 < cLine := by have := r.un; omega
def spMinutes (K : PySem.W.Frag) : Sp := spNS K eI (fun n c => few n ∧ inThings n.things.length c ∧ c.length ≤ 1000 ∧ c ≠ []) (fun n c => .int (minutesOf n.things c))
def spLMinutes (K : PySem.W.Frag) : Sp := spP K (fun x : List (Int × Bool) × List Int => inThings x.1.length x.2 ∧ x.2.length ≤ 1000 ∧ x.2 ≠ []) (fun x => [.list (x.1.map eT), eI x.2]) (fun x => .int (minutesOf x.1 x.2))
def spAfter (K : PySem.W.Frag) : Sp := fun vs H Q E => ∃ v n u s w c, vs = [v, u, w] ∧ NightAt K H v n ∧ Dp K H u (eS s) ∧ Dp K H w (eI c) ∧ n.things.length ≤ 6 ∧
  (standOk n.things.length s = true → n.good s = true → c ∈ n.crews s → RetR (fun v H' => Dp K H' v (eS (ledOver s c))) H Q) ∧
  (standOk n.things.length s = true → n.good s = true → c ∉ n.crews s → ∀ H', Ex H H' → E (.ref (He.ga K "NoCrew")) none H') ∧
  (standOk n.things.length s = false → ∀ H', Ex H H' → E (.ref (He.ga K "NoStanding")) none H') ∧ (standOk n.things.length s = true → n.good s = false → ∀ H', Ex H H' → E (.ref (He.ga K "BadStart")) none H')
theorem go_next {D : Ends} {σ : L2.St} {H : Hp} (h : D.nx σ H) : tNext D σ H := h
theorem ite_t {p q : Prop} (h : q) : if (!true) = true then p else q := h
theorem ite_n {p q : Prop} (h : p) : if (!false) = true then p else q := h
theorem sh_eIs (xs : List (List Int)) : SeqAt.shaped (.list (xs.map eI)) = true := sh_lst lay_eI (fun x => Nat.le_trans (dep_eI x) (by decide)) xs
theorem sh_eSs (xs : List (List Int × Int)) : SeqAt.shaped (.list (xs.map eS)) = true := sh_lst lay_eS (fun x => Nat.le_trans (dep_eS x) (by decide)) xs
theorem any_eI (c : List Int) (L : List (List Int)) : ((L.map eI).any fun z => PyData.eqv z (eI c)) = decide (c ∈ L) := by
  rw [List.any_map]
  have : (fun z => PyData.eqv z (eI c)) ∘ eI = fun g => decide (g = c) := by funext g; exact eqv_eI g c
  rw [this]
  rw [Bool.eq_iff_iff, List.any_eq_true, decide_eq_true_eq]
  constructor
  · rintro ⟨g, hg, e⟩; rw [← of_decide_eq_true e]; exact hg
  · intro h; exact ⟨c, h, by simp⟩
theorem any_eS (c : List Int × Int) (L : List (List Int × Int)) : ((L.map eS).any fun z => PyData.eqv z (eS c)) = decide (c ∈ L) := by
  rw [List.any_map]
  have : (fun z => PyData.eqv z (eS c)) ∘ eS = fun g => decide (g = c) := by funext g; exact eqv_eS g c
  rw [this]
  rw [Bool.eq_iff_iff, List.any_eq_true, decide_eq_true_eq]
  constructor
  · rintro ⟨g, hg, e⟩; rw [← of_decide_eq_true e]; exact hg
  · intro h; exact ⟨c, h, by simp⟩
section
variable {K : PySem.W.Frag} {σ : L2.St} {H : Hp} {ta tb : TE} {E : XK} {i : Nat} {v : V} {n : Nt} {c : List Int} {ts : List (Int × Bool)}
theorem cd_max {ns : List Int} (hn : ns ≠ []) : CD K (rMax K) [.list (ns.map .int)] (.int (maxI ns)) := fun H vs h Q q => by
  obtain ⟨v1, rfl, h1⟩ := dpa1 h
  obtain ⟨a, xs, rfl, hs, hd⟩ := dp_lst.mp h1
  rw [dpa_ints.mp hd] at hs
  refine ⟨a, ns, rfl, hs, List.length_pos_iff.mpr hn, fun m hm hy => ?_⟩
  rw [maxI_eq hm hy]
  exact q _ H (Evl.Ex.refl H) (.int _)
theorem ed_minutes (hi : σ[i]? = some (some v)) (hN : NightAt K H v n) (hb : EvD K tb σ H (eI c)) (hd : few n ∧ inThings n.things.length c ∧ c.length ≤ 1000 ∧ c ≠ []) : EvD K (tCall (spMinutes K) [] E (tCons (tVar i) (tCons tb tNil))) σ H (.int (minutesOf n.things c)) := ed_ns hi hN hb hd
theorem ed_lminutes (ts : List (Int × Bool)) (h1 : EvD K ta σ H (.list (ts.map eT))) (hb : EvD K tb σ H (eI c)) (hd : inThings ts.length c ∧ c.length ≤ 1000 ∧ c ≠ []) : EvD K (tCall (spLMinutes K) [] E (tCons ta (tCons tb tNil))) σ H (.int (minutesOf ts c)) :=
  ed_call (x := (ts, c)) hd (eds_cons h1 (eds_cons hb eds_nil))
variable {tr : TA} {d : PyData} {K' : PySem.W.Frag}
theorem i_Minutes (h : EvD K (tCall (spMinutes K') [] E tr) σ H d) : EvD K (tCall (spMinutes K') [] E tr) σ H d := h
theorem i_LMinutes (h : EvD K (tCall (spLMinutes K') [] E tr) σ H d) : EvD K (tCall (spLMinutes K') [] E tr) σ H d := h
end

end Fy

namespace Fy
open PySem PySem.Spec PyProof.Rows L2
end Fy
local macro_rules | `(tactic| walk_at "ed") => `(tactic| ((with_reducible refine' Fy.i_Minutes ?hh); (case hh => exact Fy.ed_minutes rfl (by walk_at "na") (by walk_at "ed") (by walk_at "side"))))

namespace Fy
open PySem PySem.Spec PyProof.Rows L2
section
variable {P : Program} {w : World} {K : PySem.W.Frag} {mg : Str → Option Value} {base : Heap}
theorem sc_minutes : FnScope ["night", "crew", "thing"] ["night", "crew"] (defScope s_minutes) := ⟨rfl, rfl, rfl, by decide +kernel, rfl, by decide +kernel, by decide +kernel⟩
theorem ok_minutes (T : Tx K mg) : Has P w K mg base CX0 2 "minutes" ["night", "crew"] (spMinutes K) := by
  obtain ⟨fd, F⟩ := T.f_minutes
  have N_things := ok_Night_things (P := P) (w := w) (base := base) T
  refine ⟨T.g_minutes, fd, F.ok sc_minutes (fun vs H Q E h => ?_) (fun cdv A outer s H vs Q E hr h => ⟨_, PSs.nox (pss_one (ps_ret (pe_callB (r := rMax K) (cr_max rfl) (by rfl) T.b_max (by decide +kernel) (pa_cons (pe_lc (own := [("thing", 2)]) (g := gName 2) (by rfl) sc_minutes.nd (pi_tup (pv 1)) (blkOk_by (N := ["night", "crew", "thing"]) (sc := defScope s_minutes) (by decide +kernel)) (fun _ _ _ _ _ => pg_name (i := 2) sc_minutes.nd rfl (.inl rfl)) (fun _ _ _ _ _ => pts_nil) (fun _ _ _ _ _ => (pe_ix (r := rIxT K) ix_tup (pe_ix (r := rIxL K) ix_list (pe_nm0 (C := He.ga K "Night") (pv 0) N_things (hr.mono (by decide)) pass0) (pv 2) (fun _ _ => rfl)) pe_int (fun _ _ => rfl)))) pa_nil)))), ?_⟩), F.bindsN fun _ _ _ _ _ _ us hl => match us, hl with | [_, _], _ => rfl, F.kp⟩
  · obtain ⟨v, n, u, s, rfl, _⟩ := h
    rfl
  · obtain ⟨v, n, u, c, rfl, N, hu, ⟨hf, hin, hc, hne⟩, k⟩ := h
    have comp : EvN K (tLc (iTup K (tVar 1)) (gName 2) tYes (tOp (rIxT K) (tOp (rIxL K) (tMeth (He.ga K "Night") "things" (spNThings K) [] E0 (tVar 0) tNil) (tVar 2)) (tC (.int 0))) [2]) [some v, some u, none] H ((c.map (paceAt n.things)).map .int) := by
      refine' EvN.cast (en_mapT (xs := c) .int (fun t => .int (paceAt n.things t)) (fun _ => rfl) (ed_var rfl hu) (by omega) (fun _ => rfl) (fun i a v H1 ha x1 hva => ?b)) (by rw [List.map_map]; rfl)
      case b =>
        have hm := hin a (List.mem_of_getElem? ha)
        refine ed_op (d := eT (n.things.getD a.toNat (0, false))) (ed_op (d := .list (n.things.map eT)) ?e1 (ed_var rfl hva) (rd_ixL (atI_map hm.1 hm.2))) ed_int (rd_ixT (by rfl))
        case e1 => walk_at "ed"
    exact w_ret1 (K := K) (d := .int (minutesOf n.things c)) (ed_cb (eds_cons comp.toD eds_nil) (cd_max (fun e => hne (List.map_eq_nil_iff.mp e)))) (fun v4 H4 x4 h4 => k v4 H4 x4 h4)
end

end Fy

namespace Fy
open PySem PySem.Spec PyProof.Rows L2
/-! ### plans, in plain Lean -/
theorem standOk_behind {m : Nat} {s : List Int × Int} {c : List Int} (h : standOk m s = true) : standOk m (behind s c m) = true := by
  unfold standOk at h
  rw [Bool.and_eq_true] at h
  unfold behind
  split
  · unfold standOk
    rw [climb_of_sub (List.filter_sublist.trans (climb_sub h.1))]
    rfl
  · unfold standOk
    rw [climb_of_sub List.filter_sublist]
    rfl
theorem lawCrews_items {n : Nt} {s : List Int × Int} : ∀ c ∈ n.lawCrews s, c.Sublist (rng n.things.length) := fun c hc => by
  have h1 := (List.mergeSort_perm _ _).mem_iff.mp hc
  exact groups_iff.mp (List.mem_filter.mp h1).1
theorem lawCrews_len {n : Nt} {s : List Int × Int} (h : n.things.length ≤ 6) : (n.lawCrews s).length ≤ 64 := by
  unfold Nt.lawCrews
  rw [List.length_mergeSort]
  have h1 := List.length_filter_le (n.lawLets s) (groups n.things.length)
  rw [groups_len] at h1
  have : 2 ^ n.things.length ≤ 2 ^ 6 := Nat.pow_le_pow_right (by decide) h
  omega
theorem lawCrews_ne {n : Nt} {s : List Int × Int} : ∀ c ∈ n.lawCrews s, c ≠ [] := fun c hc e => by
  have h1 := (List.mergeSort_perm _ _).mem_iff.mp hc
  have h2 := (List.mem_filter.mp h1).2
  rw [e] at h2
  simp [Nt.lawLets] at h2
theorem led_of_mem {n : Nt} {s : List Int × Int} {c : List Int} (h : standOk n.things.length s = true) (hm : c ∈ n.crews s) : ledOver s c = behind s c n.things.length := by
  refine led_eq h ?_
  have h3 := (List.mergeSort_perm _ _).mem_iff.mp (List.mem_of_mem_drop (List.mem_filter.mp hm).1)
  exact (growF_iff.mp h3).1
theorem led_good {n : Nt} {s : List Int × Int} {c : List Int} (hm : c ∈ n.crews s) : n.good (ledOver s c) = true := by
  have h2 := (List.mem_filter.mp hm).2
  unfold Nt.lets at h2
  rw [Bool.and_eq_true] at h2
  exact h2.2
theorem led_ok {n : Nt} {s : List Int × Int} {c : List Int} (h : standOk n.things.length s = true) (hm : c ∈ n.crews s) : standOk n.things.length (ledOver s c) = true := by
  rw [led_of_mem h hm]
  exact standOk_behind h
def Nt.tk (n : Nt) : List Int × Int → Int → List (List Int) → Option Int
  | s, acc, [] => if s = ([], 1) then some acc else none
  | s, acc, c :: r => if c ∈ n.crews s then n.tk (ledOver s c) (acc + minutesOf n.things c) r else none
def Nt.lawTk (n : Nt) : List Int × Int → Int → List (List Int) → Option Int
  | s, acc, [] => if s = ([], 1) then some acc else none
  | s, acc, c :: r => if c ∈ n.lawCrews s then n.lawTk (behind s c n.things.length) (acc + minutesOf n.things c) r else none
theorem tk_eq {n : Nt} : ∀ {s : List Int × Int} {acc : Int} {plan : List (List Int)}, standOk n.things.length s = true → n.tk s acc plan = n.lawTk s acc plan
  | s, acc, [], h => rfl
  | s, acc, c :: r, h => by
    unfold Nt.tk Nt.lawTk
    rw [← crews_eq h]
    by_cases hm : c ∈ n.crews s
    · rw [if_pos hm, if_pos hm, led_of_mem h hm]
      exact tk_eq (standOk_behind h)
    · rw [if_neg hm, if_neg hm]
def eOpt : Option Int → PyData
  | none => .none
  | some i => .int i
def spTakes (K : PySem.W.Frag) : Sp := fun vs H Q E => ∃ v n u s w plan, vs = [v, u, w] ∧ NightAt K H v n ∧ Dp K H u (eS s) ∧ Dp K H w (.list (plan.map eI)) ∧ n.things.length ≤ 6 ∧
  (standOk n.things.length s = true → n.good s = true → RetR (fun v H' => Dp K H' v (eOpt (n.tk s 0 plan))) H Q) ∧
  (standOk n.things.length s = false → ∀ H', Ex H H' → E (.ref (He.ga K "NoStanding")) none H') ∧ (standOk n.things.length s = true → n.good s = false → ∀ H', Ex H H' → E (.ref (He.ga K "BadStart")) none H')
def spLTakes (K : PySem.W.Frag) : Sp := spP K (fun x : Nt × (List Int × Int) × List (List Int) => x.1.things.length ≤ 6 ∧ standOk x.1.things.length x.2.1 = true) (fun x => [eNt x.1, eS x.2.1, .list (x.2.2.map eI)]) (fun x => eOpt (x.1.lawTk x.2.1 0 x.2.2))
def spAlike (K : PySem.W.Frag) : Sp := spP K (fun _ : Option Int × Option Int => True) (fun x => [eOpt x.1, eOpt x.2]) (fun x => .bool (decide (x.1 = x.2)))
theorem ed_takes {K : PySem.W.Frag} {σ : L2.St} {H : Hp} {tb tc : TE} {E : XK} {i : Nat} {v : V} {n : Nt} {s : List Int × Int} {plan : List (List Int)} (hi : σ[i]? = some (some v)) (hN : NightAt K H v n) (hb : EvD K tb σ H (eS s)) (hc : EvD K tc σ H (.list (plan.map eI))) (hd : n.things.length ≤ 6) (ok : standOk n.things.length s = true) (gd : n.good s = true) :
    EvD K (tCall (spTakes K) [] E (tCons (tVar i) (tCons tb (tCons tc tNil)))) σ H (eOpt (n.tk s 0 plan)) := fun H1 x Q q =>
  ⟨v, hi, hb H1 x _ fun u H2 x2 h2 => hc H2 (x.trans x2) _ fun w H3 x3 h3 => ⟨v, n, u, s, w, plan, rfl, hN.mono ((x.trans x2).trans x3), dp_mono x3 _ _ h2, h3, hd, fun _ _ y H4 x4 h4 => q y H4 ((x2.trans x3).trans x4) h4, fun c => absurd (ok.symm.trans c) (by decide), fun _ c => absurd (gd.symm.trans c) (by decide)⟩⟩
theorem ed_ltakes {K : PySem.W.Frag} {σ : L2.St} {H : Hp} {ta tb tc : TE} {E : XK} {n : Nt} {s : List Int × Int} {plan : List (List Int)} (ha : EvD K ta σ H (eNt n)) (hb : EvD K tb σ H (eS s)) (hc : EvD K tc σ H (.list (plan.map eI))) (hd : n.things.length ≤ 6 ∧ standOk n.things.length s = true) :
    EvD K (tCall (spLTakes K) [] E (tCons ta (tCons tb (tCons tc tNil)))) σ H (eOpt (n.lawTk s 0 plan)) := ed_call (x := (n, s, plan)) hd (eds_cons ha (eds_cons hb (eds_cons hc eds_nil)))
theorem ed_alike {K : PySem.W.Frag} {σ : L2.St} {H : Hp} {ta tb : TE} {E : XK} {x y : Option Int} (ha : EvD K ta σ H (eOpt x)) (hb : EvD K tb σ H (eOpt y)) : EvD K (tCall (spAlike K) [] E (tCons ta (tCons tb tNil))) σ H (.bool (decide (x = y))) :=
  ed_call (x := (x, y)) trivial (eds_cons ha (eds_cons hb eds_nil))

end Fy

namespace Fy
open PySem PySem.Spec PyProof.Rows L2
/-! ### dicts whose keys are standings -/
def kS (s : List Int × Int) : NestedKey := .tup [.tup (s.1.map .num), .num s.2]
theorem num_inj : ∀ {g k : List Int}, g.map NestedKey.num = k.map NestedKey.num → g = k
  | [], [], _ => rfl
  | [], _ :: _, h => by simp at h
  | _ :: _, [], h => by simp at h
  | x :: g, y :: k, h => by
    rw [List.map_cons, List.map_cons, List.cons.injEq] at h
    rw [NestedKey.num.inj h.1, num_inj h.2]
theorem kS_inj {s t : List Int × Int} (h : kS s = kS t) : s = t := by
  unfold kS at h
  have h1 := NestedKey.tup.inj h
  rw [List.cons.injEq, List.cons.injEq] at h1
  have a := num_inj (NestedKey.tup.inj h1.1)
  have b := NestedKey.num.inj h1.2.1
  exact Prod.ext a b
/-- an entry: the key's own tuple, the standing, what it holds -/
abbrev DEnt : Type := Addr × (List Int × Int) × V
def rowsN : List DEnt → List Value → List (NestedKey × Addr × Value)
  | p :: L, u :: us => (kS p.2.1, p.1, u) :: rowsN L us
  | _, _ => []
def Dn (P : Program) (w : World) (d : Addr) (L : List DEnt) (h : Heap) : Prop := L.length ≤ sizeLine ∧ (d == sysModules) = false ∧ (L.map (·.2.1)).Nodup ∧ ∃ (us : List Value) (o : Obj) (es : Array DictEntry) (ep : Nat), Vals (L.map (·.2.2)) us ∧ h.get? d = some o ∧ o.ExactDict ∧ o.data = .dict es ep ∧ es.toList = (rowsN L us).map (entryOfKey (nestedKind P w))
def DnO (P : Program) (w : World) (d : Addr) (L : List DEnt) : HO := .ext (Dn P w d L)
theorem dn_ok {P : Program} {w : World} {H : Hp} {h : Heap} {d : Addr} {L : List DEnt} (x : Dn P w d L h) : ObjOk P w H h d (DnO P w d L) := by
  obtain ⟨a, b, n, us, o, es, ep, r, ho, q⟩ := id x
  refine ⟨x, ⟨o, ho⟩, fun h1 h2 p k => ?_⟩
  obtain ⟨a, b, n, us, o, es, ep, r, ho, q⟩ := p
  exact ⟨a, b, n, us, o, es, ep, r, k o ho, q⟩
/-- what stands at a standing -/
def atL (L : List DEnt) (s : List Int × Int) : Option V := (L.find? fun p => decide (p.2.1 = s)).map (·.2.2)
def putL (L : List DEnt) (s : List Int × Int) (b : Addr) (v : V) : List DEnt := if (atL L s).isSome then L.map (fun p => if p.2.1 = s then (p.1, p.2.1, v) else p) else L ++ [(b, s, v)]
theorem rows_at : ∀ {L : List DEnt} {us : List Value} (_ : Vals (L.map (·.2.2)) us) (s : List Int × Int), RelO (atL L s) ((atKey (rowsN L us) (kS s)).map (·.2))
  | [], us, r, s => by cases r; exact True.intro
  | p :: L, us, r, s => by
    cases r with
    | @cons a u as us' h t =>
      unfold atL atKey rowsN
      rw [List.find?_cons, List.find?_cons]
      by_cases e : p.2.1 = s
      · rw [decide_eq_true e, decide_eq_true (show kS p.2.1 = kS s by rw [e])]
        exact h
      · rw [decide_eq_false e, decide_eq_false (fun q => e (kS_inj q))]
        exact rows_at t s
theorem rows_keys : ∀ {L : List DEnt} {us : List Value} (_ : Vals (L.map (·.2.2)) us), (rowsN L us).map (·.1) = L.map fun p => kS p.2.1
  | [], us, r => by cases r; rfl
  | p :: L, us, r => by
    cases r with
    | cons h t => show kS p.2.1 :: _ = _; rw [rows_keys t]; rfl
theorem rows_len : ∀ {L : List DEnt} {us : List Value} (_ : Vals (L.map (·.2.2)) us), (rowsN L us).length = L.length := fun {L us} r => by
  have := congrArg List.length (rows_keys r)
  rwa [List.length_map, List.length_map] at this
theorem rows_nodup {L : List DEnt} {us : List Value} (r : Vals (L.map (·.2.2)) us) (n : (L.map (·.2.1)).Nodup) : ((rowsN L us).map (·.1)).Nodup := by
  rw [rows_keys r]
  rw [List.nodup_iff_pairwise_ne, List.pairwise_map] at n ⊢
  exact n.imp fun h e => h (kS_inj e)
theorem rows_map : ∀ {L : List DEnt} {us : List Value} (_ : Vals (L.map (·.2.2)) us) (s : List Int × Int) {v : V} {u : Value} (_ : RelV v u),
    ∃ us', Vals ((L.map fun p => if p.2.1 = s then (p.1, p.2.1, v) else p).map (·.2.2)) us' ∧ (rowsN L us).map (putAt (kS s) u) = rowsN (L.map fun p => if p.2.1 = s then (p.1, p.2.1, v) else p) us'
  | [], us, r, s, v, u, rv => by cases r; exact ⟨[], .nil, rfl⟩
  | p :: L, us, r, s, v, u, rv => by
    cases r with
    | @cons a x as us' h t =>
      obtain ⟨ws, q1, q2⟩ := rows_map t s rv
      by_cases e : p.2.1 = s
      · refine ⟨u :: ws, ?_, ?_⟩
        · rw [List.map_cons, if_pos e]; exact .cons rv q1
        · rw [List.map_cons, if_pos e]
          show putAt (kS s) u (kS p.2.1, p.1, x) :: _ = _
          unfold putAt
          rw [if_pos (by rw [e])]
          show _ = (kS p.2.1, p.1, u) :: rowsN _ ws
          rw [← q2]
          rfl
      · refine ⟨x :: ws, ?_, ?_⟩
        · rw [List.map_cons, if_neg e]; exact .cons h q1
        · rw [List.map_cons, if_neg e]
          show putAt (kS s) u (kS p.2.1, p.1, x) :: _ = (kS p.2.1, p.1, x) :: rowsN _ ws
          rw [← q2]
          congr 1
          unfold putAt
          rw [if_neg (fun q => e (kS_inj q))]
theorem rows_app : ∀ {L : List DEnt} {us : List Value} (_ : Vals (L.map (·.2.2)) us) (p : DEnt) {u : Value} (_ : RelV p.2.2 u), Vals ((L ++ [p]).map (·.2.2)) (us ++ [u]) ∧ rowsN (L ++ [p]) (us ++ [u]) = rowsN L us ++ [(kS p.2.1, p.1, u)]
  | [], us, r, p, u, rv => by cases r; exact ⟨.cons rv .nil, rfl⟩
  | q :: L, us, r, p, u, rv => by
    cases r with
    | @cons a x as us' h t =>
      obtain ⟨a1, a2⟩ := rows_app t p rv
      exact ⟨.cons h a1, by show _ :: rowsN (L ++ [p]) (us' ++ [u]) = _; rw [a2]; rfl⟩
theorem rows_put {L : List DEnt} {us : List Value} (r : Vals (L.map (·.2.2)) us) (s : List Int × Int) (b : Addr) {v : V} {u : Value} (rv : RelV v u) :
    ∃ us', Vals ((putL L s b v).map (·.2.2)) us' ∧ storedH (rowsN L us) (kS s) b u = rowsN (putL L s b v) us' := by
  have q := (rows_at r s).isSome_eq
  rw [Option.isSome_map] at q
  unfold putL storedH
  rw [← q]
  cases h : (atL L s).isSome with
  | true => rw [if_pos rfl, if_pos rfl]; exact rows_map r s rv
  | false =>
    rw [if_neg Bool.false_ne_true, if_neg Bool.false_ne_true]
    obtain ⟨a1, a2⟩ := rows_app r (b, s, v) rv
    exact ⟨_, a1, a2.symm⟩
theorem putL_keys {L : List DEnt} {s : List Int × Int} {b : Addr} {v : V} : (putL L s b v).map (·.2.1) = if (atL L s).isSome then L.map (·.2.1) else L.map (·.2.1) ++ [s] := by
  unfold putL
  split
  · rw [List.map_map]
    refine List.map_congr_left fun p _ => ?_
    show (if p.2.1 = s then (p.1, p.2.1, v) else p).2.1 = p.2.1
    split <;> rfl
  · rw [List.map_append]; rfl
theorem atL_none {L : List DEnt} {s : List Int × Int} (h : (atL L s).isSome = false) : s ∉ L.map (·.2.1) := by
  intro hm
  obtain ⟨p, hp, e⟩ := List.mem_map.mp hm
  unfold atL at h
  rw [Option.isSome_map, ← Bool.not_eq_true, List.find?_isSome] at h
  exact h ⟨p, hp, decide_eq_true e⟩
theorem putL_nodup {L : List DEnt} {s : List Int × Int} {b : Addr} {v : V} (n : (L.map (·.2.1)).Nodup) : ((putL L s b v).map (·.2.1)).Nodup := by
  rw [putL_keys]
  split
  · exact n
  · rename_i h
    refine List.nodup_append.mpr ⟨n, by simp, fun a ha c hc e => ?_⟩
    rw [List.mem_singleton.mp hc] at e
    rw [e] at ha
    exact atL_none (by simpa using h) ha
theorem putL_len {L : List DEnt} {s : List Int × Int} {b : Addr} {v : V} : (putL L s b v).length ≤ L.length + 1 := by
  have := congrArg List.length (putL_keys (L := L) (s := s) (b := b) (v := v))
  rw [List.length_map] at this
  rw [this]
  split
  · rw [List.length_map]; omega
  · rw [List.length_append, List.length_map]; exact Nat.le_refl _
section
variable {X : Cx} {pins : List (Addr × Obj)} {σ : L2.St} {H : Hp} {s : Shared}
theorem nested_ints {h : Heap} : ∀ {g : List Int} {us : List Value}, Vals (g.map V.int) us → NestedAll h (g.map .num) us
  | [], us, r => by cases r; exact .nil
  | i :: g, us, r => by
    cases r with
    | cons r1 r2 => obtain ⟨t, rfl⟩ := r1; exact .cons (.int i t) (nested_ints r2)
theorem nested_of (I : Inv X pins σ H s) {b : Addr} {t : List Int × Int} (hd : Dp X.K H (.ref b) (eS t)) : (nestedKind X.prog X.w).is s.heap (kS t) b := by
  obtain ⟨a, g, e, hs, hg⟩ := dp_eS.mp hd
  cases e
  obtain ⟨ga, rfl, hgs⟩ := dp_eI.mp hg
  obtain ⟨its, r, ⟨o, ho, hc, n, hdt⟩, _⟩ := I.tuple hs
  obtain ⟨jts, r2, ⟨o2, ho2, hc2, n2, hdt2⟩, _⟩ := I.tuple hgs
  cases r with
  | cons r1 r3 => cases r3 with
    | cons r4 r5 =>
      cases r5
      cases r1
      obtain ⟨tk, rfl⟩ := r4
      refine ⟨.tup ho hc hdt (.cons (.tup ho2 hc2 hdt2 (by simpa using nested_ints r2)) (.cons (.int _ _) .nil)), ?_⟩
      have z : ∀ g : List Int, NestedKey.depthAll (g.map .num) = 0 := fun g => by
        induction g with
        | nil => simp [NestedKey.depthAll]
        | cons i g ih => rw [List.map_cons]; simp [NestedKey.depthAll, NestedKey.depth, ih]
      unfold kS
      simp [NestedKey.depthAll, NestedKey.depth, z]
/-- the keys' tuples stand -/
def KeysOk (K : PySem.W.Frag) (H : Hp) (L : List DEnt) : Prop := ∀ p ∈ L, Dp K H (.ref p.1) (eS p.2.1)
theorem dn_read {d : Addr} {L : List DEnt} (I : Inv X pins σ H s) (e : Rd H d (DnO X.prog X.w d L)) (hk : KeysOk X.K H L) :
    L.length ≤ sizeLine ∧ (d == sysModules) = false ∧ (L.map (·.2.1)).Nodup ∧ ∃ us, Vals (L.map (·.2.2)) us ∧ s.heap.DictOfH (nestedKind X.prog X.w) d (rowsN L us) := by
  obtain ⟨⟨a, b, n, us, o, es, ep, r, ho, hx, hdt, he⟩, _, _⟩ := rd_of I.hok e
  refine ⟨a, b, n, us, r, o, es, ep, ho, hx, hdt, he, fun x hx => ?_, rows_nodup r n⟩
  have all : ∀ {L : List DEnt} {us : List Value}, KeysOk X.K H L → Vals (L.map (·.2.2)) us → ∀ x ∈ rowsN L us, (nestedKind X.prog X.w).is s.heap x.1 x.2.1 := by
    intro L
    induction L with
    | nil => intro us _ r x hx; cases r; cases hx
    | cons p L ih =>
      intro us hk r x hx
      cases r with
      | cons h t =>
        rcases List.mem_cons.mp hx with rfl | hx
        · exact nested_of I (hk p List.mem_cons_self)
        · exact ih (fun q hq => hk q (List.mem_cons_of_mem _ hq)) t x hx
  exact all hk r x hx
/-- t in d, t not in d, d[t] -/
def rInN (K : PySem.W.Frag) (P : Program) (w : World) (neg : Bool) : R2 := fun x y H Q => ∃ d b L t, x = .ref b ∧ y = .ref d ∧ Rd H d (DnO P w d L) ∧ KeysOk K H L ∧ Dp K H (.ref b) (eS t) ∧ Q (.bl (if neg = true then !(atL L t).isSome else (atL L t).isSome)) H
theorem op_inN (hu : X.A.units + 64 < cLine) : OpR X (compareOp .In) (rInN X.K X.prog X.w false) := by
  intro pins s σ H x y v u Q I rx ry h
  obtain ⟨d, b, L, t, rfl, rfl, e, hk, hb, q⟩ := h
  cases rx
  cases ry
  obtain ⟨_, hd, _, us, r, dd⟩ := dn_read I e hk
  refine wpAny_in_heap (show X.A.in1.units + 8 < cLine from by have e1 : X.A.in1.units = X.A.units + 1 := rfl; omega) (nested_of I hb) hd dd ⟨.bl _, H, I.tok _, ?_, q⟩
  have z := (rows_at r t).isSome_eq
  rw [Option.isSome_map] at z
  rw [← z]
  rfl
theorem op_notInN (hu : X.A.units + 64 < cLine) : OpR X (compareOp .NotIn) (rInN X.K X.prog X.w true) := by
  intro pins s σ H x y v u Q I rx ry h
  obtain ⟨d, b, L, t, rfl, rfl, e, hk, hb, q⟩ := h
  cases rx
  cases ry
  obtain ⟨_, hd, _, us, r, dd⟩ := dn_read I e hk
  refine wpAny_notIn_heap (show X.A.in1.units + 8 < cLine from by have e1 : X.A.in1.units = X.A.units + 1 := rfl; omega) (nested_of I hb) hd dd ⟨.bl _, H, I.tok _, ?_, q⟩
  have z := (rows_at r t).isSome_eq
  rw [Option.isSome_map] at z
  rw [← z]
  rfl
/-- d[t] = v -/
def rSetN (K : PySem.W.Frag) (P : Program) (w : World) : V → V → V → Hp → (Hp → Prop) → Prop := fun o i v H Q => ∃ d b L t, o = .ref d ∧ i = .ref b ∧ H d = some (DnO P w d L) ∧ KeysOk K H L ∧ Dp K H (.ref b) (eS t) ∧ L.length < sizeLine ∧ Q (upd H d (DnO P w d (putL L t b v)))
theorem set_dn (hu : X.A.units + 64 < cLine) : PSet X (rSetN X.K X.prog X.w) := by
  intro pins s σ H o i v ov iv u Q I ro ri rv h
  obtain ⟨d, b, L, t, rfl, rfl, e, hk, hb, hz, q⟩ := h
  cases ro
  cases ri
  obtain ⟨_, hd, n, us, r, dd⟩ := dn_read I (.inl e) hk
  refine wpAny_setItem_heap (hsz := by rw [rows_len r]; omega) (show X.A.in1.units + 8 < cLine from by have e1 : X.A.in1.units = X.A.units + 1 := rfl; omega) (nested_of I hb) dd fun h' dd' hs => ?_
  obtain ⟨us', r', e'⟩ := rows_put r t b rv
  rw [e'] at dd'
  obtain ⟨o, es, ep, ho, hx, hdt, he, _, _⟩ := dd'
  refine ⟨_, d_write (t' := s.toks + (nestedKind X.prog X.w).draws (kS t)) I (by rw [e]; exact True.intro) hs ⟨o, ho⟩ (dn_ok ⟨by have := putL_len (L := L) (s := t) (b := b) (v := v); omega, hd, putL_nodup n, us', o, es, ep, r', ho, hx, hdt, he⟩), q⟩
end

end Fy

namespace Fy
open PySem PySem.Spec PyProof.Rows L2
section
variable {X : Cx}
def rIxN (K : PySem.W.Frag) (P : Program) (w : World) : R2 := fun x y H Q => ∃ d b L t v, x = .ref d ∧ y = .ref b ∧ Rd H d (DnO P w d L) ∧ KeysOk K H L ∧ Dp K H (.ref b) (eS t) ∧ atL L t = some v ∧ Q v H
theorem ix_dn (hu : X.A.units + 64 < cLine) : IxR X (rIxN X.K X.prog X.w) := by
  intro value slice pins s σ H x y v u Q I rx ry h hs
  obtain ⟨d, b, L, t, x', rfl, rfl, e, hk, hb, hat, q⟩ := h
  cases rx
  cases ry
  obtain ⟨_, hd, _, us, r, dd⟩ := dn_read I e hk
  have hT : s.TypeIs (.ref d) "dict" := dd.typeIs
  obtain ⟨x2, hw, rw'⟩ := RelO.some_of (v := x') (o := (atKey (rowsN L us) (kS t)).map (·.2)) (by rw [← hat]; exact rows_at r t)
  obtain ⟨p, hp, hp2⟩ := Option.map_eq_some_iff.mp hw
  have g : wpAny (model X.prog X.w) X.A (getItem (.ref d) (.ref b)) (EP X pins σ Q) X.xe s := by
    refine wpAny_getItem_heap (show X.A.in1.units + 8 < cLine from by have e1 : X.A.in1.units = X.A.units + 1 := rfl; omega) (nested_of I hb) dd hp ?_
    rw [hp2]
    exact ⟨x', H, I.tok _, rw', q⟩
  unfold subscriptTail
  refine wpAny_bind ?_
  rw [getitemInPython_of_ne hT.not_modules]
  refine wpAny_bind (wpAny_specialOf hT PySem.F.slot_dict_getitem.lookup ?_)
  have fin : wpAny (model X.prog X.w) X.A (subscripted slice false (.ref d) (.ref b)) (fun r s₃ => wpAny (model X.prog X.w) X.A (letTemporaryGo value (.ref d) r >>= fun _ => pure r) (EP X pins σ Q) X.xe s₃) X.xe s := by
    rw [hs]
    exact wpAny_operating (wpAny_mono g (fun r s₃ h₃ => wpAny_bind (wpAny_letTemporaryGo (wpAny_pure h₃))) fun _ _ x => x)
  first
    | exact wpAny_pure (wpAny_bind fin)
    | exact wpAny_bind (wpAny_pure (wpAny_bind fin))
    | exact wpAny_bind fin
/-- d.get(t) -/
def tGetN (K : PySem.W.Frag) (P : Program) (w : World) (td ty : TE) : TE := fun σ H Q => td σ H fun x H1 => ∃ d L, x = .ref d ∧ Rd H1 d (DnO P w d L) ∧ KeysOk K H1 L ∧ ty σ H1 fun y H2 => ∃ b t, y = .ref b ∧ Rd H2 d (DnO P w d L) ∧ KeysOk K H2 L ∧ Dp K H2 (.ref b) (eS t) ∧ Q ((atL L t).getD .non) H2
theorem pe_getN {o e : Expr} {td ty : TE} {apos cpos : Pos} (hu : X.A.units + 64 < cLine) (ho : PE X o td) (he : PE X e ty) (m : M1 X o "get" apos e cpos) : PE X (.Call (.Attribute o "get" apos) [e] [] cpos) (tGetN X.K X.prog X.w td ty) := by
  refine ⟨fun pins s σ H Q I h => ?_⟩
  refine wpAny_Call_method m.base m.few m.line PySem.F.plainAttrs_dict PySem.F.slot_dict_get PySem.F.type_dict_get (thn (ho.run pins s σ H _ I h) fun u s1 ⟨x, H1, I1, rx, d, L, ex, hd, hk, q1⟩ => ?_)
  subst ex
  obtain rfl : u = Value.ref d := rx
  obtain ⟨_, hds, _, us, r, dd⟩ := dn_read I1 hd hk
  refine ⟨dd.typeIs, fun b z => ?_, ?_⟩
  · cases z
    obtain ⟨o, es, ep, h1, h2, _⟩ := id dd
    exact ⟨o, h1, h2.2.1⟩
  rw [m.trees]
  refine Calls.callWith_builtin rfl (Calls.evalArgs_plain (Calls.spliced_cons (thn (he.run pins s1 σ H1 _ I1 q1) fun iv s2 ⟨y, H2, I2, ry, b, t, ey, hd2, hk2, hb, q2⟩ => Calls.spliced_nil ?_)))
  subst ey
  obtain rfl : iv = Value.ref b := ry
  obtain ⟨_, _, _, us2, r2, dd2⟩ := dn_read I2 hd2 hk2
  refine call_meetsIn PySem.F.slot_dict_get dd2.typeIs PySem.F.entry_dict_get (PySem.F.args_dict_get_2 _ _) (meetsH_dict_get (nestedKind X.prog X.w) d b hds) ⟨show X.A.in1.units + 8 < cLine from by have e1 : X.A.in1.units = X.A.units + 1 := rfl; omega, kS t, rowsN L us2, nested_of I2 hb, dd2, _, H2, I2.tok _, ?_, q2⟩
  have z := rows_at r2 t
  cases ha : atL L t with
  | none =>
    rw [ha] at z
    cases hb2 : (atKey (rowsN L us2) (kS t)).map (·.2) with
    | none => rfl
    | some y => rw [hb2] at z; exact z.elim
  | some y =>
    rw [ha] at z
    obtain ⟨y2, hy2, ry2⟩ := RelO.some_of z
    rw [hy2]
    exact ry2
/-- {} -/
def tNewN (P : Program) (w : World) : TE := fun _ H Q => ∀ p, H p = none → Q (.ref p) (upd H p (DnO P w p []))
theorem dn_empty {P : Program} {w : World} (h : Heap) (hb : sysModules < h.objs.size) : Dn P w h.objs.size [] (h.push { cls := .type "dict", data := .dict #[] }) :=
  ⟨Nat.zero_le _, beq_eq_false_iff_ne.mpr (Ne.symm (Nat.ne_of_lt hb)), by simp, [], _, #[], 0, .nil, Heap.get?_push_size _ rfl, ⟨rfl, rfl, rfl⟩, rfl, rfl⟩
theorem pe_newN {pos : Pos} : PE X (.Dict [] [] pos) (tNewN X.prog X.w) := ⟨fun pins s σ H Q I h =>
  wpAny_Dict_empty ⟨.ref s.heap.objs.size, _, I.laid (a := s.heap.objs.size) (o := DnO X.prog X.w s.heap.objs.size []) (t' := s.toks) (fun _ _ q => Heap.get?_push_of_some _ q) (Nat.le_refl _) (dn_ok (dn_empty s.heap I.big)), rfl, h _ (I.hok.fresh (Nat.le_refl _))⟩⟩
/-! the keys of a dict that is locked -/
def ItN (P : Program) (w : World) (d : Addr) (o : Obj) (L : List DEnt) : It :=
  ⟨fun i H => H d = some (.frz o (DnO P w d L)) ∧ i < L.length, fun i H x H' => H' = H ∧ ∃ p, L[i]? = some p ∧ x = .ref p.1, fun i H => H d = some (.frz o (DnO P w d L)) ∧ L.length ≤ i⟩
theorem frzN {pins : List (Addr × Obj)} {σ : L2.St} {H : Hp} {s : Shared} {d : Addr} {o : Obj} {L : List DEnt} (I : Inv X pins σ H s) (h : H d = some (.frz o (DnO X.prog X.w d L))) :
    (d == sysModules) = false ∧ s.heap.get? d = some o ∧ o.ExactDict ∧ ∃ (es : Array DictEntry) (ep : Nat), o.data = .dict es ep ∧ es.size = L.length ∧ ∀ (i : Nat) (p : DEnt), L[i]? = some p → ∃ en : DictEntry, es[i]? = some en ∧ en.key = .ref p.1 := by
  obtain ⟨hd, ⟨a, b, n, us, o', es, ep, r, ho, hx, hdt, he⟩, _, _⟩ := I.hok d _ h
  rw [hd] at ho
  cases ho
  have hl : es.size = L.length := by rw [size_of_entries he, rows_len r]
  refine ⟨b, hd, hx, es, ep, hdt, hl, fun i p hp => ?_⟩
  have q := entry_at he i
  have rk : ∀ {L : List DEnt} {us : List Value} (_ : Vals (L.map (·.2.2)) us) (i : Nat) (p : DEnt), L[i]? = some p → ∃ u, (rowsN L us)[i]? = some (kS p.2.1, p.1, u) := by
    intro L
    induction L with
    | nil => intro us r i p hp; simp at hp
    | cons c L ih =>
      intro us r i p hp
      cases r with
      | @cons a u as us' h t =>
        cases i with
        | zero => simp at hp; subst hp; exact ⟨u, rfl⟩
        | succ j => exact ih t j p (by simpa using hp)
  obtain ⟨u, hu⟩ := rk r i p hp
  rw [hu] at q
  exact ⟨_, q, rfl⟩
end
section
variable {P : Program} {w : World} {K : PySem.W.Frag} {tg : Expr} {d : Addr} {o : Obj} {es : Array DictEntry} {ep : Nat}
theorem turn_N {L : List DEnt} (it : Addr) (hod : o.data = .dict es ep) : Turn P w K tg (ItN P w d o L) [it] it (fun i h => h.IsKeyIter it d i L.length ep) where
  mem := by simp
  obj := fun i h st b hb => by
    have e : b = it := by simpa using hb
    subst e
    obtain ⟨oi, e, c, dd⟩ := st
    exact ⟨oi, e, fun v z => by rw [dd] at z; cases z⟩
  keep := fun i h h' st k => st.at fun oi e => k it (by simp) oi e
  item := by
    intro X hP hw hK hc i pins s σ H E I hf st hg
    subst hP hw hK
    obtain ⟨hd, hi⟩ := hg
    obtain ⟨f0, f1, f2, f3, f4, f5⟩ := hf it (by simp)
    obtain ⟨hs, hgd, hx, es', ep', hdt, hsz, ent⟩ := frzN I hd
    obtain ⟨rfl, rfl⟩ := dict_ep hod hdt
    obtain ⟨p, hp⟩ : ∃ p, L[i]? = some p := ⟨L[i], List.getElem?_eq_getElem hi⟩
    obtain ⟨en, hen, hkey⟩ := ent i p hp
    refine next_key_item st hgd hdt hsz hen fun h' st' sb => ?_
    have I1 : Inv X pins σ H { s with heap := h' } := I.turned (t' := s.toks) (fun b ob hb e => (sb.2 b hb).trans e) f0 f1 f3 f4 f5
    obtain ⟨oi, e, c, dd⟩ := id st'
    exact ⟨en.key, rfl, go_of (s := { s with heap := h' }) e c dd (by decide) ⟨.ref p.1, H, I1, hkey, ⟨rfl, p, hp, rfl⟩, st', fun b hb => (hf b hb).1⟩⟩
  done := by
    intro X hP hw hK hc i pins s σ H E I hf st hg
    subst hP hw hK
    obtain ⟨hd, hi⟩ := hg
    obtain ⟨f0, f1, f2, f3, f4, f5⟩ := hf it (by simp)
    obtain ⟨hs, hgd, hx, es', ep', hdt, hsz, ent⟩ := frzN I hd
    obtain ⟨rfl, rfl⟩ := dict_ep hod hdt
    exact next_key_end (I.ok.hd hc) st hgd hdt hsz hi fun h' eb => ⟨rfl, I.turned (t' := s.toks) (fun b ob hb e => eb b ob hb e) f0 f1 f3 f4 f5⟩
  self := fun A i s Q E st h => by
    refine wpAny_pyIter_slot st.typeIs F.slot_dict_keyiterator_iter (wpAny_call_entry F.slot_dict_keyiterator_iter st.typeIs F.entry_dict_keyiterator_iter ?_ (F.args_dict_keyiterator_iter_1 _))
    show wpAny _ _ (ret (.ref it)) _ _ s
    exact wpAny_pure ⟨_, rfl, "dict_keyiterator", _, st.typeIs, F.slot_dict_keyiterator_next.lookup, h⟩
end
def iKeysN (P : Program) (w : World) (td : TE) : TI := fun σ H R => td σ H fun x H1 => ∃ d o L, x = .ref d ∧ H1 d = some (.frz o (DnO P w d L)) ∧ R (ItN P w d o L) H1
theorem pi_keysN {X : Cx} {tg e : Expr} {td : TE} (he : PE X e td) : PI X tg e (iKeysN X.prog X.w td) := by
  refine ⟨fun pins s σ H R I h => ?_⟩
  refine thn (he.run pins s σ H _ I h) fun u s1 ⟨x, H1, I1, rx, d, o, L, ex, hd, q⟩ => ?_
  subst ex
  obtain rfl : u = Value.ref d := rx
  obtain ⟨hs, hgd, hx, es, ep, hdt, hsz, ent⟩ := frzN I1 hd
  refine iter_keys hs hgd hx hdt (pi_one (tk := s1.toks) I1 _ (turn_N _ hdt) ⟨_, Heap.get?_push_size _ rfl, rfl, ?_⟩ q)
  rw [hsz] <;> rfl

end Fy

namespace Fy
open PySem PySem.Spec PyProof.Rows L2
/-! ### dicts keyed by standings, by data -/
abbrev KvD : Type := List ((List Int × Int) × PyData)
def Ent (K : PySem.W.Frag) (H : Hp) (p : DEnt) (q : (List Int × Int) × PyData) : Prop := p.2.1 = q.1 ∧ Dp K H (.ref p.1) (eS q.1) ∧ Dp K H p.2.2 q.2
inductive Ents (K : PySem.W.Frag) (H : Hp) : List DEnt → KvD → Prop
  | nil : Ents K H [] []
  | cons {p q L kv} : Ent K H p q → Ents K H L kv → Ents K H (p :: L) (q :: kv)
def look (kv : KvD) (s : List Int × Int) : Option PyData := (kv.find? fun q => decide (q.1 = s)).map (·.2)
def kvPut (kv : KvD) (s : List Int × Int) (d : PyData) : KvD := if (look kv s).isSome then kv.map (fun q => if q.1 = s then (q.1, d) else q) else kv ++ [(s, d)]
section
variable {K : PySem.W.Frag} {H H' : Hp}
theorem Ents.len : ∀ {L : List DEnt} {kv : KvD}, Ents K H L kv → L.length = kv.length
  | _, _, .nil => rfl
  | _, _, .cons _ t => by simp [t.len]
theorem Ents.keys : ∀ {L : List DEnt} {kv : KvD}, Ents K H L kv → KeysOk K H L
  | _, _, .nil => fun p hp => nomatch hp
  | _, _, .cons h t => fun p hp => by
    rcases List.mem_cons.mp hp with rfl | hp
    · rw [h.1]; exact h.2.1
    · exact t.keys p hp
theorem Ents.mono (e : Ex H H') : ∀ {L : List DEnt} {kv : KvD}, Ents K H L kv → Ents K H' L kv
  | _, _, .nil => .nil
  | _, _, .cons h t => .cons ⟨h.1, dp_mono e _ _ h.2.1, dp_mono e _ _ h.2.2⟩ (t.mono e)
/-- what holds no list stays while tuples stay -/
theorem Ents.up (e : Up H H') : ∀ {L : List DEnt} {kv : KvD}, (∀ q ∈ kv, noL q.2 = true) → Ents K H L kv → Ents K H' L kv
  | _, _, _, .nil => .nil
  | _, _, n, .cons h t => .cons ⟨h.1, dp_up e _ _ (noL_eS _) h.2.1, dp_up e _ _ (n _ List.mem_cons_self) h.2.2⟩ (t.up e fun q hq => n q (List.mem_cons_of_mem _ hq))
theorem Ents.at (s : List Int × Int) : ∀ {L : List DEnt} {kv : KvD}, Ents K H L kv → (atL L s = none ∧ look kv s = none) ∨ ∃ v d, atL L s = some v ∧ look kv s = some d ∧ Dp K H v d
  | _, _, .nil => .inl ⟨rfl, rfl⟩
  | p :: L, q :: kv, .cons h t => by
    unfold atL look
    rw [List.find?_cons, List.find?_cons, h.1]
    by_cases e : q.1 = s
    · rw [decide_eq_true e]; exact .inr ⟨_, _, rfl, rfl, h.2.2⟩
    · rw [decide_eq_false e]; exact t.at s
theorem Ents.isSome (s : List Int × Int) {L : List DEnt} {kv : KvD} (h : Ents K H L kv) : (atL L s).isSome = (look kv s).isSome := by
  rcases h.at s with ⟨a, b⟩ | ⟨v, d, a, b, _⟩ <;> rw [a, b] <;> rfl
theorem Ents.put {s : List Int × Int} {b : Addr} {v : V} {d : PyData} (hb : Dp K H (.ref b) (eS s)) (hv : Dp K H v d) {L : List DEnt} {kv : KvD} (h : Ents K H L kv) : Ents K H (putL L s b v) (kvPut kv s d) := by
  unfold putL kvPut
  rw [h.isSome s]
  have mp : ∀ {L : List DEnt} {kv : KvD}, Ents K H L kv → Ents K H (L.map fun p => if p.2.1 = s then (p.1, p.2.1, v) else p) (kv.map fun q => if q.1 = s then (q.1, d) else q) := by
    intro L kv h
    induction h with
    | nil => exact .nil
    | @cons p q L kv h t ih =>
      refine .cons ?_ ih
      dsimp only
      by_cases e : q.1 = s
      · rw [if_pos (h.1.trans e), if_pos e]; exact ⟨h.1, h.2.1, hv⟩
      · rw [if_neg (fun z => e (h.1.symm.trans z)), if_neg e]; exact h
  have ap : ∀ {L : List DEnt} {kv : KvD}, Ents K H L kv → Ents K H (L ++ [(b, s, v)]) (kv ++ [(s, d)]) := by
    intro L kv h
    induction h with
    | nil => exact .cons ⟨rfl, hb, hv⟩ .nil
    | cons h t ih => exact .cons h ih
  split
  · exact mp h
  · exact ap h
theorem Ents.get : ∀ {L : List DEnt} {kv : KvD} {i : Nat} {p : DEnt}, Ents K H L kv → L[i]? = some p → ∃ q, kv[i]? = some q ∧ Ent K H p q
  | _, _, _, _, .nil, e => by simp at e
  | _, _, 0, _, .cons h _, e => by simp at e; subst e; exact ⟨_, rfl, h⟩
  | _, _, i + 1, _, .cons _ t, e => by simpa using Ents.get (i := i) t (by simpa using e)
/-- a value is a dict that reads as kv -/
def DnD (K : PySem.W.Frag) (P : Program) (w : World) (H : Hp) (v : V) (kv : KvD) : Prop := ∃ d L, v = .ref d ∧ Rd H d (DnO P w d L) ∧ Ents K H L kv
theorem Rd.mono {a : Addr} {u : HO} (e : Ex H H') (h : Rd H a u) : Rd H' a u := by
  rcases h with h | ⟨o, h⟩
  · exact .inl (e _ _ h)
  · exact .inr ⟨o, e _ _ h⟩
variable {P : Program} {w : World} {v : V} {kv : KvD} {σ : L2.St} {ta tb te tk : TE} {i : Nat} {t : List Int × Int} {d : PyData} {D : Ends} {tz : TS}
theorem DnD.mono (e : Ex H H') (h : DnD K P w H v kv) : DnD K P w H' v kv := by
  obtain ⟨d, L, rfl, h1, h2⟩ := h
  exact ⟨d, L, rfl, Rd.mono e h1, h2.mono e⟩
theorem ed_inN (hk : EvD K ta σ H (eS t)) (hi : σ[i]? = some (some v)) (hd : DnD K P w H v kv) : EvD K (tOp (rInN K P w false) ta (tVar i)) σ H (.bool (look kv t).isSome) := fun H1 x Q q =>
  hk H1 x _ fun u H2 x2 h2 => ⟨v, hi, by
    obtain ⟨dd, L, rfl, h1, hE⟩ := hd.mono (x.trans x2)
    obtain ⟨b, g, rfl, hb⟩ := dp_tup.mp h2
    refine ⟨dd, b, L, t, rfl, rfl, h1, hE.keys, h2, ?_⟩
    rw [if_neg Bool.false_ne_true, hE.isSome t]
    exact q _ H2 x2 (.bl _)⟩
theorem ed_notInN (hk : EvD K ta σ H (eS t)) (hi : σ[i]? = some (some v)) (hd : DnD K P w H v kv) : EvD K (tOp (rInN K P w true) ta (tVar i)) σ H (.bool (!(look kv t).isSome)) := fun H1 x Q q =>
  hk H1 x _ fun u H2 x2 h2 => ⟨v, hi, by
    obtain ⟨dd, L, rfl, h1, hE⟩ := hd.mono (x.trans x2)
    obtain ⟨b, g, rfl, hb⟩ := dp_tup.mp h2
    refine ⟨dd, b, L, t, rfl, rfl, h1, hE.keys, h2, ?_⟩
    rw [if_pos rfl, hE.isSome t]
    exact q _ H2 x2 (.bl _)⟩
theorem ed_ixN (hi : σ[i]? = some (some v)) (hd : DnD K P w H v kv) (hk : EvD K tb σ H (eS t)) (hl : look kv t = some d) : EvD K (tOp (rIxN K P w) (tVar i) tb) σ H d := fun H1 x Q q =>
  ⟨v, hi, hk H1 x _ fun u H2 x2 h2 => by
    obtain ⟨dd, L, rfl, h1, hE⟩ := hd.mono (x.trans x2)
    obtain ⟨b, g, rfl, hb⟩ := dp_tup.mp h2
    rcases hE.at t with ⟨_, z⟩ | ⟨v', d', a1, a2, a3⟩
    · rw [hl] at z; cases z
    · rw [hl] at a2
      cases a2
      exact ⟨dd, b, L, t, v', rfl, rfl, h1, hE.keys, h2, a1, q _ H2 x2 a3⟩⟩
theorem ed_getN (hi : σ[i]? = some (some v)) (hd : DnD K P w H v kv) (hk : EvD K tb σ H (eS t)) : EvD K (tGetN K P w (tVar i) tb) σ H ((look kv t).getD .none) := fun H1 x Q q => by
  obtain ⟨dd, L, rfl, h1, hE⟩ := hd.mono x
  refine ⟨_, hi, dd, L, rfl, h1, hE.keys, hk H1 x _ fun u H2 x2 h2 => ?_⟩
  have hE2 := hE.mono x2
  obtain ⟨b, g, rfl, hb⟩ := dp_tup.mp h2
  refine ⟨b, t, rfl, Rd.mono x2 h1, hE2.keys, h2, ?_⟩
  rcases hE2.at t with ⟨z1, z2⟩ | ⟨v', d', a1, a2, a3⟩
  · rw [z1]; rw [z2] at q; exact q _ H2 x2 .non
  · rw [a1]; rw [a2] at q; exact q _ H2 x2 a3
/-- d[t] = v, d not locked -/
theorem w_setN {dd : Addr} {L : List DEnt} {z : Nat} (he : EvD K te σ H d) (hi : σ[i]? = some (some (.ref dd))) (hk : EvD K tk σ H (eS t)) (h1 : H dd = some (DnO P w dd L)) (hE : Ents K H L kv) (hl : L.length ≤ 100000)
    (k : ∀ b u H1, Ex H H1 → Dp K H1 (.ref b) (eS t) → Dp K H1 u d → H1 dd = some (DnO P w dd L) → Ents K H1 (putL L t b u) (kvPut kv t d) → tz D σ (upd H1 dd (DnO P w dd (putL L t b u)))) :
    tSeq (tAsg te (gSub (tVar i) tk (rSetN K P w))) tz D σ H := he H (Evl.Ex.refl H) _ fun u H1 x1 hu => ⟨_, hi, hk H1 x1 _ fun y H2 x2 h2 => by
  obtain ⟨b, g, rfl, hb⟩ := dp_tup.mp h2
  have x := x1.trans x2
  have hE2 := hE.mono x
  have hu2 := dp_mono x2 _ _ hu
  exact ⟨dd, b, L, t, rfl, rfl, x _ _ h1, hE2.keys, h2, Nat.lt_of_le_of_lt hl (by decide), k b u H2 x h2 hu2 (x _ _ h1) (hE2.put h2 hu2)⟩⟩
end

end Fy

namespace Fy
open PySem PySem.Spec PyProof.Rows L2
/-! ### bettering over steps till nothing betters: the fewest, in plain Lean -/
abbrev St2 : Type := List Int × Int
abbrev KvI : Type := List (St2 × Int)
def lk (kv : KvI) (s : St2) : Option Int := (kv.find? fun q => decide (q.1 = s)).map (·.2)
def pt (kv : KvI) (s : St2) (v : Int) : KvI := if (lk kv s).isSome then kv.map (fun q => if q.1 = s then (q.1, v) else q) else kv ++ [(s, v)]
def eKv (kv : KvI) : KvD := kv.map fun q => (q.1, .int q.2)
theorem look_eKv (s : St2) : ∀ kv : KvI, look (eKv kv) s = (lk kv s).map .int
  | [] => rfl
  | q :: kv => by
    have h := look_eKv s kv
    unfold look lk eKv at h ⊢
    rw [List.map_cons, List.find?_cons, List.find?_cons]
    by_cases e : q.1 = s
    · rw [decide_eq_true e]; rfl
    · rw [decide_eq_false e]; exact h
theorem put_eKv (kv : KvI) (s : St2) (v : Int) : kvPut (eKv kv) s (.int v) = eKv (pt kv s v) := by
  unfold kvPut pt
  rw [look_eKv, Option.isSome_map]
  split
  · unfold eKv
    rw [List.map_map, List.map_map]
    refine List.map_congr_left fun q _ => ?_
    show (if q.1 = s then (q.1, PyData.int v) else (q.1, .int q.2)) = ((if q.1 = s then (q.1, v) else q).1, PyData.int (if q.1 = s then (q.1, v) else q).2)
    by_cases e : q.1 = s
    · rw [if_pos e, if_pos e]
    · rw [if_neg e, if_neg e]
  · unfold eKv; rw [List.map_append]; rfl
theorem lk_pt (kv : KvI) (s t : St2) (v : Int) : lk (pt kv s v) t = if t = s then some v else lk kv t := by
  have mp : ∀ kv : KvI, (lk kv s).isSome = true → lk (kv.map fun q => if q.1 = s then (q.1, v) else q) t = if t = s then some v else lk kv t := by
    intro kv
    induction kv with
    | nil => intro h; cases h
    | cons q kv ih =>
      intro h
      unfold lk at h ih ⊢
      rw [List.map_cons, List.find?_cons, List.find?_cons]
      by_cases e : q.1 = s
      · rw [if_pos e]
        by_cases e2 : t = s
        · rw [decide_eq_true (show q.1 = t from e.trans e2.symm), if_pos e2]; rfl
        · rw [decide_eq_false (show ¬ q.1 = t from fun z => e2 (z.symm.trans e)), if_neg e2]
          dsimp only
          -- behind: no further entry matters where t is not s
          have other : ∀ kv : KvI, ((kv.map fun q => if q.1 = s then (q.1, v) else q).find? fun q => decide (q.1 = t)).map (·.2) = (kv.find? fun q => decide (q.1 = t)).map (·.2) := by
            intro kv
            induction kv with
            | nil => rfl
            | cons q kv ih =>
              rw [List.map_cons, List.find?_cons, List.find?_cons]
              by_cases e3 : q.1 = s
              · rw [if_pos e3, decide_eq_false (show ¬ q.1 = t from fun z => e2 (z.symm.trans e3))]
                exact ih
              · rw [if_neg e3]
                by_cases e4 : q.1 = t
                · rw [decide_eq_true e4]
                · rw [decide_eq_false e4]; exact ih
          exact other kv
      · rw [if_neg e]
        rw [List.find?_cons, decide_eq_false e] at h
        by_cases e2 : q.1 = t
        · rw [decide_eq_true e2, if_neg (fun z => e (e2.trans z))]
        · rw [decide_eq_false e2]
          exact ih h
  unfold pt
  by_cases h : (lk kv s).isSome = true
  · rw [if_pos h]; exact mp kv h
  · rw [if_neg h]
    have h' : lk kv s = none := by cases hh : lk kv s with
      | none => rfl
      | some x => rw [hh] at h; simp at h
    unfold lk at h' ⊢
    rw [List.find?_append]
    by_cases e : t = s
    · subst e
      rw [if_pos rfl]
      have : (kv.find? fun q => decide (q.1 = t)) = none := by cases hh : (kv.find? fun q => decide (q.1 = t)) with
        | none => rfl
        | some x => rw [hh] at h'; cases h'
      rw [this]
      simp
    · rw [if_neg e]
      cases hh : (kv.find? fun q => decide (q.1 = t)) with
      | some x => simp
      | none => simp; exact fun z => e z.symm
theorem pt_len (kv : KvI) (s : St2) (v : Int) : (pt kv s v).length = if (lk kv s).isSome then kv.length else kv.length + 1 := by
  unfold pt
  split
  · rw [List.length_map]
  · rw [List.length_append]; rfl
/-- a way to the end and its sum -/
inductive Way (E : St2 → Int → St2 → Prop) (z : St2) : St2 → Int → Prop
  | nil : Way E z z 0
  | cons {s t c v} : E s c t → Way E z t v → Way E z s (c + v)
structure Bet (E : St2 → Int → St2 → Prop) (z : St2) (kv : KvI) : Prop where
  way : ∀ s v, lk kv s = some v → Way E z s v
  nn : ∀ s v, lk kv s = some v → 0 ≤ v
  top : ∀ s v, lk kv s = some v → v ≤ 1000000000 * ((kv.length : Int) - 1)
  fin : lk kv z = some 0 ∨ kv = []
theorem Bet.put {E : St2 → Int → St2 → Prop} {z s t : St2} {c v : Int} {kv : KvI} (b : Bet E z kv) (e : E s c t) (hc : 1 ≤ c ∧ c ≤ 1000000000) (ht : lk kv t = some v) (hs : lk kv s = none ∨ ∃ u, lk kv s = some u ∧ c + v < u) : Bet E z (pt kv s (c + v)) := by
  have hv := b.nn t v ht
  have hv2 := b.top t v ht
  have hz : s ≠ z := fun q => by
    subst q
    rcases b.fin with h | h
    · rcases hs with h2 | ⟨u, h2, h3⟩
      · rw [h] at h2; cases h2
      · rw [h] at h2; cases h2; omega
    · rw [h] at ht; cases ht
  have len : ((pt kv s (c + v)).length : Int) = if (lk kv s).isSome then (kv.length : Int) else (kv.length : Int) + 1 := by
    rw [pt_len]; split <;> simp
  refine ⟨fun x u h => ?_, fun x u h => ?_, fun x u h => ?_, ?_⟩
  · rw [lk_pt] at h
    by_cases q : x = s
    · rw [if_pos q] at h; cases h; rw [q]; exact .cons e (b.way t v ht)
    · rw [if_neg q] at h; exact b.way x u h
  · rw [lk_pt] at h
    by_cases q : x = s
    · rw [if_pos q] at h; cases h; omega
    · rw [if_neg q] at h; exact b.nn x u h
  · rw [lk_pt] at h
    rw [len]
    by_cases q : x = s
    · rw [if_pos q] at h; cases h
      rcases hs with h2 | ⟨w, h2, h3⟩
      · rw [h2, if_neg (by simp)]; omega
      · rw [h2, if_pos (by simp)]
        have := b.top s w h2
        omega
    · rw [if_neg q] at h
      have := b.top x u h
      split <;> omega
  · left
    rw [lk_pt, if_neg (fun q => hz q.symm)]
    rcases b.fin with h | h
    · exact h
    · rw [h] at ht; cases ht
/-- nothing betters any more -/
def Still (E : St2 → Int → St2 → Prop) (kv : KvI) : Prop := ∀ s c t, E s c t → ∀ v, lk kv t = some v → ∃ u, lk kv s = some u ∧ u ≤ c + v
theorem still_le {E : St2 → Int → St2 → Prop} {z : St2} {kv : KvI} (h : Still E kv) (hz : lk kv z = some 0) : ∀ {s : St2} {v : Int}, Way E z s v → ∃ u, lk kv s = some u ∧ u ≤ v := by
  intro s v w
  induction w with
  | nil => exact ⟨0, hz, Int.le_refl _⟩
  | cons e _ ih =>
    obtain ⟨u, h1, h2⟩ := ih
    obtain ⟨u', h3, h4⟩ := h _ _ _ e _ h1
    exact ⟨u', h3, by omega⟩
theorem still_uniq {E : St2 → Int → St2 → Prop} {z : St2} {kv kv' : KvI} (b : Bet E z kv) (b' : Bet E z kv') (h : Still E kv) (h' : Still E kv') (hz : lk kv z = some 0) (hz' : lk kv' z = some 0) (s : St2) : lk kv s = lk kv' s := by
  cases e : lk kv s with
  | none =>
    cases e' : lk kv' s with
    | none => rfl
    | some v =>
      obtain ⟨u, h1, _⟩ := still_le h hz (b'.way s v e')
      rw [e] at h1; cases h1
  | some v =>
    obtain ⟨u, h1, h2⟩ := still_le h' hz' (b.way s v e)
    obtain ⟨u2, h3, h4⟩ := still_le h hz (b'.way s u h1)
    rw [e] at h3
    cases h3
    rw [h1, show u = v by omega]
/-- what falls with each bettering -/
def costOf (B : Nat) (kv : KvI) (s : St2) : Nat := match lk kv s with
  | some v => v.toNat
  | none => B + 1
def sumCost (B : Nat) (Ss : List St2) (kv : KvI) : Nat := (Ss.map (costOf B kv)).sum
theorem sum_le {α : Type} {f g : α → Nat} : ∀ {l : List α}, (∀ x ∈ l, f x ≤ g x) → (l.map f).sum ≤ (l.map g).sum
  | [], _ => Nat.le_refl _
  | a :: l, h => by
    have h1 := h a List.mem_cons_self
    have h2 := sum_le (l := l) fun x hx => h x (List.mem_cons_of_mem _ hx)
    simp only [List.map_cons, List.sum_cons]
    omega
theorem sum_lt {α : Type} {f g : α → Nat} : ∀ {l : List α}, (∀ x ∈ l, f x ≤ g x) → (∃ x ∈ l, f x < g x) → (l.map f).sum < (l.map g).sum
  | [], _, ⟨x, hx, _⟩ => nomatch hx
  | a :: l, h, ⟨x, hx, hl⟩ => by
    have h1 := h a List.mem_cons_self
    have hr : ∀ x ∈ l, f x ≤ g x := fun x hx => h x (List.mem_cons_of_mem _ hx)
    simp only [List.map_cons, List.sum_cons]
    rcases List.mem_cons.mp hx with rfl | hx
    · have := sum_le hr; omega
    · have := sum_lt hr ⟨x, hx, hl⟩; omega
theorem sumCost_lt {B : Nat} {Ss : List St2} {kv : KvI} {s : St2} {v : Int} (hs : s ∈ Ss) (hv : 0 ≤ v) (hb : v ≤ B) (h : lk kv s = none ∨ ∃ u, lk kv s = some u ∧ v < u) : sumCost B Ss (pt kv s v) < sumCost B Ss kv := by
  have at_s : costOf B (pt kv s v) s < costOf B kv s := by
    unfold costOf
    rw [lk_pt, if_pos rfl]
    rcases h with h | ⟨u, h, hl⟩ <;> rw [h] <;> dsimp only <;> omega
  refine sum_lt (fun x _ => ?_) ⟨s, hs, at_s⟩
  by_cases e : x = s
  · rw [e]; exact Nat.le_of_lt at_s
  · unfold costOf
    rw [lk_pt, if_neg e]
    exact Nat.le_refl _

end Fy

namespace Fy
open PySem PySem.Spec PyProof.Rows L2
/-! ### the good standings in their order -/
def allGroups (m : Nat) : List (List Int) := [] :: groupsOf (rng m) (m : Int)
def Nt.stands (n : Nt) : List St2 := ((allGroups n.things.length).filter fun g => n.good (g, 0)).map (fun g => (g, (0 : Int))) ++ ((allGroups n.things.length).filter fun g => n.good (g, 1)).map fun g => (g, (1 : Int))
def lawStands (qs : List (Int × Int × Int)) (m : Nat) : List St2 := (((groups m).filter fun g => good qs g m).mergeSort leI).map (fun g => (g, (0 : Int))) ++ (((groups m).filter fun g => good qs g m).mergeSort leI).map fun g => (g, (1 : Int))
theorem allGroups_eq (m : Nat) (p : List Int → Bool) : (allGroups m).filter p = ((groups m).filter p).mergeSort leI := by
  obtain ⟨r, hr⟩ := growF_head (room := (m : Int)) (rng m) []
  have hr' : growF (m : Int) (rng m) = [] :: r := hr
  have e : allGroups m = (growF (m : Int) (rng m)).mergeSort leI := by
    unfold allGroups groupsOf
    rw [hr', sort_nil, List.drop_one, List.tail_cons]
  have nd : (growF (m : Int) (rng m)).Nodup := by
    have := growF_nodup (room := (m : Int)) (rng_nodup m) _ (Nat.le_refl _)
    rwa [List.take_length] at this
  rw [e, sort_filter]
  refine sort_perm ((List.perm_ext_iff_of_nodup (nd.filter _) ((groups_nodup m).filter _)).mpr fun c => ?_)
  rw [List.mem_filter, List.mem_filter, groups_iff, growF_iff]
  constructor
  · rintro ⟨⟨h1, _⟩, h2⟩; exact ⟨h1, h2⟩
  · rintro ⟨h1, h2⟩; exact ⟨⟨h1, .inr (by have := sub_len h1; omega)⟩, h2⟩
theorem stands_eq (n : Nt) : n.stands = lawStands n.quarrels n.things.length := by
  unfold Nt.stands lawStands
  rw [allGroups_eq, allGroups_eq]
  rfl
theorem stands_ok {n : Nt} : ∀ s ∈ n.stands, standOk n.things.length s = true ∧ n.good s = true := by
  intro s hs
  rw [stands_eq] at hs
  unfold lawStands at hs
  have key : ∀ (k : Int), (k = 0 ∨ k = 1) → ∀ g ∈ ((groups n.things.length).filter fun g => good n.quarrels g n.things.length).mergeSort leI, standOk n.things.length (g, k) = true ∧ n.good (g, k) = true := fun k hk g hg => by
    have h1 := List.mem_filter.mp ((List.mergeSort_perm _ _).mem_iff.mp hg)
    refine ⟨?_, h1.2⟩
    unfold standOk
    rw [climb_of_sub (groups_iff.mp h1.1), Bool.true_and]
    exact decide_eq_true hk
  rcases List.mem_append.mp hs with hs | hs
  · obtain ⟨g, hg, rfl⟩ := List.mem_map.mp hs
    exact key 0 (.inl rfl) g hg
  · obtain ⟨g, hg, rfl⟩ := List.mem_map.mp hs
    exact key 1 (.inr rfl) g hg
theorem stands_mem {n : Nt} {s : St2} (h : standOk n.things.length s = true) (g : n.good s = true) : s ∈ n.stands := by
  rw [stands_eq]
  unfold standOk at h
  rw [Bool.and_eq_true] at h
  have h2 := of_decide_eq_true h.2
  have hm : s.1 ∈ ((groups n.things.length).filter fun g => good n.quarrels g n.things.length).mergeSort leI :=
    (List.mergeSort_perm _ _).mem_iff.mpr (List.mem_filter.mpr ⟨groups_iff.mpr (climb_sub h.1), g⟩)
  unfold lawStands
  rw [List.mem_append]
  rcases h2 with e | e
  · left; exact List.mem_map.mpr ⟨s.1, hm, by rw [← e]⟩
  · right; exact List.mem_map.mpr ⟨s.1, hm, by rw [← e]⟩
theorem stands_nodup (n : Nt) : n.stands.Nodup := by
  rw [stands_eq]
  unfold lawStands
  have nd : (((groups n.things.length).filter fun g => good n.quarrels g n.things.length).mergeSort leI).Nodup := (List.mergeSort_perm _ _).nodup_iff.mpr ((groups_nodup _).filter _)
  have one : ∀ k : Int, ((((groups n.things.length).filter fun g => good n.quarrels g n.things.length).mergeSort leI).map fun g => (g, k)).Nodup := fun k => by
    rw [List.nodup_iff_pairwise_ne, List.pairwise_map]
    exact (List.nodup_iff_pairwise_ne.mp nd).imp fun h e => h (congrArg Prod.fst e)
  refine List.nodup_append.mpr ⟨one 0, one 1, fun a ha b hb e => ?_⟩
  obtain ⟨g, _, rfl⟩ := List.mem_map.mp ha
  obtain ⟨g2, _, rfl⟩ := List.mem_map.mp hb
  have := congrArg Prod.snd e
  revert this
  show (0 : Int) = 1 → False
  decide
theorem allGroups_len {m : Nat} (h : m ≤ 6) : (allGroups m).length ≤ 64 := by
  unfold allGroups groupsOf
  rw [List.length_cons, List.length_drop, List.length_mergeSort]
  have h1 := growF_len (room := (m : Int)) (rng m) [[]]
  rw [rng_len] at h1
  have : 2 ^ m ≤ 2 ^ 6 := Nat.pow_le_pow_right (by decide) h
  have e : [([] : List Int)].length = 1 := rfl
  rw [e] at h1
  unfold growF
  omega
def eStep (x : Int × List Int × St2) : PyData := .tuple [.int x.1, eI x.2.1, eS x.2.2]
theorem noL_eStep (x : Int × List Int × St2) : noL (eStep x) = true := by show (noL (.int x.1) && (noL (eI x.2.1) && (noL (eS x.2.2) && true))) = true; rw [noL_eI, noL_eS]; rfl
/-- the crossings out of a standing -/
def Nt.row (n : Nt) (s : St2) : List (Int × List Int × St2) := (n.crews s).map fun c => (minutesOf n.things c, c, ledOver s c)
def Nt.tab (n : Nt) : KvD := n.stands.map fun s => (s, .list ((n.row s).map eStep))
def spStands (K : PySem.W.Frag) : Sp := fun vs H Q _ => ∃ v n, vs = [v] ∧ NightAt K H v n ∧ n.things.length ≤ 6 ∧ RetR (fun u H' => NewL K H u H' (n.stands.map eS)) H Q
def spTable (K : PySem.W.Frag) (P : Program) (w : World) : Sp := fun vs H Q _ => ∃ v n, vs = [v] ∧ NightAt K H v n ∧ n.things.length ≤ 6 ∧ (n.ok = true) ∧ RetR (fun u H' => ∃ d L, u = .ref d ∧ H d = none ∧ H' d = some (DnO P w d L) ∧ Ents K H' L n.tab) H Q
theorem en_cat2 {K : PySem.W.Frag} {σ : L2.St} {H : Hp} {ta tb : TE} {ds es : List PyData} (h1 : EvN K ta σ H ds) (h2 : EvN K tb σ H es) (hl : ds.length + es.length ≤ 100000) : EvN K (tOp rCat ta tb) σ H (ds ++ es) := fun H1 x Q q =>
  h1 H1 x _ fun v H2 x2 hv => h2 H2 (x.trans x2) _ fun u H3 x3 hu => by
    obtain ⟨p, xs, rfl, p0, p1, p2⟩ := hv
    obtain ⟨r, ys, rfl, r0, r1, r2⟩ := hu
    have e1 := dpa_len p2
    have e2 := dpa_len r2
    exact ⟨p, r, xs, ys, rfl, rfl, x3 _ _ p1, r1, Evl.sz_of (by omega), fun z hz => q _ _ ((x2.trans x3).trans (Evl.Ex.new hz)) ⟨z, _, rfl, Evl.fresh_back (x2.trans x3) hz, upd_same, dpa_app (dpa_mono (x3.trans (Evl.Ex.new hz)) _ _ p2) (dpa_mono (Evl.Ex.new hz) _ _ r2)⟩⟩
/-- w_layN at a block's end -/
theorem w_layN1 {K : PySem.W.Frag} {σ : L2.St} {H H0 : Hp} {tl : TE} {g : TG} {tu : TS} {D : Ends} {ds : List PyData} {l : Addr} (h : EvN K tl σ H ds) (hn : noLs ds = true) (x0 : Ex H0 H) (l0 : H0 l = none) (acc : Nat → List PyData) (ha : ∀ i, noLs (acc i) = true) (l1 : ∃ ys, H l = some (.lst ys) ∧ DpAll K H ys (acc 0)) (Pv : Nat → L2.St → Prop) (p0 : Pv 0 σ)
    (hs : ∀ i d x σ' H' ys, ds[i]? = some d → Ex H0 H' → Dp K H' x d → Pv i σ' → H' l = some (.lst ys) → DpAll K H' ys (acc i) → g x σ' H' fun σ2 H2 => tu { D with nx := LayS K l H' (Pv (i + 1)) (acc (i + 1)), ct := LayS K l H' (Pv (i + 1)) (acc (i + 1)), bk := D.nx } σ2 H2)
    (hd : ∀ σ' H' ys, Ex H0 H' → Pv ds.length σ' → H' l = some (.lst ys) → DpAll K H' ys (acc ds.length) → D.nx σ' H') : tFor (iList K tl) g tu D σ H :=
  w_layN (tz := tNext) (D := D) h hn x0 l0 acc ha l1 Pv p0 hs hd

end Fy

namespace Fy
open PySem PySem.Spec PyProof.Rows L2
def preS (n : Nt) (i : Nat) : List St2 := (List.range i).flatMap fun k : Nat => ((allGroups n.things.length).filter fun g => n.good (g, (k : Int))).map fun g => (g, (k : Int))
theorem preS_two (n : Nt) : preS n 2 = n.stands := by
  unfold preS Nt.stands
  rw [show List.range 2 = [0, 1] from rfl]
  simp only [List.flatMap_cons, List.flatMap_nil, List.append_nil]
  rfl
theorem preS_succ (n : Nt) (i : Nat) : preS n (i + 1) = preS n i ++ ((allGroups n.things.length).filter fun g => n.good (g, (i : Int))).map fun g => (g, (i : Int)) := by
  unfold preS
  rw [List.range_succ, List.flatMap_append]
  simp only [List.flatMap_cons, List.flatMap_nil, List.append_nil]
theorem preS_len {n : Nt} (h : n.things.length ≤ 6) : ∀ i, (preS n i).length ≤ 64 * i
  | 0 => Nat.le_refl _
  | i + 1 => by
    rw [preS_succ, List.length_append, List.length_map]
    have h1 := preS_len h i
    have h2 := List.length_filter_le (fun g => n.good (g, (i : Int))) (allGroups n.things.length)
    have h3 := allGroups_len h
    omega
section
variable {P : Program} {w : World} {K : PySem.W.Frag} {mg : Str → Option Value} {base : Heap}
theorem sc_standings : FnScope ["night", "everything", "found", "side", "group"] ["night"] (defScope s_standings) := ⟨rfl, rfl, rfl, by decide +kernel, rfl, by decide +kernel, by decide +kernel⟩
theorem ok_standings (T : Tx K mg) : Has P w K mg base CX0 3 "standings" ["night"] (spStands K) := by
  obtain ⟨fd, F⟩ := T.f_standings
  have G_groups_of := ok_groups_of (P := P) (w := w) (base := base) T
  have G_peaceful := ok_peaceful (P := P) (w := w) (base := base) T
  have N_begins := ok_Night_begins (P := P) (w := w) (base := base) T
  refine ⟨T.g_standings, fd, F.ok sc_standings (fun vs H Q E h => ?_) (fun cdv A outer s H vs Q E hr h => ⟨_, PSs.nox (pss_cons (ps_set (i := 1) sc_standings.nd rfl (.inl rfl) (pe_ix (r := rIxT K) ix_tup (pe_nm0 (C := He.ga K "Night") (pv 0) N_begins (hr.mono (by decide)) pass0) pe_int (fun _ _ => rfl)))
      (pss_cons (ps_set (i := 2) sc_standings.nd rfl (.inl rfl) (pe_lst pa_nil))
      (pss_cons (ps_for PassesOwn.never rfl (pi_range1 rfl T.b_range (pa_cons pe_int pa_nil)) (pg_name (i := 3) sc_standings.nd rfl (.inl rfl)) (pss_one (ps_for PassesOwn.never rfl (pi_list (pe_op op_cat (pe_lst (pa_cons (pe_tup pa_nil) pa_nil)) (pe_f G_groups_of (hr.mono (by decide)) rfl (pa_cons (pv 1) (pa_cons (pe_callB (r := rLenQ K) call_len_seq (by rfl) T.b_len (by decide +kernel) (pa_cons (pv 1) pa_nil)) pa_nil))))) (pg_name (i := 4) sc_standings.nd rfl (.inl rfl)) (pss_one (ps_if (pt_val (pe_f G_peaceful (hr.mono (by decide)) rfl (pa_cons (pv 0) (pa_cons (pe_tup (pa_cons (pv 4) (pa_cons (pv 3) pa_nil))) pa_nil)))) (pss_one (ps_expr (pe_bm PySem.F.plainAttrs_list PySem.F.slot_list_append PySem.F.type_list_append mt_append (pv 2) (pa_cons (pe_tup (pa_cons (pv 4) (pa_cons (pv 3) pa_nil))) pa_nil)))) pss_nil)))))
      (pss_one (ps_ret (pv 2)))))), ?_⟩), F.bindsN fun _ _ _ _ _ _ us hl => match us, hl with | [_], _ => rfl, F.kp⟩
  · obtain ⟨v, n, rfl, _⟩ := h
    rfl
  · obtain ⟨v, n, rfl, N, m6, k⟩ := h
    have lm : n.things.length ≤ 1000 := by omega
    have hf : few n := lm
    refine w_asg (K := K) (ed_op (d := eS (rng n.things.length, 0)) (ed_begins rfl N lm) (ed_int (i := 0)) (rd_ixT (z := eI (rng n.things.length)) (by rfl))) (fun v1 H1 x1 h1 => ?_)
    refine' w_asgN (K := K) (ds := []) (en_lst eds_nil (by decide)) (fun v2 H2 x2 hL => ?_)
    obtain ⟨l, xs, rfl, l0, l1, l2⟩ := hL
    cases l2
    refine' w_forR (K := K) (n := 2) ed_int (by decide) (fun i σ H' => ∃ a b, σ = [some v, some v1, some (.ref l), a, b] ∧ Ex H1 H' ∧ ∃ ys, H' l = some (.lst ys) ∧ DpAll K H' ys ((preS n i).map eS)) (fun H3 x3 => ⟨none, none, rfl, x2.trans x3, [], x3 _ _ l1, .nil⟩) ?_ ?_
    · rintro i σ H' hi ⟨a, b, rfl, x3, ys, hA, hD⟩
      have i2 : i < 2 := by omega
      have h1' := dp_mono x3 _ _ h1
      have gr : EvN K (tOp rCat (tLst (tCons (tTup tNil) tNil)) (tCall (spGroupsOf K) [] E0 (tCons (tVar 1) (tCons (tCB (rLenQ K) (tCons (tVar 1) tNil)) tNil)))) [some v, some v1, some (.ref l), some (.int (i : Int)), b] H' ((allGroups n.things.length).map eI) := by
        have z : EvD K (tCB (rLenQ K) (tCons (tVar 1) tNil)) [some v, some v1, some (.ref l), some (.int (i : Int)), b] H' (.int (n.things.length : Nat)) := by
          have z := ed_cb (eds_cons (ed_var (σ := [some v, some v1, some (.ref l), some (.int (i : Int)), b]) (i := 1) rfl h1') eds_nil) (cd_lenI (K := K))
          rw [rng_len] at z
          exact z
        have gl : (groupsOf (rng n.things.length) (n.things.length : Int)).length ≤ 64 := by
          have := allGroups_len m6
          unfold allGroups at this
          rw [List.length_cons] at this
          omega
        exact en_cat2 (ds := [eI []]) (en_lst (eds_cons (ed_tup (ds := []) eds_nil (by decide)) eds_nil) (show 1 ≤ 100000 by decide)) (en_groupsOf (ed_var rfl h1') z (by rw [rng_len]; exact m6)) (by rw [List.length_map]; show 1 + _ ≤ 100000; omega)
      show tFor _ _ _ _ _ _
      refine w_layN1 (K := K) (l := l) (H0 := H1) gr (noLs_map noL_eI _) x3 l0 (fun j => (preS n i ++ (((allGroups n.things.length).take j).filter fun g => n.good (g, (i : Int))).map fun g => (g, (i : Int))).map eS) (fun j => noLs_map noL_eS _) ⟨ys, hA, by rw [List.take_zero]; simpa using hD⟩ (fun j σ => ∃ b, σ = [some v, some v1, some (.ref l), some (.int (i : Int)), b]) ⟨b, rfl⟩ ?_ ?_
      · rintro j d x σ' H4 ys4 hd x4 hx ⟨b, rfl⟩ hl hD4
        obtain ⟨g, hg, rfl⟩ := get_map hd
        have N4 := N.mono (x1.trans x4)
        have hx' : Dp K H4 x (eI g) := hx
        have st : ∀ H5, Ex H4 H5 → EvD K (tTup (tCons (tVar 4) (tCons (tVar 3) tNil))) [some v, some v1, some (.ref l), some (.int (i : Int)), some x] H5 (eS (g, (i : Int))) := fun H5 x5 =>
          ed_tup (ds := [eI g, .int (i : Int)]) (eds_cons (ed_var rfl (dp_mono x5 _ _ hx')) (eds_cons (ed_var rfl (.int _)) eds_nil)) (show 2 ≤ 100000 by decide)
        show tIfS _ _ _ _ _ _
        refine w_when1 K (b := n.good (g, (i : Int))) (eb_dB (ed_peaceful rfl N4 (st H4 (Evl.Ex.refl H4)) hf)) (fun hb H5 x5 => ?_) (fun hb H5 x5 => ?_)
        · refine w_lay (d := eS (g, (i : Int))) (acc := (preS n i ++ (((allGroups n.things.length).take j).filter fun g => n.good (g, (i : Int))).map fun g => (g, (i : Int))).map eS) rfl (st H5 x5) (ExB.ex x5) (x5 _ _ hl) (dpa_mono x5 _ _ hD4) (noLs_map noL_eS _) (noL_eS _) ?_ ?_ ⟨_, rfl⟩ (fun σ3 H3 h3 => h3)
          · have h1 := preS_len m6 i
            have h2 := List.length_filter_le (fun g => n.good (g, (i : Int))) ((allGroups n.things.length).take j)
            have h3 := allGroups_len m6
            rw [List.length_take] at h2
            rw [List.length_map, List.length_append, List.length_map]
            omega
          · rw [take_snoc hg, List.filter_append, List.filter_cons, if_pos hb, List.filter_nil]
            simp only [List.map_append, List.append_assoc, List.map_cons, List.map_nil]
        · refine ⟨⟨_, rfl⟩, ExB.ex x5, ys4, x5 _ _ hl, ?_⟩
          show DpAll K _ _ ((preS n i ++ (((allGroups n.things.length).take (j + 1)).filter fun g => n.good (g, (i : Int))).map fun g => (g, (i : Int))).map eS)
          rw [take_snoc hg, List.filter_append, List.filter_cons, if_neg (by rw [hb]; exact Bool.false_ne_true), List.filter_nil, List.append_nil]
          exact dpa_mono x5 _ _ hD4
      · rintro σ' H4 ys4 x4 ⟨b, rfl⟩ hl hD4
        rw [List.length_map, List.take_length] at hD4
        exact ⟨_, _, rfl, x4, ys4, hl, by rw [preS_succ]; exact hD4⟩
    · rintro σ H' ⟨a, b, rfl, x3, ys, hA, hD⟩
      refine ⟨_, rfl, k _ H' (x1.trans x3) ⟨l, ys, rfl, Evl.fresh_back x1 l0, hA, ?_⟩⟩
      rw [← preS_two]
      exact hD
end

end Fy

namespace Fy
open PySem PySem.Spec PyProof.Rows L2
/-! ### loops that change one object alone -/
/-- no tuple, nothing known, no list: a dict's object -/
theorem ExB.upx {l : Addr} {H H1 : Hp} {φ : Heap → Prop} (a : ExB l H H1) (h : H l = some (.ext φ)) : Up H H1 :=
  ⟨fun c ys e => a c _ (fun q => by rw [q, h] at e; cases e) e, fun c o u e => a c _ (fun q => by rw [q, h] at e; cases e) e⟩
section
variable {K : PySem.W.Frag} {H H1 : Hp} {l : Addr} {φ : Heap → Prop}
mutual
/-- all data stay while a dict's object alone is changed -/
theorem dp_butx (a : ExB l H H1) (h : H l = some (.ext φ)) : ∀ (d : PyData) (v : V), Dp K H v d → Dp K H1 v d
  | .none, _, h2 => by cases h2; exact .non
  | .bool b, _, h2 => by cases h2; exact .bl b
  | .int i, _, h2 => by cases h2; exact .int i
  | .str x, _, h2 => by cases h2; exact .str x
  | .list ds, _, h2 => by
    cases h2 with
    | lst hs ha =>
      refine .lst ?_ (dpa_butx a h ds _ ha)
      rcases hs with (hs | ⟨o, hs⟩) | hs
      · exact .inl (.inl (a _ _ (fun q => by rw [q, h] at hs; cases hs) hs))
      · exact .inl (.inr ⟨o, a _ _ (fun q => by rw [q, h] at hs; cases hs) hs⟩)
      · exact .inr hs
  | .tuple ds, _, h2 => by
    cases h2 with
    | tup hs ha => exact .tup ((a.upx h).sqT hs) (dpa_butx a h ds _ ha)
  | .dict _, _, h2 => by cases h2
theorem dpa_butx (a : ExB l H H1) (h : H l = some (.ext φ)) : ∀ (ds : List PyData) (vs : List V), DpAll K H vs ds → DpAll K H1 vs ds
  | [], _, h2 => by cases h2; exact .nil
  | d :: ds, _, h2 => by
    cases h2 with
    | cons h3 h4 => exact .cons (dp_butx a h d _ h3) (dpa_butx a h ds _ h4)
end
theorem Ents.butx (a : ExB l H H1) (h : H l = some (.ext φ)) : ∀ {L : List DEnt} {kv : KvD}, Ents K H L kv → Ents K H1 L kv
  | _, _, .nil => .nil
  | _, _, .cons h1 t => .cons ⟨h1.1, dp_butx a h _ _ h1.2.1, dp_butx a h _ _ h1.2.2⟩ (t.butx a h)
end
def ButS (l : Addr) (H : Hp) (Pv : L2.St → Prop) (J : Hp → Prop) : L2.St → Hp → Prop := fun σ3 H3 => Pv σ3 ∧ ExB l H H3 ∧ J H3
section
variable {K : PySem.W.Frag} {σ : L2.St} {H H0 : Hp} {tl : TE} {g : TG} {tu tz : TS} {D : Ends} {ds : List PyData} {l : Addr}
/-- over a list that the loop alone holds, while the dict at l is changed -/
theorem w_dicN (h : EvN K tl σ H ds) (hn : noLs ds = true) (x0 : Ex H0 H) (l0 : H0 l = none) (J : Nat → Hp → Prop) (hj : ∀ i H', J i H' → ∃ φ, H' l = some (.ext φ)) (j0 : ∀ H1, Ex H H1 → J 0 H1) (Pv : Nat → L2.St → Prop) (p0 : Pv 0 σ)
    (hs : ∀ i d x σ' H', ds[i]? = some d → Ex H0 H' → Dp K H' x d → Pv i σ' → J i H' → g x σ' H' fun σ2 H2 => tu { D with nx := ButS l H' (Pv (i + 1)) (J (i + 1)), ct := ButS l H' (Pv (i + 1)) (J (i + 1)), bk := tz D } σ2 H2)
    (hd : ∀ σ' H', Ex H0 H' → Pv ds.length σ' → J ds.length H' → tz D σ' H') : tSeq (tFor (iList K tl) g tu) tz D σ H :=
  h H (Evl.Ex.refl H) _ fun v H1 x hv => by
    obtain ⟨p, xs, rfl, pn, h1, h2⟩ := hv
    have hl := dpa_len h2
    have pl : p ≠ l := fun e => by
      obtain ⟨φ, q⟩ := hj 0 _ (j0 H (Evl.Ex.refl H))
      rw [e, q] at pn
      cases pn
    refine ⟨p, rfl, ⟨xs, SqL.of h1⟩, fun i m σ' H' => m = xs.length - i ∧ i ≤ xs.length ∧ Ex H0 H' ∧ Pv i σ' ∧ H' p = some (.lst xs) ∧ DpAll K H' xs ds ∧ J i H', ⟨xs.length, by simp, Nat.zero_le _, x0.trans x, p0, h1, h2, j0 H1 x⟩, ?_⟩
    rintro i m σ' H' ⟨rfl, hi, e0, pv, ep, ed, jj⟩
    by_cases hlt : i < xs.length
    · refine .inr ⟨⟨xs, xs[i], SqL.of ep, by simp [hlt]⟩, ButS l H' (Pv (i + 1)) (J (i + 1)), fun σ3 H3 p3 => ?_, fun y H2 yy => ?_⟩
      · obtain ⟨p1, p2, p3⟩ := p3
        obtain ⟨φ, q⟩ := hj i _ jj
        exact ⟨xs.length - (i + 1), by omega, rfl, hlt, e0.but l0 p2, p1, p2 _ _ pl ep, dpa_butx p2 q _ _ ed, p3⟩
      · obtain ⟨e2, yy⟩ := yy
        subst e2
        obtain ⟨d, hd', hdy⟩ := dpa_get ed (yy xs (SqL.of ep))
        exact hs i d y σ' _ hd' e0 hdy pv jj
    · have e2 : i = xs.length := by omega
      subst e2
      rw [hl] at pv jj
      exact .inl ⟨⟨xs, SqL.of ep, Nat.le_refl _⟩, hd σ' H' e0 pv jj⟩
theorem w_newN {P : Program} {w : World} {i : Nat} (k : ∀ p, H p = none → tz D (σ.set i (some (.ref p))) (upd H p (DnO P w p []))) : tSeq (tAsg (tNewN P w) (gName i)) tz D σ H := fun p hp => k p hp
end
/-- a new key's entry stands last -/
theorem kvPut_new {kv : KvD} {s : St2} {d : PyData} (h : ∀ q ∈ kv, q.1 ≠ s) : kvPut kv s d = kv ++ [(s, d)] := by
  unfold kvPut look
  have : (kv.find? fun q => decide (q.1 = s)) = none := List.find?_eq_none.mpr fun q hq e => h q hq (of_decide_eq_true e)
  rw [this]
  rfl

end Fy

namespace Fy
open PySem PySem.Spec PyProof.Rows L2
section
variable {P : Program} {w : World} {K : PySem.W.Frag} {mg : Str → Option Value} {base : Heap}
theorem sc_table : FnScope ["night", "found", "standing", "row", "crew"] ["night"] (defScope s_table) := ⟨rfl, rfl, rfl, by decide +kernel, rfl, by decide +kernel, by decide +kernel⟩
theorem ok_table (T : Tx K mg) : Has P w K mg base CX0 6 "table" ["night"] (spTable K P w) := by
  obtain ⟨fd, F⟩ := T.f_table
  have G_standings := ok_standings (P := P) (w := w) (base := base) T
  have G_crews := ok_crews (P := P) (w := w) (base := base) T
  have G_led_over := ok_led_over (P := P) (w := w) (base := base) T
  have G_minutes := ok_minutes (P := P) (w := w) (base := base) T
  refine ⟨T.g_table, fd, F.ok sc_table (fun vs H Q E h => ?_) (fun cdv A outer s H vs Q E hr h => ⟨_, PSs.nox (pss_cons (ps_set (i := 1) sc_table.nd rfl (.inl rfl) pe_newN)
      (pss_cons (ps_for PassesOwn.never rfl (pi_list (pe_f G_standings (hr.mono (by decide)) rfl (pa_cons (pv 0) pa_nil))) (pg_name (i := 2) sc_table.nd rfl (.inl rfl)) (pss_cons (ps_set (i := 3) sc_table.nd rfl (.inl rfl) (pe_lst pa_nil))
      (pss_cons (ps_for PassesOwn.never rfl (pi_list (pe_f0 G_crews (hr.mono (by decide)) rfl passN (pa_cons (pv 0) (pa_cons (pv 2) pa_nil)))) (pg_name (i := 4) sc_table.nd rfl (.inl rfl)) (pss_one (ps_expr (pe_bm PySem.F.plainAttrs_list PySem.F.slot_list_append PySem.F.type_list_append mt_append (pv 3) (pa_cons (pe_tup (pa_cons (pe_f G_minutes (hr.mono (by decide)) rfl (pa_cons (pv 0) (pa_cons (pv 4) pa_nil))) (pa_cons (pv 4) (pa_cons (pe_f G_led_over (hr.mono (by decide)) rfl (pa_cons (pv 2) (pa_cons (pv 4) pa_nil))) pa_nil)))) pa_nil)))))
      (pss_one (ps_asg (pv 3) (pg_sub (pv 1) (pv 2) (set_dn hr.units)))))))
      (pss_one (ps_ret (pv 1))))), ?_⟩), F.bindsN fun _ _ _ _ _ _ us hl => match us, hl with | [_], _ => rfl, F.kp⟩
  · obtain ⟨v, n, rfl, _⟩ := h
    rfl
  · obtain ⟨v, n, rfl, N, m6, nok, k⟩ := h
    have lm : n.things.length ≤ 1000 := by omega
    have hf : few n := lm
    refine w_newN (P := P) (w := w) fun d hd0 => ?_
    have xd := Evl.Ex.new (o := DnO P w d []) hd0
    have hd1 : upd H d (DnO P w d []) d = some (DnO P w d []) := upd_same
    generalize upd H d (DnO P w d []) = H1 at xd hd1
    have N1 := N.mono xd
    have st : EvN K (tCall (spStands K) [] E0 (tCons (tVar 0) tNil)) [some v, some (.ref d), none, none, none] H1 (n.stands.map eS) := fun H2 x Q q => ⟨v, rfl, v, n, rfl, N1.mono x, m6, fun u H3 x3 h3 => q u H3 x3 h3⟩
    refine w_dicN (K := K) (l := d) (H0 := H) st (noLs_map noL_eS _) xd hd0 (fun i H' => ∃ L, H' d = some (DnO P w d L) ∧ Ents K H' L (n.tab.take i) ∧ L.length = i) (fun i H' ⟨L, h, _⟩ => ⟨_, h⟩) (fun H2 x2 => ⟨[], x2 _ _ hd1, .nil, rfl⟩) (fun i σ => ∃ a b c, σ = [some v, some (.ref d), a, b, c]) ⟨none, none, none, rfl⟩ ?_ ?_
    · rintro i e x σ H2 he x2 hx ⟨a, b, c, rfl⟩ ⟨L, hL, hE, hlen⟩
      obtain ⟨s, hs, rfl⟩ := get_map he
      obtain ⟨sok, sgd⟩ := stands_ok s (List.mem_of_getElem? hs)
      obtain ⟨sin, sle⟩ := standOk_in sok
      have N2 := N.mono x2
      have hx' : Dp K H2 x (eS s) := hx
      show tSeq _ _ _ _ _
      refine w_asgN (K := K) (ds := []) (en_lst eds_nil (by decide)) (fun v3 H3 x3 hR => ?_)
      obtain ⟨l, xs, rfl, l0, l1, l2⟩ := hR
      have x13 := x2.trans x3
      have N3 := N2.mono x3
      have cr : EvN K (tCall (spCrews K) [] E0 (tCons (tVar 0) (tCons (tVar 2) tNil))) [some v, some (.ref d), some x, some (.ref l), c] H3 ((n.crews s).map eI) := en_crews rfl N3 (ed_var rfl (dp_mono x3 _ _ hx')) m6 sok sgd
      refine w_layN (K := K) (l := l) (H0 := H2) cr (noLs_map noL_eI _) x3 l0 (fun j => ((n.row s).take j).map eStep) (fun j => noLs_map noL_eStep _) ⟨xs, l1, by rw [List.take_zero]; exact l2⟩ (fun j σ => ∃ c, σ = [some v, some (.ref d), some x, some (.ref l), c]) ⟨c, rfl⟩ ?_ ?_
      · rintro j e2 y σ' H4 ys he2 x4 hy ⟨c2, rfl⟩ hl hD
        obtain ⟨cr1, hc, rfl⟩ := get_map he2
        have hcm := List.mem_of_getElem? hc
        have hci := groupsOf_items (bankOf_in sin) cr1 (List.mem_filter.mp hcm).1
        have hcb := bankOf_len (s := s) sle
        have hm2 := hcm
        rw [crews_eq sok] at hm2
        have cdom : few n ∧ inThings n.things.length cr1 ∧ cr1.length ≤ 1000 ∧ cr1 ≠ [] := ⟨hf, hci.1, by omega, lawCrews_ne cr1 hm2⟩
        have sl : s.1.length ≤ 1000 ∧ cr1.length ≤ 1000 := ⟨by omega, by omega⟩
        have N4 := N2.mono x4
        have hy' : Dp K H4 y (eI cr1) := hy
        have hx4 := dp_mono x4 _ _ hx'
        have hrow : (n.row s)[j]? = some (minutesOf n.things cr1, cr1, ledOver s cr1) := by
          unfold Nt.row
          rw [List.getElem?_map, hc]
          rfl
        have rl : (n.row s).length ≤ 64 := by
          unfold Nt.row
          rw [List.length_map, crews_eq sok]
          exact lawCrews_len m6
        refine w_lay (d := eStep (minutesOf n.things cr1, cr1, ledOver s cr1)) (acc := ((n.row s).take j).map eStep) rfl (ed_tup (ds := [.int (minutesOf n.things cr1), eI cr1, eS (ledOver s cr1)]) (eds_cons (ed_minutes rfl N4 (ed_var rfl hy') cdom) (eds_cons (ed_var rfl hy') (eds_cons (ed_led (ed_var rfl hx4) (ed_var rfl hy') sl) eds_nil))) (show 3 ≤ 100000 by decide)) (ExB.refl _ _) hl hD (noLs_map noL_eStep _) (noL_eStep _) ?_ ?_ ⟨_, rfl⟩ (fun σ3 H3 h3 => h3)
        · rw [List.length_map, List.length_take]; omega
        · rw [take_snoc hrow, List.map_append]
          rfl
      · rintro σ' H4 ys x4 ⟨c2, rfl⟩ hl hD
        have rlen : (n.crews s).length = (n.row s).length := by unfold Nt.row; rw [List.length_map]
        rw [List.length_map, rlen, List.take_length] at hD
        have hx4 := dp_mono x4 _ _ hx'
        have rowd : Dp K H4 (.ref l) (.list ((n.row s).map eStep)) := dp_lst.mpr ⟨l, ys, rfl, SqL.of hl, hD⟩
        obtain ⟨b, g, rfl, hb⟩ := dp_tup.mp hx4
        have tl : n.tab.length = n.stands.length := by unfold Nt.tab; rw [List.length_map]
        have ht : n.tab[i]? = some (s, .list ((n.row s).map eStep)) := by unfold Nt.tab; rw [List.getElem?_map, hs]; rfl
        have il : i < n.stands.length := (List.getElem?_eq_some_iff.mp hs).1
        have sl : n.stands.length ≤ 128 := by
          have := preS_len m6 2
          rw [preS_two] at this
          omega
        have E4 := hE.mono x4
        refine ⟨_, rfl, _, rfl, _, rfl, d, b, L, s, rfl, rfl, x4 _ _ hL, E4.keys, hx4, Nat.lt_of_le_of_lt (show L.length ≤ 100000 by omega) (by decide), ?_⟩
        have eb : ExB d H4 (upd H4 d (DnO P w d (putL L s b (.ref l)))) := ExB.upd (Evl.Ex.refl H4)
        have hp := (E4.put hx4 rowd).butx eb (x4 _ _ hL)
        have nw : ∀ q ∈ n.tab.take i, q.1 ≠ s := fun q hq e => by
          obtain ⟨j, hj, ej⟩ := List.mem_iff_getElem.mp hq
          rw [List.getElem_take] at ej
          rw [List.length_take] at hj
          have hj2 : j < n.stands.length := by omega
          have e1 : n.tab[j]'(by omega) = (n.stands[j], .list ((n.row n.stands[j]).map eStep)) := by unfold Nt.tab; rw [List.getElem_map]
          rw [e1] at ej
          have e2 : n.stands[j] = s := by rw [← e, ← ej]
          have e3 : n.stands[i] = s := (List.getElem?_eq_some_iff.mp hs).2
          exact (List.pairwise_iff_getElem.mp (List.nodup_iff_pairwise_ne.mp (stands_nodup n)) j i hj2 il (by omega)) (e2.trans e3.symm)
        rw [kvPut_new nw, ← take_snoc ht] at hp
        refine ⟨⟨_, _, _, rfl⟩, (ExB.ex x4).trans eb, _, upd_same, hp, ?_⟩
        rw [hp.len, List.length_take]
        omega
    · rintro σ H2 x2 ⟨a, b, c, rfl⟩ ⟨L, hL, hE, hlen⟩
      have tl : n.tab.length = n.stands.length := by unfold Nt.tab; rw [List.length_map]
      rw [List.length_map, ← tl, List.take_length] at hE
      exact ⟨_, rfl, k _ H2 x2 ⟨d, L, rfl, hd0, hL, hE⟩⟩
end

end Fy

namespace Fy
open PySem PySem.Spec PyProof.Rows L2
/-! ### a loop over the keys of a locked dict -/
theorem w_forN {P : Program} {w : World} {σ : L2.St} {H : Hp} {g : TG} {tu : TS} {D : Ends} {i : Nat} {dc : Addr} {o : Obj} {L : List DEnt} (hi : σ[i]? = some (some (.ref dc))) (h1 : H dc = some (.frz o (DnO P w dc L))) (Pv : Nat → L2.St → Hp → Prop) (p0 : Pv 0 σ H) (hp : ∀ j σ' H', Pv j σ' H' → H' dc = some (.frz o (DnO P w dc L)))
    (hs : ∀ j p σ' H', L[j]? = some p → Pv j σ' H' → g (.ref p.1) σ' H' fun σ2 H2 => tu { D with nx := Pv (j + 1), ct := Pv (j + 1), bk := D.nx } σ2 H2) (hd : ∀ σ' H', Pv L.length σ' H' → D.nx σ' H') : tFor (iKeysN P w (tVar i)) g tu D σ H := by
  refine ⟨_, hi, dc, o, L, rfl, h1, fun j m σ' H' => m = L.length - j ∧ j ≤ L.length ∧ Pv j σ' H', ⟨L.length, by simp, Nat.zero_le _, p0⟩, ?_⟩
  rintro j m σ' H' ⟨rfl, hj, pv⟩
  by_cases hlt : j < L.length
  · refine .inr ⟨⟨hp j σ' H' pv, hlt⟩, Pv (j + 1), fun σ3 H3 p3 => ⟨L.length - (j + 1), by omega, rfl, hlt, p3⟩, fun y H2 yy => ?_⟩
    obtain ⟨e2, p, hp', ey⟩ := yy
    subst e2 ey
    exact hs j p σ' _ hp' pv
  · have e2 : j = L.length := by omega
    subst e2
    exact .inl ⟨⟨hp _ σ' H' pv, Nat.le_refl _⟩, hd σ' H' pv⟩
/-- the crossings of a night, as steps -/
def Nt.edge (n : Nt) (s : St2) (c : Int) (t : St2) : Prop := s ∈ n.stands ∧ ∃ cr ∈ n.crews s, c = minutesOf n.things cr ∧ t = ledOver s cr
def endS : St2 := ([], 1)
theorem edge_row {n : Nt} {s : St2} {x : Int × List Int × St2} (hs : s ∈ n.stands) (hx : x ∈ n.row s) : n.edge s x.1 x.2.2 := by
  unfold Nt.row at hx
  obtain ⟨c, hc, rfl⟩ := List.mem_map.mp hx
  exact ⟨hs, c, hc, rfl, rfl⟩
theorem row_edge {n : Nt} {s t : St2} {c : Int} (h : n.edge s c t) : ∃ x ∈ n.row s, x.1 = c ∧ x.2.2 = t := by
  obtain ⟨_, cr, hc, rfl, rfl⟩ := h
  exact ⟨_, List.mem_map.mpr ⟨cr, hc, rfl⟩, rfl, rfl⟩
/-- how long a crossing takes -/
theorem pace_in {n : Nt} (ok : n.ok = true) {t : Int} (h0 : 0 ≤ t ∧ t < (n.things.length : Int)) : 1 ≤ paceAt n.things t ∧ paceAt n.things t ≤ 1000000000 := by
  have hk : t.toNat < n.things.length := by omega
  unfold paceAt
  rw [List.getD_eq_getElem?_getD, List.getElem?_eq_getElem hk]
  unfold Nt.ok thingsOk at ok
  simp only [Bool.and_eq_true] at ok
  exact of_decide_eq_true (List.all_eq_true.mp ok.1.2 _ (List.getElem_mem hk))
theorem minutes_in {n : Nt} (ok : n.ok = true) {c : List Int} (hc : inThings n.things.length c) (hne : c ≠ []) : 1 ≤ minutesOf n.things c ∧ minutesOf n.things c ≤ 1000000000 := by
  unfold minutesOf maxI
  have hne2 : c.map (paceAt n.things) ≠ [] := fun e => hne (List.map_eq_nil_iff.mp e)
  cases h : (c.map (paceAt n.things)).max? with
  | none => exact absurd (List.max?_eq_none_iff.mp h) hne2
  | some m =>
    have hm := (List.max?_eq_some_iff.mp h).1
    obtain ⟨t, ht, rfl⟩ := List.mem_map.mp hm
    exact pace_in ok (hc t ht)
theorem edge_in {n : Nt} (ok : n.ok = true) {s t : St2} {c : Int} (h : n.edge s c t) : 1 ≤ c ∧ c ≤ 1000000000 ∧ t ∈ n.stands := by
  obtain ⟨hs, cr, hc, rfl, rfl⟩ := h
  have sok := (stands_ok s hs).1
  have hm := hc
  rw [crews_eq sok] at hm
  have h1 := minutes_in ok (sub_in (lawCrews_items cr hm)) (lawCrews_ne cr hm)
  exact ⟨h1.1, h1.2, stands_mem (led_ok sok hc) (led_good hc)⟩
/-- keys: each once, all good standings -/
def KvOk (n : Nt) (kv : KvI) : Prop := (kv.map (·.1)).Nodup ∧ ∀ q ∈ kv, q.1 ∈ n.stands
theorem pt_keys {kv : KvI} {s : St2} {v : Int} : (pt kv s v).map (·.1) = if (lk kv s).isSome then kv.map (·.1) else kv.map (·.1) ++ [s] := by
  unfold pt
  split
  · rw [List.map_map]
    refine List.map_congr_left fun q _ => ?_
    show (if q.1 = s then (q.1, v) else q).1 = q.1
    split <;> rfl
  · rw [List.map_append]; rfl
theorem lk_mem {kv : KvI} {s : St2} : (lk kv s).isSome = true ↔ s ∈ kv.map (·.1) := by
  unfold lk
  rw [Option.isSome_map, List.find?_isSome, List.mem_map]
  constructor
  · rintro ⟨q, hq, e⟩; exact ⟨q, hq, of_decide_eq_true e⟩
  · rintro ⟨q, hq, e⟩; exact ⟨q, hq, decide_eq_true e⟩
theorem KvOk.put {n : Nt} {kv : KvI} {s : St2} {v : Int} (h : KvOk n kv) (hs : s ∈ n.stands) : KvOk n (pt kv s v) := by
  have hk : ∀ t ∈ (pt kv s v).map (·.1), t ∈ n.stands := fun t ht => by
    rw [pt_keys] at ht
    have h0 : ∀ t ∈ kv.map (·.1), t ∈ n.stands := fun t ht => by
      obtain ⟨q, hq, rfl⟩ := List.mem_map.mp ht
      exact h.2 q hq
    split at ht
    · exact h0 t ht
    · rcases List.mem_append.mp ht with ht | ht
      · exact h0 t ht
      · rw [List.mem_singleton.mp ht]; exact hs
  refine ⟨?_, fun q hq => hk _ (List.mem_map.mpr ⟨q, hq, rfl⟩)⟩
  rw [pt_keys]
  split
  · exact h.1
  · rename_i hn
    refine List.nodup_append.mpr ⟨h.1, by simp, fun a ha c hc e => ?_⟩
    rw [List.mem_singleton.mp hc] at e
    rw [e] at ha
    exact hn (lk_mem.mpr ha)
theorem KvOk.len {n : Nt} {kv : KvI} (h : KvOk n kv) : kv.length ≤ n.stands.length := by
  have p : (n.stands.filter fun s => (kv.map (·.1)).contains s).Perm (kv.map (·.1)) := (List.perm_ext_iff_of_nodup ((stands_nodup n).filter _) h.1).mpr fun a => by
    rw [List.mem_filter]
    constructor
    · rintro ⟨_, h⟩; simpa using h
    · intro ha
      obtain ⟨q, hq, rfl⟩ := List.mem_map.mp ha
      exact ⟨h.2 q hq, by simpa using ha⟩
  have h1 := p.length_eq
  have h2 := List.length_filter_le (fun s => (kv.map (·.1)).contains s) n.stands
  rw [List.length_map] at h1
  omega
theorem stands_len {n : Nt} (h : n.things.length ≤ 6) : n.stands.length ≤ 128 := by
  have := preS_len h 2
  rw [preS_two] at this
  omega
/-- the biggest value there may be -/
def topB : Nat := 128000000000
theorem Bet.le_top {E : St2 → Int → St2 → Prop} {z : St2} {n : Nt} {kv : KvI} (h6 : n.things.length ≤ 6) (b : Bet E z kv) (k : KvOk n kv) {s : St2} {v : Int} (h : lk kv s = some v) : v ≤ topB := by
  have h1 := b.top s v h
  have h2 := k.len
  have h3 := stands_len h6
  unfold topB
  omega
theorem look_tab (n : Nt) {s : St2} (h : s ∈ n.stands) : look n.tab s = some (.list ((n.row s).map eStep)) := by
  unfold look Nt.tab
  have : ∀ l : List St2, s ∈ l → ((l.map fun s => (s, PyData.list ((n.row s).map eStep))).find? fun q => decide (q.1 = s)).map (·.2) = some (.list ((n.row s).map eStep)) := by
    intro l
    induction l with
    | nil => intro h; cases h
    | cons a l ih =>
      intro h
      rw [List.map_cons, List.find?_cons]
      by_cases e : a = s
      · rw [decide_eq_true e, e]; rfl
      · rw [decide_eq_false e]
        rcases List.mem_cons.mp h with q | q
        · exact absurd q.symm e
        · exact ih q
  exact this _ h
theorem look_tab_some (n : Nt) (s : St2) : (look n.tab s).isSome = decide (s ∈ n.stands) := by
  by_cases h : s ∈ n.stands
  · rw [look_tab n h, decide_eq_true h]; rfl
  · rw [decide_eq_false h]
    unfold look Nt.tab
    rw [Option.isSome_map, ← Bool.not_eq_true, List.find?_isSome]
    rintro ⟨q, hq, e⟩
    obtain ⟨t, ht, rfl⟩ := List.mem_map.mp hq
    exact h (of_decide_eq_true e ▸ ht)
def spAllH (K : PySem.W.Frag) (P : Program) (w : World) : Sp := fun vs H Q _ => ∃ v n dc Lc, vs = [v, .ref dc] ∧ NightAt K H v n ∧ n.things.length ≤ 6 ∧ n.ok = true ∧ H dc = some (DnO P w dc Lc) ∧ Ents K H Lc n.tab ∧
  ∀ df Lf kv H', Ex H H' → H df = none → H' df = some (DnO P w df Lf) → Ents K H' Lf (eKv kv) → Bet n.edge endS kv → KvOk n kv → Still n.edge kv → (endS ∈ n.stands → lk kv endS = some 0) → Q (.ref df) H'

end Fy

namespace Fy
open PySem PySem.Spec PyProof.Rows L2
section
variable {K : PySem.W.Frag} {σ : L2.St} {H : Hp} {tl : TE} {g : TG} {tu : TS} {D : Ends} {ds : List PyData} {l : Addr}
theorem sqL_butx {H1 : Hp} {φ : Heap → Prop} {a : Addr} {xs : List V} (e : ExB l H H1) (h : H l = some (.ext φ)) (hs : SqL K H a xs) : SqL K H1 a xs := by
  rcases hs with (hs | ⟨o, hs⟩) | hs
  · exact .inl (.inl (e _ _ (fun q => by rw [q, h] at hs; cases hs) hs))
  · exact .inl (.inr ⟨o, e _ _ (fun q => by rw [q, h] at hs; cases hs) hs⟩)
  · exact .inr hs
/-- over a list that stands, while the dict at l is changed -/
theorem w_dicD1 (h : EvD K tl σ H (.list ds)) (J : Nat → Hp → Prop) (hj : ∀ i H', J i H' → ∃ φ, H' l = some (.ext φ)) (j0 : ∀ H1, Ex H H1 → J 0 H1) (Pv : Nat → Hp → L2.St → Prop) (p0 : ∀ H1, Ex H H1 → Pv 0 H1 σ)
    (hs : ∀ i d x σ' H', ds[i]? = some d → Dp K H' x d → Pv i H' σ' → J i H' → g x σ' H' fun σ2 H2 => tu { D with nx := fun σ3 H3 => Pv (i + 1) H3 σ3 ∧ ExB l H' H3 ∧ J (i + 1) H3, ct := fun σ3 H3 => Pv (i + 1) H3 σ3 ∧ ExB l H' H3 ∧ J (i + 1) H3, bk := D.nx } σ2 H2)
    (hd : ∀ σ' H', Pv ds.length H' σ' → J ds.length H' → D.nx σ' H') : tFor (iList K tl) g tu D σ H :=
  h H (Evl.Ex.refl H) _ fun v H1 x hv => by
    obtain ⟨p, xs, rfl, h1, h2⟩ := dp_lst.mp hv
    have hl := dpa_len h2
    refine ⟨p, rfl, ⟨xs, h1⟩, fun i m σ' H' => m = xs.length - i ∧ i ≤ xs.length ∧ Pv i H' σ' ∧ SqL K H' p xs ∧ DpAll K H' xs ds ∧ J i H', ⟨xs.length, by simp, Nat.zero_le _, p0 H1 x, h1, h2, j0 H1 x⟩, ?_⟩
    rintro i m σ' H' ⟨rfl, hi, pv, ep, ed, jj⟩
    by_cases hlt : i < xs.length
    · refine .inr ⟨⟨xs, xs[i], ep, by simp [hlt]⟩, fun σ3 H3 => Pv (i + 1) H3 σ3 ∧ ExB l H' H3 ∧ J (i + 1) H3, fun σ3 H3 p3 => ?_, fun y H2 yy => ?_⟩
      · obtain ⟨p1, p2, p3⟩ := p3
        obtain ⟨φ, q⟩ := hj i _ jj
        exact ⟨xs.length - (i + 1), by omega, rfl, hlt, p1, sqL_butx p2 q ep, dpa_butx p2 q _ _ ed, p3⟩
      · obtain ⟨e2, yy⟩ := yy
        subst e2
        obtain ⟨d, hd', hdy⟩ := dpa_get ed (yy xs ep)
        exact hs i d y σ' _ hd' hdy pv jj
    · have e2 : i = xs.length := by omega
      subst e2
      rw [hl] at pv jj
      exact .inl ⟨⟨xs, ep, Nat.le_refl _⟩, hd σ' H' pv jj⟩
end
theorem w_setN1 {K : PySem.W.Frag} {P : Program} {w : World} {σ : L2.St} {H : Hp} {te tk : TE} {D : Ends} {d : PyData} {t : St2} {kv : KvD} {dd : Addr} {L : List DEnt} {i : Nat} (he : EvD K te σ H d) (hi : σ[i]? = some (some (.ref dd))) (hk : EvD K tk σ H (eS t)) (h1 : H dd = some (DnO P w dd L)) (hE : Ents K H L kv) (hl : L.length ≤ 100000)
    (k : ∀ b u H1, Ex H H1 → Dp K H1 (.ref b) (eS t) → Dp K H1 u d → H1 dd = some (DnO P w dd L) → Ents K H1 (putL L t b u) (kvPut kv t d) → D.nx σ (upd H1 dd (DnO P w dd (putL L t b u)))) : tAsg te (gSub (tVar i) tk (rSetN K P w)) D σ H :=
  w_setN (z := 0) (tz := tNext) (D := D) he hi hk h1 hE hl k
section
variable {K : PySem.W.Frag} {H H1 : Hp} {l : Addr}
mutual
/-- all data stay while what is neither list nor tuple is changed -/
theorem dp_butg (a : ExB l H H1) (n1 : ∀ xs, ¬ Rd H l (.lst xs)) (n2 : ∀ xs, ¬ Rd H l (.tup xs)) : ∀ (d : PyData) (v : V), Dp K H v d → Dp K H1 v d
  | .none, _, h2 => by cases h2; exact .non
  | .bool b, _, h2 => by cases h2; exact .bl b
  | .int i, _, h2 => by cases h2; exact .int i
  | .str x, _, h2 => by cases h2; exact .str x
  | .list ds, _, h2 => by
    cases h2 with
    | lst hs ha =>
      refine .lst ?_ (dpa_butg a n1 n2 ds _ ha)
      rcases hs with (hs | ⟨o, hs⟩) | hs
      · exact .inl (.inl (a _ _ (fun q => n1 _ (.inl (q ▸ hs))) hs))
      · exact .inl (.inr ⟨o, a _ _ (fun q => n1 _ (.inr ⟨o, q ▸ hs⟩)) hs⟩)
      · exact .inr hs
  | .tuple ds, _, h2 => by
    cases h2 with
    | tup hs ha =>
      refine .tup ?_ (dpa_butg a n1 n2 ds _ ha)
      rcases hs with (hs | ⟨o, hs⟩) | hs
      · exact .inl (.inl (a _ _ (fun q => n2 _ (.inl (q ▸ hs))) hs))
      · exact .inl (.inr ⟨o, a _ _ (fun q => n2 _ (.inr ⟨o, q ▸ hs⟩)) hs⟩)
      · exact .inr hs
  | .dict _, _, h2 => by cases h2
theorem dpa_butg (a : ExB l H H1) (n1 : ∀ xs, ¬ Rd H l (.lst xs)) (n2 : ∀ xs, ¬ Rd H l (.tup xs)) : ∀ (ds : List PyData) (vs : List V), DpAll K H vs ds → DpAll K H1 vs ds
  | [], _, h2 => by cases h2; exact .nil
  | d :: ds, _, h2 => by
    cases h2 with
    | cons h3 h4 => exact .cons (dp_butg a n1 n2 d _ h3) (dpa_butg a n1 n2 ds _ h4)
end
theorem Ents.butg (a : ExB l H H1) (n1 : ∀ xs, ¬ Rd H l (.lst xs)) (n2 : ∀ xs, ¬ Rd H l (.tup xs)) : ∀ {L : List DEnt} {kv : KvD}, Ents K H L kv → Ents K H1 L kv
  | _, _, .nil => .nil
  | _, _, .cons h1 t => .cons ⟨h1.1, dp_butg a n1 n2 _ _ h1.2.1, dp_butg a n1 n2 _ _ h1.2.2⟩ (t.butg a n1 n2)
theorem no_lst {o : Obj} {φ : Heap → Prop} (h : H l = some (.frz o (.ext φ))) (xs : List V) : ¬ Rd H l (.lst xs) := fun q => by
  rcases q with q | ⟨o2, q⟩ <;> rw [h] at q <;> cases q
theorem no_tup {o : Obj} {φ : Heap → Prop} (h : H l = some (.frz o (.ext φ))) (xs : List V) : ¬ Rd H l (.tup xs) := fun q => by
  rcases q with q | ⟨o2, q⟩ <;> rw [h] at q <;> cases q
end
/-- a step betters nothing -/
def okAt (kv : KvI) (s : St2) (x : Int × List Int × St2) : Prop := ∀ v, lk kv x.2.2 = some v → ∃ u, lk kv s = some u ∧ u ≤ x.1 + v
theorem still_of {n : Nt} {kv : KvI} (h : ∀ s ∈ n.stands, ∀ x ∈ n.row s, okAt kv s x) : Still n.edge kv := fun s c t e v hv => by
  obtain ⟨x, hx, rfl, rfl⟩ := row_edge e
  exact h s e.1 x hx v hv
theorem exB_back {dc : Addr} {H H' : Hp} {o : HO} (e : ExB dc H H') (h : H dc = some o) : Ex H (upd H' dc o) := fun b u hb => by
  by_cases q : b = dc
  · rw [q, h] at hb; rw [q, upd_same]; exact hb
  · rw [upd_ne q]; exact e b u q hb
section
variable {P : Program} {w : World} {K : PySem.W.Frag} {mg : Str → Option Value} {base : Heap}
/-- found's dict, as it stands -/
def FndOk (K : PySem.W.Frag) (P : Program) (w : World) (n : Nt) (df : Addr) (H' : Hp) (kv : KvI) : Prop := (∃ Lf, H' df = some (DnO P w df Lf) ∧ Ents K H' Lf (eKv kv)) ∧ Bet n.edge endS kv ∧ KvOk n kv ∧ (endS ∈ n.stands → lk kv endS = some 0)
theorem sc_all_heights : FnScope ["night", "crossings", "found", "turned", "standing", "step", "height"] ["night", "crossings"] (defScope s_all_heights) := ⟨rfl, rfl, rfl, by decide +kernel, rfl, by decide +kernel, by decide +kernel⟩
theorem ok_all_heights (T : Tx K mg) : Has P w K mg base CX0 2 "all_heights" ["night", "crossings"] (spAllH K P w) := by
  obtain ⟨fd, F⟩ := T.f_all_heights
  have N_ends := ok_Night_ends (P := P) (w := w) (base := base) T
  refine ⟨T.g_all_heights, fd, F.ok sc_all_heights (fun vs H Q E h => ?_) (fun cdv A outer s H vs Q E hr h => ⟨_, PSs.nox (pss_cons (ps_set (i := 2) sc_all_heights.nd rfl (.inl rfl) pe_newN)
      (pss_cons (ps_if (pt_cmpR (r := rInN K P w false) (op_inN hr.units) (pe_nm0 (C := He.ga K "Night") (pv 0) N_ends (hr.mono (by decide)) pass0) (pv 1) (by rfl)) (pss_one (ps_asg pe_int (pg_sub (pv 2) (pe_nm0 (C := He.ga K "Night") (pv 0) N_ends (hr.mono (by decide)) pass0) (set_dn hr.units)))) pss_nil)
      (pss_cons (ps_set (i := 3) sc_all_heights.nd rfl (.inl rfl) pe_bl)
      (pss_cons (ps_while PassesOwn.never (pt_val (pv 3)) (pss_cons (ps_set (i := 3) sc_all_heights.nd rfl (.inl rfl) pe_bl)
      (pss_one (ps_lock (ps_for PassesOwn.never rfl (pi_keysN (pv 1)) (pg_name (i := 4) sc_all_heights.nd rfl (.inl rfl)) (pss_one (ps_for PassesOwn.never rfl (pi_list (pe_ix (r := rIxN K P w) (ix_dn hr.units) (pv 1) (pv 4) (fun _ _ => rfl))) (pg_name (i := 5) sc_all_heights.nd rfl (.inl rfl)) (pss_one (ps_if (pt_cmpR (r := rInN K P w false) (op_inN hr.units) (pe_ix (r := rIxT K) ix_tup (pv 5) pe_int (fun _ _ => rfl)) (pv 2) (by rfl)) (pss_cons (ps_set (i := 6) sc_all_heights.nd rfl (.inl rfl) (pe_op op_add (pe_ix (r := rIxT K) ix_tup (pv 5) pe_int (fun _ _ => rfl)) (pe_ix (r := rIxN K P w) (ix_dn hr.units) (pv 2) (pe_ix (r := rIxT K) ix_tup (pv 5) pe_int (fun _ _ => rfl)) (fun _ _ => rfl))))
      (pss_one (ps_if (PW.pt (pw_or (pt_cmpR (r := rInN K P w true) (op_notInN hr.units) (pv 4) (pv 2) (by rfl)) (pw_or1 (pt_cmpR op_lt (pv 6) (pe_ix (r := rIxN K P w) (ix_dn hr.units) (pv 2) (pv 4) (fun _ _ => rfl)) (nomark _))))) (pss_cons (ps_asg (pv 6) (pg_sub (pv 2) (pv 4) (set_dn hr.units)))
      (pss_one (ps_set (i := 3) sc_all_heights.nd rfl (.inl rfl) pe_bl))) pss_nil))) pss_nil)))))))))
      (pss_one (ps_ret (pv 2))))))), ?_⟩), F.bindsN fun _ _ _ _ _ _ us hl => match us, hl with | [_, _], _ => rfl, F.kp⟩
  · obtain ⟨v, n, dc, Lc, rfl, _⟩ := h
    rfl
  · obtain ⟨v, n, dc, Lc, rfl, N, m6, nok, hdc, hEc, k⟩ := h
    refine w_newN (P := P) (w := w) fun df hf0 => ?_
    have x1 := Evl.Ex.new (o := DnO P w df []) hf0
    have hf1 : upd H df (DnO P w df []) df = some (DnO P w df []) := upd_same
    have ncf : dc ≠ df := ne_of_none hdc hf0
    have dD : ∀ H', Ex H H' → DnD K P w H' (.ref dc) n.tab := fun H' e => ⟨dc, Lc, rfl, .inl (e _ _ hdc), hEc.mono e⟩
    refine w_join (fun σ' H' => σ' = [some v, some (.ref dc), some (.ref df), none, none, none, none] ∧ ∃ kv, Ex H H' ∧ FndOk K P w n df H' kv) ?go (fun go => ?main)
    case main =>
      refine w_when K (b := (look n.tab endS).isSome) (eb_d (ed_inN (t := endS) (ed_ends rfl (N.mono x1)) rfl (dD _ x1))) (fun hb H2 x2 => ?_) (fun hb H2 x2 => ?_)
      · have hs : endS ∈ n.stands := by rw [look_tab_some] at hb; exact of_decide_eq_true hb
        have x12 := x1.trans x2
        refine w_setN1 (K := K) (P := P) (w := w) (t := endS) (d := .int 0) (kv := eKv []) (L := []) (dd := df) ed_int rfl (ed_ends rfl (N.mono x12)) (x2 _ _ hf1) .nil (Nat.zero_le _) (fun b u H3 x3 hb3 hu3 hd3 hE3 => ?_)
        have e0 : kvPut (eKv []) endS (.int 0) = eKv [(endS, 0)] := rfl
        rw [e0] at hE3
        have eb : ExB df H3 (upd H3 df (DnO P w df (putL [] endS b u))) := ExB.upd (Evl.Ex.refl H3)
        have one : ∀ s x, lk [(endS, (0 : Int))] s = some x → s = endS ∧ x = 0 := fun s x h => by
          unfold lk at h
          rw [List.find?_cons] at h
          by_cases e : endS = s
          · rw [decide_eq_true e] at h; cases h; exact ⟨e.symm, rfl⟩
          · rw [decide_eq_false e] at h; cases h
        refine go _ _ ⟨rfl, [(endS, 0)], (x12.trans x3).mut hf0, ⟨_, upd_same, hE3.butx eb hd3⟩, ⟨fun s x h => ?_, fun s x h => ?_, fun s x h => ?_, .inl rfl⟩, ⟨by simp, fun q hq => ?_⟩, fun _ => rfl⟩
        · obtain ⟨rfl, rfl⟩ := one s x h; exact .nil
        · rw [(one s x h).2]; exact Int.le_refl _
        · rw [(one s x h).2]; decide
        · rw [List.mem_singleton.mp hq]; exact hs
      · have hs : endS ∉ n.stands := by rw [look_tab_some] at hb; exact of_decide_eq_false hb
        exact go _ _ ⟨rfl, [], x1.trans x2, ⟨[], x2 _ _ hf1, .nil⟩, ⟨nofun, nofun, nofun, .inr rfl⟩, ⟨by simp, nofun⟩, fun h => absurd h hs⟩
    case go =>
      rintro σ' H2 ⟨rfl, kv0, x2, F0⟩
      refine w_asg (K := K) (d := .bool true) ed_bl (fun v3 H3 x3 h3 => ?_)
      cases dp_bl.mp h3
      have FndMono : ∀ H' H'' kv, Ex H' H'' → FndOk K P w n df H' kv → FndOk K P w n df H'' kv := fun H' H'' kv e ⟨⟨Lf, a, b⟩, r⟩ => ⟨⟨Lf, e _ _ a, b.mono e⟩, r⟩
      have F3 := FndMono _ _ _ x3 F0
      refine (?wh : tWhile _ _ _ _ _)
      case wh =>
      refine ⟨fun m σ' H' => ∃ (t : Bool) (a b c : Option V) (kv : KvI), σ' = [some v, some (.ref dc), some (.ref df), some (.bl t), a, b, c] ∧ Ex H H' ∧ FndOk K P w n df H' kv ∧ (t = false → ∀ s ∈ n.stands, ∀ x ∈ n.row s, okAt kv s x) ∧ m = if t = true then sumCost topB n.stands kv + 1 else 0, ⟨_, true, none, none, none, kv0, rfl, x2.trans x3, F3, nofun, rfl⟩, ?_⟩
      rintro m σ' H4 ⟨t, a, b, c, kv, rfl, x4, F4, hst, rfl⟩
      refine ⟨_, rfl, t, rfl, ?_⟩
      cases t with
      | false =>
        rw [if_neg Bool.false_ne_true]
        obtain ⟨⟨Lf, f1, f2⟩, f3, f4, f5⟩ := F4
        exact ⟨_, rfl, k df Lf kv H4 x4 hf0 f1 f2 f3 f4 (still_of (hst rfl)) f5⟩
      | true =>
        rw [if_pos rfl]
        refine ⟨fun σ' H' => ∃ m', m' < sumCost topB n.stands kv + 1 ∧ ∃ (t : Bool) (a b c : Option V) (kv : KvI), σ' = [some v, some (.ref dc), some (.ref df), some (.bl t), a, b, c] ∧ Ex H H' ∧ FndOk K P w n df H' kv ∧ (t = false → ∀ s ∈ n.stands, ∀ x ∈ n.row s, okAt kv s x) ∧ m' = if t = true then sumCost topB n.stands kv + 1 else 0, fun σ' H' h => h, ?_⟩
        refine w_asg (K := K) (d := .bool false) ed_bl (fun v5 H5 x5 h5 => ?_)
        cases dp_bl.mp h5
        have x45 := x4.trans x5
        have F5 := FndMono _ _ _ x5 F4
        refine ⟨dc, DnO P w dc Lc, x45 _ _ hdc, True.intro, fun od => ?_⟩
        have eL : ExB dc H5 (upd H5 dc (.frz od (DnO P w dc Lc))) := ExB.upd (Evl.Ex.refl H5)
        have F6 : FndOk K P w n df (upd H5 dc (.frz od (DnO P w dc Lc))) kv := by
          obtain ⟨⟨Lf, a1, a2⟩, r⟩ := F5
          exact ⟨⟨Lf, eL _ _ ncf.symm a1, a2.butx eL (x45 _ _ hdc)⟩, r⟩
        refine w_forN (P := P) (w := w) (dc := dc) (o := od) (L := Lc) rfl upd_same (fun j σ' H' => ∃ (t : Bool) (a b c : Option V) (kv' : KvI), σ' = [some v, some (.ref dc), some (.ref df), some (.bl t), a, b, c] ∧ H' dc = some (.frz od (DnO P w dc Lc)) ∧ ExB dc H H' ∧ FndOk K P w n df H' kv' ∧ (t = false → kv' = kv ∧ ∀ s ∈ n.stands.take j, ∀ x ∈ n.row s, okAt kv s x) ∧ (t = true → sumCost topB n.stands kv' < sumCost topB n.stands kv))
          ⟨false, a, b, c, kv, rfl, upd_same, (ExB.ex x45).trans eL, F6, fun _ => ⟨rfl, fun s hs => by rw [List.take_zero] at hs; cases hs⟩, nofun⟩ (fun j σ' H' ⟨_, _, _, _, _, _, h, _⟩ => h) ?_ ?_
        · rintro j p σ' H6 hp ⟨t, a, b, c, kv', rfl, hc6, eB, F6, ht0, ht1⟩
          have E6 := hEc.butx eB hdc
          obtain ⟨q, hq, hent⟩ := E6.get hp
          obtain ⟨s, hs, rfl⟩ : ∃ s, n.stands[j]? = some s ∧ q = (s, .list ((n.row s).map eStep)) := by
            unfold Nt.tab at hq
            rw [List.getElem?_map] at hq
            cases e : n.stands[j]? with
            | none => rw [e] at hq; cases hq
            | some s => rw [e] at hq; exact ⟨s, rfl, (Option.some.inj hq).symm⟩
          have hsm := List.mem_of_getElem? hs
          have key6 : Dp K H6 (.ref p.1) (eS s) := hent.2.1
          show tFor _ _ _ _ _ _
          refine w_dicD1 (K := K) (l := df) (ds := (n.row s).map eStep) (ed_ixN rfl ⟨dc, Lc, rfl, .inr ⟨od, hc6⟩, E6⟩ (ed_var rfl key6) (look_tab n hsm)) (fun _ H' => ∃ Lf, H' df = some (DnO P w df Lf)) (fun _ H' ⟨Lf, h⟩ => ⟨_, h⟩) (fun H7 x7 => by obtain ⟨⟨Lf, a1, _⟩, _⟩ := F6; exact ⟨Lf, x7 _ _ a1⟩)
            (fun i H' σ' => ∃ (t : Bool) (b c : Option V) (kv' : KvI), σ' = [some v, some (.ref dc), some (.ref df), some (.bl t), some (.ref p.1), b, c] ∧ H' dc = some (.frz od (DnO P w dc Lc)) ∧ ExB dc H H' ∧ FndOk K P w n df H' kv' ∧ (t = false → kv' = kv ∧ (∀ s ∈ n.stands.take j, ∀ x ∈ n.row s, okAt kv s x) ∧ ∀ x ∈ (n.row s).take i, okAt kv s x) ∧ (t = true → sumCost topB n.stands kv' < sumCost topB n.stands kv))
            (fun H7 x7 => ⟨t, b, c, kv', rfl, x7 _ _ hc6, eB.trans (ExB.ex x7), FndMono _ _ _ x7 F6, fun e => ⟨(ht0 e).1, (ht0 e).2, fun x hx => by rw [List.take_zero] at hx; cases hx⟩, ht1⟩) ?_ ?_
          · rintro i d x σ' H7 hd hx ⟨t, b, c, kv', rfl, hc7, eB7, F7, ht0, ht1⟩ _
            obtain ⟨st, hsti, rfl⟩ := get_map hd
            have stm := List.mem_of_getElem? hsti
            have edg := edge_row hsm stm
            obtain ⟨c1, c2, tin⟩ := edge_in nok edg
            have hx' : Dp K H7 x (.tuple [.int st.1, eI st.2.1, eS st.2.2]) := hx
            obtain ⟨⟨Lf, f1, f2⟩, f3, f4, f5⟩ := F7
            have fD : ∀ H', Ex H7 H' → DnD K P w H' (.ref df) (eKv kv') := fun H' e => ⟨df, Lf, rfl, .inl (e _ _ f1), f2.mono e⟩
            have kE : ∀ H' (h : Option V), Ex H7 H' → EvD K (tOp (rIxT K) (tVar 5) (tC (.int 2))) [some v, some (.ref dc), some (.ref df), some (.bl t), some (.ref p.1), some x, h] H' (eS st.2.2) := fun H' h e => ed_op (ed_var rfl (dp_mono e _ _ hx')) (ed_int (i := 2)) (rd_ixT (by rfl))
            have keep : ∀ H8 (h : Option V), Ex H7 H8 → okAt kv' s st → (∃ (t2 : Bool) (b2 c2 : Option V) (kv2 : KvI), [some v, some (.ref dc), some (.ref df), some (.bl t), some (.ref p.1), some x, h] = [some v, some (.ref dc), some (.ref df), some (.bl t2), some (.ref p.1), b2, c2] ∧ H8 dc = some (.frz od (DnO P w dc Lc)) ∧ ExB dc H H8 ∧ FndOk K P w n df H8 kv2 ∧ (t2 = false → kv2 = kv ∧ (∀ s ∈ n.stands.take j, ∀ x ∈ n.row s, okAt kv s x) ∧ ∀ x ∈ (n.row s).take (i + 1), okAt kv s x) ∧ (t2 = true → sumCost topB n.stands kv2 < sumCost topB n.stands kv)) ∧ ExB df H7 H8 ∧ ∃ Lf, H8 df = some (DnO P w df Lf) := fun H8 h e ok => by
              refine ⟨⟨t, _, _, kv', rfl, e _ _ hc7, eB7.trans (ExB.ex e), ⟨⟨Lf, e _ _ f1, f2.mono e⟩, f3, f4, f5⟩, fun z => ?_, ht1⟩, ExB.ex e, Lf, e _ _ f1⟩
              obtain ⟨rfl, z2, z3⟩ := ht0 z
              refine ⟨rfl, z2, fun y hy => ?_⟩
              rw [take_snoc hsti] at hy
              rcases List.mem_append.mp hy with hy | hy
              · exact z3 y hy
              · rw [List.mem_singleton.mp hy]; exact ok
            show tIfS _ _ _ _ _ _
            refine w_when1 K (b := (look (eKv kv') st.2.2).isSome) (eb_d (ed_inN (kE H7 c (Evl.Ex.refl H7)) rfl (fD H7 (Evl.Ex.refl H7)))) (fun hb H8 x8 => ?_) (fun hb H8 x8 => ?_)
            · rw [look_eKv, Option.isSome_map] at hb
              obtain ⟨y, hy⟩ := Option.isSome_iff_exists.mp hb
              have ly : look (eKv kv') st.2.2 = some (.int y) := by rw [look_eKv, hy]; rfl
              refine w_asg (K := K) (d := .int (st.1 + y)) (ed_op (d := .int st.1) (e := .int y) (ed_op (ed_var rfl (dp_mono x8 _ _ hx')) (ed_int (i := 0)) (rd_ixT (by rfl))) (ed_ixN rfl (fD H8 x8) (kE H8 c x8) ly) (rd_I0 fun _ => .int _)) (fun v9 H9 x9 h9 => ?_)
              cases dp_int.mp h9
              have x89 := x8.trans x9
              have key9 : Dp K H9 (.ref p.1) (eS s) := dp_mono x89 _ _ (((hEc.butx eB7 hdc).get hp).elim fun q hq => by
                have e2 : n.tab[j]? = some (s, .list ((n.row s).map eStep)) := by unfold Nt.tab; rw [List.getElem?_map, hs]; rfl
                rw [e2] at hq
                obtain ⟨hq1, hq2⟩ := hq
                cases hq1
                exact hq2.2.1)
              refine w_when1 K (b := !(look (eKv kv') s).isSome || decide (st.1 + y < (lk kv' s).getD 0)) (eb_or (eb_d (ed_notInN (ed_var rfl key9) rfl (fD H9 x89))) (fun hq => eb_d (ed_op (d := .int (st.1 + y)) (e := .int ((lk kv' s).getD 0)) (ed_var rfl (.int _)) (ed_ixN rfl (fD H9 x89) (ed_var rfl key9) ?lq) (rd_I0 fun _ => .bl _)))) (fun hb2 H10 x10 => ?_) (fun hb2 H10 x10 => ?_)
              case lq =>
                have : (look (eKv kv') s).isSome = true := by simpa using hq
                rw [look_eKv, Option.isSome_map] at this
                obtain ⟨u, hu⟩ := Option.isSome_iff_exists.mp this
                rw [look_eKv, hu]
                rfl
              · have x910 := x89.trans x10
                have bet : lk kv' s = none ∨ ∃ u, lk kv' s = some u ∧ st.1 + y < u := by
                  rw [look_eKv, Option.isSome_map] at hb2
                  cases e : lk kv' s with
                  | none => exact .inl rfl
                  | some u => rw [e] at hb2; exact .inr ⟨u, rfl, by simpa using hb2⟩
                have B3 := f3.put edg ⟨c1, c2⟩ hy bet
                have K3 := f4.put (v := st.1 + y) hsm
                have ll : Lf.length ≤ 100000 := by
                  have := f2.len
                  unfold eKv at this
                  rw [List.length_map] at this
                  have := f4.len
                  have := stands_len m6
                  omega
                refine w_setN (z := 0) (K := K) (P := P) (w := w) (t := s) (d := .int (st.1 + y)) (kv := eKv kv') (L := Lf) (dd := df) (ed_var rfl (.int _)) rfl (ed_var rfl (dp_mono x10 _ _ key9)) (x910 _ _ f1) (f2.mono x910) ll (fun b2 u2 H11 x11 hb11 hu11 hd11 hE11 => ?_)
                rw [put_eKv] at hE11
                have eb : ExB df H11 (upd H11 df (DnO P w df (putL Lf s b2 u2))) := ExB.upd (Evl.Ex.refl H11)
                have ebx : ExB df H7 (upd H11 df (DnO P w df (putL Lf s b2 u2))) := (ExB.ex (x910.trans x11)).trans eb
                have hE12 := hE11.butx eb hd11
                have hc12 : upd H11 df (DnO P w df (putL Lf s b2 u2)) dc = some (.frz od (DnO P w dc Lc)) := ebx _ _ ncf hc7
                have eB12 : ExB dc H (upd H11 df (DnO P w df (putL Lf s b2 u2))) := fun a o na ha => by
                  have ne : a ≠ df := ne_of_none ha hf0
                  exact ebx _ _ ne (eB7 _ _ na ha)
                have d12 : upd H11 df (DnO P w df (putL Lf s b2 u2)) df = some (DnO P w df (putL Lf s b2 u2)) := upd_same
                generalize upd H11 df (DnO P w df (putL Lf s b2 u2)) = H12 at ebx hE12 hc12 eB12 d12
                have lt := sumCost_lt (B := topB) (Ss := n.stands) (kv := kv') hsm (show 0 ≤ st.1 + y by have := f3.nn _ _ hy; omega) (B3.le_top m6 K3 (by rw [lk_pt, if_pos rfl])) bet
                have le : sumCost topB n.stands (pt kv' s (st.1 + y)) < sumCost topB n.stands kv := by
                  cases t with
                  | false => rw [← (ht0 rfl).1]; exact lt
                  | true => exact Nat.lt_trans lt (ht1 rfl)
                refine w_asg1 (K := K) (d := .bool true) ed_bl (fun v13 H13 x13 h13 => ?_)
                cases dp_bl.mp h13
                refine ⟨⟨true, _, _, pt kv' s (st.1 + y), rfl, x13 _ _ hc12, eB12.trans (ExB.ex x13), ⟨⟨_, x13 _ _ d12, hE12.mono x13⟩, B3, K3, fun hz => ?_⟩, nofun, fun _ => le⟩, ebx.trans (ExB.ex x13), _, x13 _ _ d12⟩
                rw [lk_pt]
                have z0 := f5 hz
                by_cases e : endS = s
                · rw [← e, z0] at bet
                  have := f3.nn _ _ hy
                  rcases bet with h | ⟨u, h, h2⟩
                  · cases h
                  · cases h; omega
                · rw [if_neg e]; exact z0
              · obtain ⟨k1, k2, k3⟩ := keep H10 _ (x89.trans x10) fun v hv => by
                  rw [hy] at hv
                  cases hv
                  rw [look_eKv, Option.isSome_map] at hb2
                  cases e : lk kv' s with
                  | none => rw [e] at hb2; cases hb2
                  | some u => rw [e] at hb2; exact ⟨u, rfl, by simp at hb2; omega⟩
                exact ⟨k1, k2, k3⟩
            · obtain ⟨k1, k2, k3⟩ := keep H8 c x8 fun v hv => by
                rw [look_eKv, Option.isSome_map, hv] at hb
                cases hb
              exact ⟨k1, k2, k3⟩
          · rintro σ' H7 ⟨t, b, c, kv', rfl, hc7, eB7, F7, ht0, ht1⟩ _
            rw [List.length_map, List.take_length] at ht0
            refine ⟨t, _, b, c, kv', rfl, hc7, eB7, F7, fun e => ⟨(ht0 e).1, fun s2 hs2 => ?_⟩, ht1⟩
            rw [take_snoc hs] at hs2
            rcases List.mem_append.mp hs2 with h | h
            · exact (ht0 e).2.1 s2 h
            · rw [List.mem_singleton.mp h]; exact (ht0 e).2.2
        · rintro σ' H6 ⟨t, a, b, c, kv', rfl, hc6, eB, F6, ht0, ht1⟩
          refine ⟨hc6, ?_⟩
          have tl : n.tab.length = n.stands.length := by unfold Nt.tab; rw [List.length_map]
          rw [hEc.len, tl, List.take_length] at ht0
          have xb : Ex H (upd H6 dc (DnO P w dc Lc)) := exB_back eB hdc
          have F8 : FndOk K P w n df (upd H6 dc (DnO P w dc Lc)) kv' := by
            obtain ⟨⟨Lf, a1, a2⟩, r⟩ := F6
            have eU : ExB dc H6 (upd H6 dc (DnO P w dc Lc)) := ExB.upd (Evl.Ex.refl H6)
            exact ⟨⟨Lf, eU _ _ ncf.symm a1, a2.butg eU (no_lst hc6) (no_tup hc6)⟩, r⟩
          cases t with
          | false =>
            obtain ⟨rfl, hok⟩ := ht0 rfl
            exact ⟨0, Nat.zero_lt_succ _, false, a, b, c, kv', rfl, xb, F8, fun _ => hok, rfl⟩
          | true => exact ⟨sumCost topB n.stands kv' + 1, Nat.succ_lt_succ (ht1 rfl), true, a, b, c, kv', rfl, xb, F8, nofun, rfl⟩
end

end Fy

namespace Fy
open PySem PySem.Spec PyProof.Rows L2
/-! ### [.. for s in d], d locked meanwhile -/
theorem noLs_take : ∀ {ds : List PyData}, noLs ds = true → ∀ k, noLs (ds.take k) = true
  | [], _, k => by rw [List.take_nil]; rfl
  | d :: ds, h, 0 => rfl
  | d :: ds, h, k + 1 => by
    have h2 : (noL d && noLs ds) = true := h
    rw [Bool.and_eq_true] at h2
    show (noL d && noLs (ds.take k)) = true
    rw [h2.1, noLs_take h2.2 k]; rfl
theorem en_keys {K : PySem.W.Frag} {P : Program} {w : World} {σ : L2.St} {H : Hp} {te : TE} {vs : List Nat} {i j : Nat} {dc : Addr} {Lc : List DEnt} {ds : List PyData} (hi : σ[i]? = some (some (.ref dc))) (h1 : H dc = some (DnO P w dc Lc)) (hl : ds.length = Lc.length) (hz : ds.length ≤ 100000) (hn : noLs ds = true)
    (hw : ∀ x, wipe ((wipe σ vs).set j (some x)) vs = wipe σ vs)
    (ht : ∀ (k : Nat) (p : DEnt) (d : PyData) (H' : Hp) (od : Obj), Lc[k]? = some p → ds[k]? = some d → ExB dc H H' → H' dc = some (.frz od (DnO P w dc Lc)) → EvD K te ((wipe σ vs).set j (some (.ref p.1))) H' d) : EvN K (tLockE (tLc (iKeysN P w (tVar i)) (gName j) tYes te vs)) σ H ds := fun H1 x Q q => by
  have hd1 := x _ _ h1
  refine ⟨dc, DnO P w dc Lc, hd1, True.intro, fun od => ?_⟩
  have eL : ExB dc H1 (upd H1 dc (.frz od (DnO P w dc Lc))) := ExB.upd (Evl.Ex.refl H1)
  refine ⟨_, hi, dc, od, Lc, rfl, upd_same, fun D hD => ?_⟩
  have hDd : D ≠ dc := fun e => by rw [e, upd_same] at hD; cases hD
  have hD1 : H1 D = none := by rw [upd_ne hDd] at hD; exact hD
  refine ⟨fun k m H' => m = Lc.length - k ∧ k ≤ Lc.length ∧ H' dc = some (.frz od (DnO P w dc Lc)) ∧ ExB dc H1 H' ∧ ∃ acc, H' D = some (.lst acc) ∧ DpAll K H' acc (ds.take k), ⟨Lc.length, by simp, Nat.zero_le _, ?_, ?_, [], upd_same, by rw [List.take_zero]; exact .nil⟩, ?_⟩
  · rw [upd_ne (Ne.symm hDd)]; exact upd_same
  · intro b u n hb
    have nb : b ≠ D := fun e => by rw [e, hD1] at hb; cases hb
    rw [upd_ne nb]
    exact eL b u n hb
  · rintro k m H' ⟨rfl, hk, hc, eB, acc, ha, hA⟩
    by_cases hlt : k < Lc.length
    · refine .inr ⟨⟨hc, hlt⟩, fun H3 => H3 dc = some (.frz od (DnO P w dc Lc)) ∧ ExB dc H1 H3 ∧ ∃ acc, H3 D = some (.lst acc) ∧ DpAll K H3 acc (ds.take (k + 1)), fun H3 h3 => ⟨Lc.length - (k + 1), by omega, rfl, hlt, h3⟩, fun y H2 yy => ?_⟩
      obtain ⟨rfl, p, hp, rfl⟩ := yy
      refine ⟨hw _, ?_⟩
      unfold tYes
      dsimp only
      rw [if_pos rfl]
      have hdk : ds[k]? = some ds[k] := List.getElem?_eq_getElem (by omega)
      refine ht k p _ H2 od hp hdk ((ExB.ex x).trans eB) hc H2 (Evl.Ex.refl H2) _ fun v H4 x4 hv => ?_
      have ha4 := x4 _ _ ha
      have al := dpa_len hA
      rw [List.length_take] at al
      have up : Up H4 (upd H4 D (.lst (acc ++ [v]))) := ⟨fun c ys e => by
        have : c ≠ D := fun z => by rw [z, ha4] at e; cases e
        rw [upd_ne this]; exact e, fun c o u e => by
        have : c ≠ D := fun z => by rw [z, ha4] at e; cases e
        rw [upd_ne this]; exact e⟩
      refine ⟨acc, ha4, Nat.lt_of_le_of_lt (show acc.length ≤ 100000 by omega) (by decide), ?_, ?_, acc ++ [v], upd_same, ?_⟩
      · rw [upd_ne (Ne.symm hDd)]; exact x4 _ _ hc
      · intro b u n hb
        have nb : b ≠ D := fun e => by rw [e, hD1] at hb; cases hb
        rw [upd_ne nb]
        exact x4 _ _ (eB b u n hb)
      · refine dpa_up up _ _ ?_ ?_
        · exact noLs_take hn _
        · rw [take_snoc hdk]
          exact dpa_app (dpa_mono x4 _ _ hA) (.cons hv .nil)
    · have e2 : k = Lc.length := by omega
      subst e2
      refine .inl ⟨⟨hc, Nat.le_refl _⟩, hc, q _ _ (exB_back eB hd1) ⟨D, acc, rfl, hD1, by rw [upd_ne hDd]; exact ha, ?_⟩⟩
      refine dpa_butg (ExB.upd (Evl.Ex.refl H')) (no_lst hc) (no_tup hc) _ _ ?_
      rw [← hl, List.take_length] at hA
      exact hA
theorem pe_getNx {X : Cx} {K : PySem.W.Frag} {P : Program} {w : World} {o e : Expr} {td ty : TE} {apos cpos : Pos} (hK : X.K = K) (hP : X.prog = P) (hW : X.w = w) (hu : X.A.units + 64 < cLine) (ho : PE X o td) (he : PE X e ty) (m : M1 X o "get" apos e cpos) : PE X (.Call (.Attribute o "get" apos) [e] [] cpos) (tGetN K P w td ty) := by
  subst hK hP hW
  exact pe_getN hu ho he m

end Fy

namespace Fy
open PySem PySem.Spec PyProof.Rows L2
/-- what the bettering has come to -/
def Fin2 (n : Nt) (kv : KvI) : Prop := Bet n.edge endS kv ∧ KvOk n kv ∧ Still n.edge kv ∧ (endS ∈ n.stands → lk kv endS = some 0)
def eHt (kv : KvI) (s : St2) : PyData := .tuple [eS s, ((lk kv s).map PyData.int).getD .none]
theorem noL_eHt (kv : KvI) (s : St2) : noL (eHt kv s) = true := by
  show (noL (eS s) && (noL _ && true)) = true
  rw [noL_eS]
  cases lk kv s <;> rfl
def spHts (K : PySem.W.Frag) : Sp := fun vs H Q _ => ∃ v n, vs = [v] ∧ NightAt K H v n ∧ n.things.length ≤ 6 ∧ n.ok = true ∧ RetR (fun u H' => ∃ kv, Fin2 n kv ∧ NewL K H u H' (n.stands.map (eHt kv))) H Q
section
variable {P : Program} {w : World} {K : PySem.W.Frag} {mg : Str → Option Value} {base : Heap}
theorem sc_heights : FnScope ["night", "crossings", "known", "standing"] ["night"] (defScope s_heights) := ⟨rfl, rfl, rfl, by decide +kernel, rfl, by decide +kernel, by decide +kernel⟩
theorem ok_heights (T : Tx K mg) : Has P w K mg base CX0 7 "heights" ["night"] (spHts K) := by
  obtain ⟨fd, F⟩ := T.f_heights
  have G_all_heights := ok_all_heights (P := P) (w := w) (base := base) T
  have G_table := ok_table (P := P) (w := w) (base := base) T
  refine ⟨T.g_heights, fd, F.ok sc_heights (fun vs H Q E h => ?_) (fun cdv A outer s H vs Q E hr h => ⟨_, PSs.nox (pss_cons (ps_set (i := 1) sc_heights.nd rfl (.inl rfl) (pe_f G_table (hr.mono (by decide)) rfl (pa_cons (pv 0) pa_nil)))
      (pss_cons (ps_set (i := 2) sc_heights.nd rfl (.inr rfl) (pe_f G_all_heights (hr.mono (by decide)) rfl (pa_cons (pv 0) (pa_cons (pv 1) pa_nil))))
      (pss_one (ps_ret (pe_lock (pe_lc (own := [("standing", 3)]) (g := gName 3) (by rfl) sc_heights.nd (pi_keysN (pv 1)) (blkOk_by (N := ["night", "crossings", "known", "standing"]) (sc := defScope s_heights) (by decide +kernel)) (fun _ _ _ _ _ => pg_name (i := 3) sc_heights.nd rfl (.inl rfl)) (fun _ _ _ _ _ => pts_nil) (fun _ _ _ _ _ => (pe_tup (pa_cons (pv 3) (pa_cons (pe_getNx (K := K) (P := P) (w := w) rfl rfl rfl (by exact hr.units) (pv 2) (pv 3) (by exact ⟨rfl, rfl, rfl, rfl⟩)) pa_nil)))))))))), ?_⟩), F.bindsN fun _ _ _ _ _ _ us hl => match us, hl with | [_], _ => rfl, F.kp⟩
  · obtain ⟨v, n, rfl, _⟩ := h
    rfl
  · obtain ⟨v, n, rfl, N, m6, nok, k⟩ := h
    refine ⟨v, rfl, v, n, rfl, N, m6, nok, fun u H1 x1 ⟨dc, Lc, eu, d0, hL, hE⟩ => ?_⟩
    subst eu
    have N1 := N.mono x1
    refine ⟨v, rfl, .ref dc, rfl, v, n, dc, Lc, rfl, N1, m6, nok, hL, hE, fun df Lf kv H2 x2 f0 f1 f2 f3 f4 f5 f6 => ?_⟩
    have x12 := x1.trans x2
    have hL2 := x2 _ _ hL
    have hE2 := hE.mono x2
    have ncf : df ≠ dc := ne_of_none (o := DnO P w dc Lc) hL f0 |>.symm
    have sl : n.stands.length ≤ 128 := stands_len m6
    have tl : n.tab.length = n.stands.length := by unfold Nt.tab; rw [List.length_map]
    have rr : EvN K _ _ H2 (n.stands.map (eHt kv)) := en_keys (K := K) (P := P) (w := w) (σ := [some v, some (.ref dc), some (.ref df), none]) (te := tTup (tCons (tVar 3) (tCons (tGetN K P w (tVar 2) (tVar 3)) tNil))) (vs := [3]) (i := 1) (j := 3) (Lc := Lc) rfl hL2 (by rw [List.length_map, hE.len, tl]) (by rw [List.length_map]; omega) (noLs_map (noL_eHt kv) _) (fun _ => rfl) (fun j p d H' od hp hd eB hc => by
      have E6 := hE2.butx eB hL2
      obtain ⟨q, hq, hent⟩ := E6.get hp
      obtain ⟨s, hs, rfl⟩ := get_map hd
      have hq2 : q = (s, .list ((n.row s).map eStep)) := by
        unfold Nt.tab at hq
        rw [List.getElem?_map, hs] at hq
        exact (Option.some.inj hq).symm
      subst hq2
      have key6 : Dp K H' (.ref p.1) (eS s) := hent.2.1
      have fD : DnD K P w H' (.ref df) (eKv kv) := ⟨df, Lf, rfl, .inl (eB _ _ ncf f1), f2.butx eB hL2⟩
      have g := ed_getN (K := K) (P := P) (w := w) (σ := [some v, some (.ref dc), some (.ref df), some (.ref p.1)]) (H := H') (i := 2) (v := .ref df) (t := s) (tb := tVar 3) rfl fD (ed_var rfl key6)
      rw [look_eKv] at g
      exact ed_tup (ds := [eS s, ((lk kv s).map PyData.int).getD .none]) (eds_cons (ed_var rfl key6) (eds_cons g eds_nil)) (show 2 ≤ 100000 by decide))
    exact w_retN1 rr fun u H3 x3 h3 => k u H3 (x12.trans x3) ⟨kv, ⟨f3, f4, f5, f6⟩, h3.back x12⟩
end

end Fy

namespace Fy
open PySem PySem.Spec PyProof.Rows L2
theorem bits_zero : ∀ m : Nat, bitsL 0 m = [] := by
  intro m
  unfold bitsL
  induction m with
  | zero => rfl
  | succ m ih => simp_all
theorem sortI_groups (p : List Int → Bool) (m : Nat) : SortI ((groups m).filter p) := by
  cases h : p [] with
  | false => exact .inl fun g hg e => by have z := (List.mem_filter.mp hg).2; rw [e, h] at z; cases z
  | true =>
    obtain ⟨k, hk⟩ : ∃ k, 2 ^ m = k + 1 := ⟨2 ^ m - 1, by have := Nat.two_pow_pos m; omega⟩
    refine .inr ⟨((List.map Nat.succ (List.range k)).map fun x : Nat => bitsL x m).filter p, ?_⟩
    unfold groups
    rw [hk, List.range_succ_eq_map, List.map_cons, List.filter_cons]
    rw [show bitsL ((0 : Nat) : Int) m = [] from bits_zero m, if_pos h]
def spLStands (K : PySem.W.Frag) : Sp := spL K (fun x : List (Int × Int × Int) × Nat => x.2 ≤ 6) (fun x => [.list (x.1.map eQ), .int (x.2 : Int)]) (fun x => (lawStands x.1 x.2).map eS)
theorem lawGroups_le {qs : List (Int × Int × Int)} {m : Nat} (h : m ≤ 6) : (((groups m).filter fun g => good qs g m).mergeSort leI).length ≤ 64 := by
  rw [List.length_mergeSort]
  have h1 := List.length_filter_le (fun g => good qs g m) (groups m)
  rw [groups_len] at h1
  have : 2 ^ m ≤ 2 ^ 6 := Nat.pow_le_pow_right (by decide) h
  omega
section
variable {P : Program} {w : World} {K : PySem.W.Frag} {mg : Str → Option Value} {base : Heap}
end

end Fy

namespace Fy
open PySem PySem.Spec PyProof.Rows L2
/-! ### {key: v}, the key a standing -/
def tDispN (K : PySem.W.Frag) (P : Program) (w : World) (tk tv : TE) : TE := fun σ H Q => ∀ p, H p = none → tk σ (upd H p (DnO P w p [])) fun y H1 => tv σ H1 fun u H2 => ∃ b t, y = .ref b ∧ Dp K H2 (.ref b) (eS t) ∧ H2 p = some (DnO P w p []) ∧ Q (.ref p) (upd H2 p (DnO P w p [(b, t, u)]))
theorem pe_dispN {X : Cx} {k v : Expr} {pos : Pos} {tk tv : TE} (hu : X.A.units + 64 < cLine) (hk : PE X k tk) (hv : PE X v tv) : PE X (.Dict [some k] [v] pos) (tDispN X.K X.prog X.w tk tv) := by
  refine ⟨fun pins s σ H Q I q => ?_⟩
  have hn := I.hok.fresh (Nat.le_refl s.heap.objs.size)
  have I1 := I.laid (a := s.heap.objs.size) (o := DnO X.prog X.w s.heap.objs.size []) (h' := s.heap.push { cls := .type "dict", data := .dict #[] }) (t' := s.toks) (fun _ _ q => Heap.get?_push_of_some _ q) (Nat.le_refl _) (dn_ok (dn_empty s.heap I.big))
  rw [PySem.arm_eval_Dict, zip_pairTrees [some k] [v] X.env pos rfl rfl, dictDisplay_pairs (pairTrees [some k] [v] X.env pos) nofun (show 1 < 17 by decide)]
  refine wpAny_bind (wpAny_standAt (wpAny_bind (wpAny_subDictH (knd := nestedKind X.prog X.w) (Q := fun d s' => wpAny (model X.prog X.w) X.A (pure (Value.ref d)) (EP X pins σ Q) X.xe s') (show X.A.units + 8 < cLine from by omega) (show 1 ≤ 15 by decide) ?_)))
  refine pairTrees_cons_walk (thn (hk.run pins _ σ _ _ I1 (q _ hn)) fun kv s1 ⟨y, H1, I2, ry, q1⟩ => thn (hv.run pins s1 σ H1 _ I2 q1) fun uv s2 ⟨u, H2, I3, ru, b, t, ey, hb, hp, q2⟩ => pairTrees_nil_walk ?_)
  subst ey
  obtain rfl : kv = Value.ref b := ry
  obtain ⟨_, hd, n, us, r, dd⟩ := dn_read I3 (.inl hp) (fun p hp => nomatch hp)
  cases r
  refine ⟨[(kS t, b, uv)], ⟨rfl, rfl, nested_of I3 hb, trivial⟩, dd, fun h' tk' dd' hs => wpAny_pure ?_⟩
  obtain ⟨o, es, ep, ho, hx, hdt, he, _, _⟩ := dd'
  exact ⟨.ref s.heap.objs.size, _, d_write (t' := tk') I3 (by rw [hp]; exact True.intro) hs ⟨o, ho⟩ (dn_ok (L := [(b, t, u)]) ⟨show 1 ≤ sizeLine by decide, hd, by simp, [uv], o, es, ep, .cons ru .nil, ho, hx, hdt, he⟩), rfl, q2⟩

end Fy

namespace Fy
open PySem PySem.Spec PyProof.Rows L2
/-! ### the law's own bettering -/
/-- all but what stands at l -/
def delH (l : Addr) (H : Hp) : Hp := fun a => if a = l then none else H a
theorem delH_at {l : Addr} {H : Hp} : delH l H l = none := if_pos rfl
theorem ex_del {l : Addr} {H H' : Hp} : Ex (delH l H) H' ↔ ExB l H H' :=
  ⟨fun e b o n h => e b o (by unfold delH; rw [if_neg n]; exact h), fun e b o h => by
    unfold delH at h
    by_cases n : b = l
    · rw [if_pos n] at h; cases h
    · rw [if_neg n] at h; exact e b o n h⟩
def lawRow (n : Nt) (s : St2) : List (St2 × Int × St2) := (n.row s).map fun x => (s, x.1, x.2.2)
def lawSteps (n : Nt) : List (St2 × Int × St2) := n.stands.flatMap (lawRow n)
def eLs (x : St2 × Int × St2) : PyData := .tuple [eS x.1, .int x.2.1, eS x.2.2]
theorem noL_eLs (x : St2 × Int × St2) : noL (eLs x) = true := by show (noL (eS x.1) && (noL (.int x.2.1) && (noL (eS x.2.2) && true))) = true; rw [noL_eS, noL_eS]; rfl
theorem lawSteps_edge {n : Nt} {x : St2 × Int × St2} (h : x ∈ lawSteps n) : n.edge x.1 x.2.1 x.2.2 := by
  obtain ⟨s, hs, hx⟩ := List.mem_flatMap.mp h
  obtain ⟨y, hy, rfl⟩ := List.mem_map.mp hx
  exact edge_row hs hy
theorem edge_lawSteps {n : Nt} {s t : St2} {c : Int} (h : n.edge s c t) : (s, c, t) ∈ lawSteps n := by
  obtain ⟨y, hy, rfl, rfl⟩ := row_edge h
  exact List.mem_flatMap.mpr ⟨s, h.1, List.mem_map.mpr ⟨y, hy, rfl⟩⟩
theorem lawRow_len {n : Nt} (m6 : n.things.length ≤ 6) {s : St2} (h : standOk n.things.length s = true) : (lawRow n s).length ≤ 64 := by
  unfold lawRow Nt.row
  rw [List.length_map, List.length_map, crews_eq h]
  exact lawCrews_len m6
theorem flat_len {α β : Type} {f : α → List β} {b : Nat} : ∀ {l : List α}, (∀ x ∈ l, (f x).length ≤ b) → (l.flatMap f).length ≤ l.length * b
  | [], _ => by simp
  | a :: l, h => by
    rw [List.flatMap_cons, List.length_append, List.length_cons, Nat.succ_mul]
    have h1 := h a List.mem_cons_self
    have h2 := flat_len (l := l) fun x hx => h x (List.mem_cons_of_mem _ hx)
    omega
theorem steps_len {n : Nt} (m6 : n.things.length ≤ 6) (i : Nat) : ((n.stands.take i).flatMap (lawRow n)).length ≤ 8192 := by
  have h1 := flat_len (f := lawRow n) (b := 64) (l := n.stands.take i) fun s hs => lawRow_len m6 (stands_ok s (List.mem_of_mem_take hs)).1
  have h2 := stands_len m6
  have h3 : (n.stands.take i).length ≤ 128 := by rw [List.length_take]; omega
  omega
/-- the keys that the law's map may have -/
def KvL (n : Nt) (kv : KvI) : Prop := (endS ∈ n.stands ∧ KvOk n kv) ∨ (endS ∉ n.stands ∧ kv = [(endS, 0)])
def LFin (n : Nt) (kv : KvI) : Prop := Bet n.edge endS kv ∧ Still n.edge kv ∧ lk kv endS = some 0 ∧ KvL n kv
theorem lk_one {s : St2} {x : Int} (h : lk [(endS, (0 : Int))] s = some x) : s = endS ∧ x = 0 := by
  unfold lk at h
  rw [List.find?_cons] at h
  by_cases e : endS = s
  · rw [decide_eq_true e] at h; cases h; exact ⟨e.symm, rfl⟩
  · rw [decide_eq_false e] at h; cases h
theorem fin_eq {n : Nt} {kv kv' : KvI} (h : Fin2 n kv) (h' : LFin n kv') : ∀ s ∈ n.stands, lk kv s = lk kv' s := fun s hs => by
  obtain ⟨h1, h2, h3, h4⟩ := h
  obtain ⟨g1, g2, g3, g4⟩ := h'
  by_cases e : endS ∈ n.stands
  · exact still_uniq h1 g1 h3 g2 (h4 e) g3 s
  · rcases g4 with ⟨a, _⟩ | ⟨_, rfl⟩
    · exact absurd a e
    · have z : kv = [] := by
        rcases h1.fin with f | f
        · have m := lk_mem.mp (show (lk kv endS).isSome = true by rw [f]; rfl)
          obtain ⟨q, hq, eq⟩ := List.mem_map.mp m
          exact absurd (eq ▸ h2.2 q hq) e
        · exact f
      rw [z]
      cases c : lk [(endS, (0 : Int))] s with
      | none => rfl
      | some x => exact absurd ((lk_one c).1 ▸ hs) e
theorem w_asgDispN {K : PySem.W.Frag} {P : Program} {w : World} {σ : L2.St} {H : Hp} {tk tv : TE} {D : Ends} {tz : TS} {i : Nat} {t : St2} {d : PyData} (hk : EvD K tk σ H (eS t)) (hv : EvD K tv σ H d)
    (k : ∀ p L H1, Ex H H1 → H p = none → H1 p = some (DnO P w p L) → Ents K H1 L [(t, d)] → tz D (σ.set i (some (.ref p))) H1) : tSeq (tAsg (tDispN K P w tk tv) (gName i)) tz D σ H := fun p hp => by
  have x1 := Evl.Ex.new (o := DnO P w p []) hp
  refine hk _ x1 _ fun y H2 x2 hy => hv H2 (x1.trans x2) _ fun u H3 x3 hu => ?_
  have hy3 := dp_mono x3 _ _ hy
  obtain ⟨b, g, rfl, hb⟩ := dp_tup.mp hy
  have hp3 : H3 p = some (DnO P w p []) := x3 _ _ (x2 _ _ upd_same)
  have eb : ExB p H3 (upd H3 p (DnO P w p [(b, t, u)])) := ExB.upd (Evl.Ex.refl H3)
  exact ⟨b, t, rfl, hy3, hp3, k p _ _ (((x1.trans x2).trans x3).mut hp) hp upd_same ((Ents.cons (p := (b, t, u)) (q := (t, d)) ⟨rfl, hy3, hu⟩ .nil).butx eb hp3)⟩
theorem w_clr1 {K : PySem.W.Frag} {σ : L2.St} {H : Hp} {D : Ends} {i : Nat} {p : Addr} {xs : List V} (hi : σ[i]? = some (some (.ref p))) (hp : H p = some (.lst xs)) (k : D.nx σ (upd H p (.lst []))) : tDrop (tBM0 K "list" rClear (tVar i)) D σ H :=
  ⟨_, hi, .inl ⟨rfl, _, SqL.of hp⟩, p, xs, rfl, rfl, hp, k⟩
theorem w_asgHts {K : PySem.W.Frag} {σ : L2.St} {H : Hp} {D : Ends} {tz : TS} {i j : Nat} {n : Nt} {v : V} (hj : σ[j]? = some (some v)) (N : NightAt K H v n) (m6 : n.things.length ≤ 6) (ok : n.ok = true)
    (k : ∀ u kv H1, Ex H H1 → Fin2 n kv → NewL K H u H1 (n.stands.map (eHt kv)) → tz D (σ.set i (some u)) H1) : tSeq (tAsg (tCall (spHts K) [] E0 (tCons (tVar j) tNil)) (gName i)) tz D σ H :=
  ⟨v, hj, v, n, rfl, N, m6, ok, fun u H1 x ⟨kv, f, h⟩ => k u kv H1 x f h⟩
def spLHts (K : PySem.W.Frag) (P : Program) (w : World) : Sp := fun vs H Q _ => ∃ v0 v1 v2 n, vs = [v0, v1, v2] ∧ Dp K H v0 (.list (n.things.map eT)) ∧ Dp K H v1 (.int n.room) ∧ Dp K H v2 (.list (n.quarrels.map eQ)) ∧ n.things.length ≤ 6 ∧ n.ok = true ∧
  ∀ df Lf kv H', Ex H H' → H df = none → H' df = some (DnO P w df Lf) → Ents K H' Lf (eKv kv) → LFin n kv → Q (.ref df) H'
theorem w_asgLHts {K : PySem.W.Frag} {P : Program} {w : World} {σ : L2.St} {H : Hp} {tr : TA} {D : Ends} {tz : TS} {i : Nat} {n : Nt} (h : EvDs K tr σ H [.list (n.things.map eT), .int n.room, .list (n.quarrels.map eQ)]) (m6 : n.things.length ≤ 6) (ok : n.ok = true)
    (k : ∀ df Lf kv H1, Ex H H1 → H df = none → H1 df = some (DnO P w df Lf) → Ents K H1 Lf (eKv kv) → LFin n kv → tz D (σ.set i (some (.ref df))) H1) : tSeq (tAsg (tCall (spLHts K P w) [] E0 tr) (gName i)) tz D σ H :=
  h H (Evl.Ex.refl H) _ fun vs H2 x2 h2 => by
    obtain ⟨v0, v1, v2, rfl, a0, a1, a2⟩ := dpa3 h2
    exact ⟨v0, v1, v2, n, rfl, a0, a1, a2, m6, ok, fun df Lf kv H' x f0 f1 f2 f3 => k df Lf kv H' (x2.trans x) (Evl.fresh_back x2 f0) f1 f2 f3⟩
section
variable {P : Program} {w : World} {K : PySem.W.Frag} {mg : Str → Option Value} {base : Heap}
def okL (kv : KvI) (x : St2 × Int × St2) : Prop := ∀ v, lk kv x.2.2 = some v → ∃ u, lk kv x.1 = some u ∧ u ≤ x.2.1 + v
def LFnd (K : PySem.W.Frag) (P : Program) (w : World) (n : Nt) (df : Addr) (H' : Hp) (kv : KvI) : Prop := (∃ Lf, H' df = some (DnO P w df Lf) ∧ Ents K H' Lf (eKv kv)) ∧ Bet n.edge endS kv ∧ KvL n kv ∧ lk kv endS = some 0
end

end Fy

namespace Fy
open PySem PySem.Spec PyProof.Rows L2
/-! ### what is come to, in plain Lean -/
inductive Reach (n : Nt) (s : St2) : St2 → Prop
  | here : Reach n s s
  | step {t u c} : Reach n s t → n.edge t c u → Reach n s u
theorem reach_in {n : Nt} (ok : n.ok = true) {s t : St2} (hs : s ∈ n.stands) (r : Reach n s t) : t ∈ n.stands := by
  induction r with
  | here => exact hs
  | step _ e _ => exact (edge_in ok e).2.2
structure Come (n : Nt) (s : St2) (F : List St2) : Prop where
  fst : s ∈ F
  all : ∀ t ∈ F, Reach n s t
  nd : F.Nodup
def closedTo (n : Nt) (F : List St2) (k : Nat) : Prop := ∀ i t, i < k → F[i]? = some t → ∀ x ∈ n.row t, x.2.2 ∈ F
theorem come_all {n : Nt} {s : St2} {F : List St2} (h : Come n s F) (c : closedTo n F F.length) (t : St2) : t ∈ F ↔ Reach n s t := ⟨h.all t, fun r => by
  induction r with
  | here => exact h.fst
  | step r e ih =>
    obtain ⟨x, hx, rfl, rfl⟩ := row_edge e
    obtain ⟨i, hi⟩ := List.mem_iff_getElem?.mp ih
    exact c i _ (lt_of_get hi) hi x hx⟩
def addS (F : List St2) (x : Int × List Int × St2) : List St2 := if x.2.2 ∈ F then F else F ++ [x.2.2]
def addAll (F : List St2) (r : List (Int × List Int × St2)) : List St2 := r.foldl addS F
theorem addAll_snoc {F : List St2} {r : List (Int × List Int × St2)} {i : Nat} {x : Int × List Int × St2} (h : r[i]? = some x) : addAll F (r.take (i + 1)) = addS (addAll F (r.take i)) x := by
  unfold addAll
  rw [take_snoc h, List.foldl_append]
  rfl
theorem addS_pre (F : List St2) (x : Int × List Int × St2) : ∃ G, addS F x = F ++ G := by
  unfold addS
  split
  · exact ⟨[], by rw [List.append_nil]⟩
  · exact ⟨_, rfl⟩
theorem addAll_pre : ∀ (r : List (Int × List Int × St2)) (F : List St2), ∃ G, addAll F r = F ++ G
  | [], F => ⟨[], by rw [List.append_nil]; rfl⟩
  | x :: r, F => by
    obtain ⟨G, h⟩ := addS_pre F x
    obtain ⟨G2, h2⟩ := addAll_pre r (addS F x)
    exact ⟨G ++ G2, by show addAll (addS F x) r = _; rw [h2, h, List.append_assoc]⟩
theorem addAll_mem : ∀ (r : List (Int × List Int × St2)) (F : List St2), ∀ x ∈ r, x.2.2 ∈ addAll F r
  | [], _ => fun x h => nomatch h
  | y :: r, F => fun x h => by
    rcases List.mem_cons.mp h with rfl | h
    · obtain ⟨G, e⟩ := addAll_pre r (addS F x)
      show x.2.2 ∈ addAll (addS F x) r
      rw [e]
      refine List.mem_append_left _ ?_
      unfold addS
      split
      · assumption
      · simp
    · exact addAll_mem r (addS F y) x h
theorem come_addS {n : Nt} {s t : St2} {F : List St2} (h : Come n s F) (ht : t ∈ F) (hts : t ∈ n.stands) {x : Int × List Int × St2} (hx : x ∈ n.row t) : Come n s (addS F x) := by
  unfold addS
  split
  · exact h
  · rename_i hn
    refine ⟨List.mem_append_left _ h.fst, fun u hu => ?_, List.nodup_append.mpr ⟨h.nd, by simp, fun a ha b hb e => ?_⟩⟩
    · rcases List.mem_append.mp hu with hu | hu
      · exact h.all u hu
      · rw [List.mem_singleton.mp hu]; exact .step (h.all t ht) (edge_row hts hx)
    · rw [List.mem_singleton.mp hb] at e
      rw [e] at ha
      exact hn ha
theorem come_addAll {n : Nt} {s t : St2} (hts : t ∈ n.stands) : ∀ (r : List (Int × List Int × St2)) (F : List St2), Come n s F → t ∈ F → (∀ x ∈ r, x ∈ n.row t) → Come n s (addAll F r)
  | [], _, h, _, _ => h
  | x :: r, F, h, ht, hr => by
    refine come_addAll hts r (addS F x) (come_addS h ht hts (hr x List.mem_cons_self)) ?_ fun y hy => hr y (List.mem_cons_of_mem _ hy)
    obtain ⟨G, e⟩ := addS_pre F x
    rw [e]
    exact List.mem_append_left _ ht
theorem closed_step {n : Nt} {F : List St2} {k : Nat} {t : St2} (h : closedTo n F k) (hk : F[k]? = some t) : closedTo n (addAll F (n.row t)) (k + 1) := by
  obtain ⟨G, e⟩ := addAll_pre (n.row t) F
  have hl := lt_of_get hk
  intro i u hi hu x hx
  rw [e, List.getElem?_append_left (by omega)] at hu
  by_cases c : i = k
  · subst c
    rw [hk] at hu
    cases hu
    exact addAll_mem _ _ x hx
  · rw [e]
    exact List.mem_append_left _ (h i u (by omega) hu x hx)
theorem nodup_le {α : Type} [DecidableEq α] {l m : List α} (hl : l.Nodup) (hm : m.Nodup) (h : ∀ x ∈ l, x ∈ m) : l.length ≤ m.length := by
  have p : (m.filter fun s => l.contains s).Perm l := (List.perm_ext_iff_of_nodup (hm.filter _) hl).mpr fun a => by
    rw [List.mem_filter]
    constructor
    · rintro ⟨_, h⟩; simpa using h
    · intro ha; exact ⟨h a ha, by simpa using ha⟩
  have h1 := p.length_eq
  have h2 := List.length_filter_le (fun s => l.contains s) m
  omega
theorem come_len {n : Nt} (ok : n.ok = true) {s : St2} (hs : s ∈ n.stands) {F : List St2} (h : Come n s F) : F.length ≤ n.stands.length :=
  nodup_le h.nd (stands_nodup n) fun t ht => reach_in ok hs (h.all t ht)
/-- the standings come to, in order -/
def comeL (n : Nt) (F : List St2) : List St2 := n.stands.filter fun t => decide (t ∈ F)
theorem comeL_eq {n : Nt} {s : St2} {F G : List St2} (h : ∀ t, t ∈ F ↔ Reach n s t) (g : ∀ t, t ∈ G ↔ Reach n s t) : comeL n F = comeL n G := by
  unfold comeL
  refine List.filter_congr fun t _ => ?_
  exact decide_eq_decide.mpr ((h t).trans (g t).symm)
/-- a crossing that goes on along the fewest -/
theorem next_ex {n : Nt} {kv : KvI} (f : Fin2 n kv) {s : St2} {h : Int} (hs : lk kv s = some h) (ne : s ≠ endS) : ∃ x ∈ n.row s, ∃ v, lk kv x.2.2 = some v ∧ h = x.1 + v := by
  obtain ⟨b, _, st, _⟩ := f
  have hz : lk kv endS = some 0 := by
    rcases b.fin with q | q
    · exact q
    · rw [q] at hs; cases hs
  have key : ∀ z, Way n.edge z s h → s ≠ z → lk kv z = some 0 → ∃ x ∈ n.row s, ∃ v, lk kv x.2.2 = some v ∧ h = x.1 + v := by
    intro z w ne hz
    cases w with
    | nil => exact absurd rfl ne
    | @cons _ t c v e w =>
      obtain ⟨u, hu, hle⟩ := still_le st hz w
      obtain ⟨u2, h1, h2⟩ := st _ _ _ e u hu
      rw [hs] at h1
      cases h1
      obtain ⟨x, hx, rfl, rfl⟩ := row_edge e
      exact ⟨x, hx, u, hu, by omega⟩
  exact key endS (b.way s h hs) ne hz
theorem row_item {n : Nt} {s : St2} {x : Int × List Int × St2} (h : x ∈ n.row s) : x.2.1 ∈ n.crews s ∧ x.1 = minutesOf n.things x.2.1 ∧ x.2.2 = ledOver s x.2.1 := by
  obtain ⟨c, hc, rfl⟩ := List.mem_map.mp h
  exact ⟨hc, rfl, rfl⟩

end Fy

namespace Fy
open PySem PySem.Spec PyProof.Rows L2
/-! ### loops over a list that stood ahead of the one changed; filtered keys -/
/-- a term whose value was a datum in H0 already -/
def EvV0 (K : PySem.W.Frag) (te : TE) (σ : L2.St) (H H0 : Hp) (d : PyData) : Prop := ∀ H1, Ex H H1 → ∀ Q : VK, (∀ v H2, Ex H1 H2 → Dp K H0 v d → Q v H2) → te σ H1 Q
section
variable {K : PySem.W.Frag} {P : Program} {w : World} {σ : L2.St} {H H0 : Hp} {tl tb te : TE} {tt : TT} {g : TG} {tu tz : TS} {D : Ends} {ds : List PyData} {l dc : Addr} {Lc : List DEnt} {kv : KvD} {t : St2} {d : PyData} {i j : Nat}
theorem ev0_ixN (hi : σ[i]? = some (some (.ref dc))) (h1 : H0 dc = some (DnO P w dc Lc)) (hE : Ents K H0 Lc kv) (x0 : Ex H0 H) (hk : EvD K tb σ H (eS t)) (hl : look kv t = some d) : EvV0 K (tOp (rIxN K P w) (tVar i) tb) σ H H0 d := fun H1 x Q q =>
  ⟨_, hi, hk H1 x _ fun u H2 x2 h2 => by
    obtain ⟨b, g, rfl, hb⟩ := dp_tup.mp h2
    rcases hE.at t with ⟨_, z⟩ | ⟨v', d', a1, a2, a3⟩
    · rw [hl] at z; cases z
    · rw [hl] at a2
      cases a2
      have xx := (x0.trans x).trans x2
      exact ⟨dc, b, Lc, t, v', rfl, rfl, .inl (xx _ _ h1), (hE.mono xx).keys, h2, a1, q _ H2 x2 a3⟩⟩
theorem w_layO1 (h : EvV0 K tl σ H H0 (.list ds)) (x0 : Ex H0 H) (l0 : H0 l = none) (acc : Nat → List PyData) (ha : ∀ i, noLs (acc i) = true) (l1 : ∃ ys, H l = some (.lst ys) ∧ DpAll K H ys (acc 0)) (Pv : Nat → L2.St → Prop) (p0 : Pv 0 σ)
    (hs : ∀ i d x σ' H' ys, ds[i]? = some d → Ex H0 H' → Dp K H' x d → Pv i σ' → H' l = some (.lst ys) → DpAll K H' ys (acc i) → g x σ' H' fun σ2 H2 => tu { D with nx := LayS K l H' (Pv (i + 1)) (acc (i + 1)), ct := LayS K l H' (Pv (i + 1)) (acc (i + 1)), bk := D.nx } σ2 H2)
    (hd : ∀ σ' H' ys, Ex H0 H' → Pv ds.length σ' → H' l = some (.lst ys) → DpAll K H' ys (acc ds.length) → D.nx σ' H') : tFor (iList K tl) g tu D σ H :=
  h H (Evl.Ex.refl H) _ fun v H1 x hv => by
    obtain ⟨p, xs, rfl, h1, h2⟩ := dp_lst.mp hv
    obtain ⟨ys0, l1, d1⟩ := l1
    have hl := dpa_len h2
    have x01 := x0.trans x
    refine ⟨p, rfl, ⟨xs, Evl.ex_l x01 h1⟩, fun i m σ' H' => m = xs.length - i ∧ i ≤ xs.length ∧ Ex H0 H' ∧ Pv i σ' ∧ ∃ ys, H' l = some (.lst ys) ∧ DpAll K H' ys (acc i), ⟨xs.length, by simp, Nat.zero_le _, x01, p0, ys0, x _ _ l1, dpa_mono x _ _ d1⟩, ?_⟩
    rintro i m σ' H' ⟨rfl, hi, e0, pv, ys, el, ea⟩
    have ep := Evl.ex_l e0 h1
    by_cases hlt : i < xs.length
    · refine .inr ⟨⟨xs, xs[i], ep, by simp [hlt]⟩, LayS K l H' (Pv (i + 1)) (acc (i + 1)), fun σ3 H3 p3 => ?_, fun y H2 yy => ?_⟩
      · obtain ⟨p1, p2, p3⟩ := p3
        exact ⟨xs.length - (i + 1), by omega, rfl, hlt, e0.but l0 p2, p1, p3⟩
      · obtain ⟨e2, yy⟩ := yy
        subst e2
        obtain ⟨d, hd', hdy⟩ := dpa_get h2 (yy xs ep)
        exact hs i d y σ' _ ys hd' e0 (dp_mono e0 _ _ hdy) pv el ea
    · have e2 : i = xs.length := by omega
      subst e2
      rw [hl] at pv ea
      exact .inl ⟨⟨xs, ep, Nat.le_refl _⟩, hd σ' H' ys e0 pv el ea⟩
/-- [f(s) for s in d if p(s)], d locked meanwhile -/
theorem en_keysF {α : Type} {xs : List α} (p : α → Bool) (f : α → PyData) (hf : ∀ x, noL (f x) = true) {vs : List Nat} (hi : σ[i]? = some (some (.ref dc))) (h1 : H dc = some (DnO P w dc Lc)) (hl : xs.length = Lc.length) (hz : xs.length ≤ 100000)
    (hw : ∀ x, wipe ((wipe σ vs).set j (some x)) vs = wipe σ vs)
    (ht : ∀ (k : Nat) (q : DEnt) (a : α) (H' : Hp) (od : Obj), Lc[k]? = some q → xs[k]? = some a → ExB dc H H' → H' dc = some (.frz od (DnO P w dc Lc)) → EvB K tt ((wipe σ vs).set j (some (.ref q.1))) H' (p a) ∧ EvD K te ((wipe σ vs).set j (some (.ref q.1))) H' (f a)) :
    EvN K (tLockE (tLc (iKeysN P w (tVar i)) (gName j) tt te vs)) σ H ((xs.filter p).map f) := fun H1 x Q q => by
  have hd1 := x _ _ h1
  refine ⟨dc, DnO P w dc Lc, hd1, True.intro, fun od => ?_⟩
  have eL : ExB dc H1 (upd H1 dc (.frz od (DnO P w dc Lc))) := ExB.upd (Evl.Ex.refl H1)
  refine ⟨_, hi, dc, od, Lc, rfl, upd_same, fun D hD => ?_⟩
  have hDd : D ≠ dc := fun e => by rw [e, upd_same] at hD; cases hD
  have hD1 : H1 D = none := by rw [upd_ne hDd] at hD; exact hD
  refine ⟨fun k m H' => m = Lc.length - k ∧ k ≤ Lc.length ∧ H' dc = some (.frz od (DnO P w dc Lc)) ∧ ExB dc H1 H' ∧ ∃ acc, H' D = some (.lst acc) ∧ DpAll K H' acc (((xs.take k).filter p).map f), ⟨Lc.length, by simp, Nat.zero_le _, ?_, ?_, [], upd_same, by rw [List.take_zero]; exact .nil⟩, ?_⟩
  · rw [upd_ne (Ne.symm hDd)]; exact upd_same
  · intro b u n hb
    have nb : b ≠ D := fun e => by rw [e, hD1] at hb; cases hb
    rw [upd_ne nb]
    exact eL b u n hb
  · rintro k m H' ⟨rfl, hk, hc, eB, acc, ha, hA⟩
    by_cases hlt : k < Lc.length
    · refine .inr ⟨⟨hc, hlt⟩, fun H3 => H3 dc = some (.frz od (DnO P w dc Lc)) ∧ ExB dc H1 H3 ∧ ∃ acc, H3 D = some (.lst acc) ∧ DpAll K H3 acc (((xs.take (k + 1)).filter p).map f), fun H3 h3 => ⟨Lc.length - (k + 1), by omega, rfl, hlt, h3⟩, fun y H2 yy => ?_⟩
      obtain ⟨rfl, p', hp, rfl⟩ := yy
      refine ⟨hw _, ?_⟩
      have hdk : xs[k]? = some xs[k] := List.getElem?_eq_getElem (by omega)
      obtain ⟨hT, hE⟩ := ht k p' _ H2 od hp hdk ((ExB.ex x).trans eB) hc
      refine hT H2 (Evl.Ex.refl H2) _ fun H3 x3 => ?_
      have al := dpa_len hA
      have fl := List.length_filter_le p (xs.take k)
      rw [List.length_map] at al
      rw [List.length_take] at fl
      have tk : (xs.take (k + 1)).filter p = (xs.take k).filter p ++ (if p xs[k] = true then [xs[k]] else []) := by
        rw [take_snoc hdk, List.filter_append, List.filter_cons]
        split <;> rfl
      cases hb : p xs[k] with
      | false =>
        rw [if_neg Bool.false_ne_true]
        refine ⟨x3 _ _ hc, fun b u n hb => x3 _ _ (eB b u n hb), acc, x3 _ _ ha, ?_⟩
        rw [tk, hb, if_neg Bool.false_ne_true, List.append_nil]
        exact dpa_mono x3 _ _ hA
      | true =>
        rw [if_pos rfl]
        refine hE H3 x3 _ fun v H4 x4 hv => ?_
        have x34 := x3.trans x4
        have ha4 := x34 _ _ ha
        have up : Up H4 (upd H4 D (.lst (acc ++ [v]))) := Up.lst ha4
        refine ⟨acc, ha4, Nat.lt_of_le_of_lt (show acc.length ≤ 100000 by omega) (by decide), ?_, ?_, acc ++ [v], upd_same, ?_⟩
        · rw [upd_ne (Ne.symm hDd)]; exact x34 _ _ hc
        · intro b u n hb
          have nb : b ≠ D := fun e => by rw [e, hD1] at hb; cases hb
          rw [upd_ne nb]
          exact x34 _ _ (eB b u n hb)
        · rw [tk, hb, if_pos rfl, List.map_append]
          exact dpa_snoc (dpa_up up _ _ (noLs_map hf _) (dpa_mono x34 _ _ hA)) (dp_up up _ _ (hf _) hv)
    · have e2 : k = Lc.length := by omega
      subst e2
      refine .inl ⟨⟨hc, Nat.le_refl _⟩, hc, q _ _ (exB_back eB hd1) ⟨D, acc, rfl, hD1, by rw [upd_ne hDd]; exact ha, ?_⟩⟩
      refine dpa_butg (ExB.upd (Evl.Ex.refl H')) (no_lst hc) (no_tup hc) _ _ ?_
      rw [← hl, List.take_length] at hA
      exact hA
end
def spCome (K : PySem.W.Frag) (P : Program) (w : World) : Sp := fun vs H Q _ => ∃ dc u n s Lc, vs = [.ref dc, u] ∧ H dc = some (DnO P w dc Lc) ∧ Ents K H Lc n.tab ∧ n.things.length ≤ 6 ∧ n.ok = true ∧ s ∈ n.stands ∧ Dp K H u (eS s) ∧
  ∀ v F H', Ex H H' → (∀ t, t ∈ F ↔ Reach n s t) → NewL K H v H' ((comeL n F).map eS) → Q v H'

end Fy

namespace Fy
open PySem PySem.Spec PyProof.Rows L2
section
variable {P : Program} {w : World} {K : PySem.W.Frag} {mg : Str → Option Value} {base : Heap}
theorem sc_come_to : FnScope ["crossings", "standing", "found", "here", "step", "one"] ["crossings", "standing"] (defScope s_come_to) := ⟨rfl, rfl, rfl, by decide +kernel, rfl, by decide +kernel, by decide +kernel⟩
theorem ok_come_to (T : Tx K mg) : Has P w K mg base CX0 2 "come_to" ["crossings", "standing"] (spCome K P w) := by
  obtain ⟨fd, F⟩ := T.f_come_to
  refine ⟨T.g_come_to, fd, F.ok sc_come_to (fun vs H Q E h => ?_) (fun cdv A outer s H vs Q E hr h => ⟨_, PSs.nox (pss_cons (ps_set (i := 2) sc_come_to.nd rfl (.inr rfl) (pe_lst (pa_cons (pv 1) pa_nil)))
      (pss_cons (ps_set (i := 3) sc_come_to.nd rfl (.inl rfl) pe_int)
      (pss_cons (ps_while PassesOwn.never (pt_cmpR op_lt (pv 3) (pe_callB (r := rLenQ K) call_len_seq (by rfl) T.b_len (by decide +kernel) (pa_cons (pv 2) pa_nil)) (nomark _)) (pss_cons (ps_for PassesOwn.never rfl (pi_list (pe_ix (r := rIxN K P w) (ix_dn hr.units) (pv 0) (pe_ix (r := rIxL K) ix_list (pv 2) (pv 3) (fun _ _ => rfl)) (fun _ _ => rfl))) (pg_name (i := 4) sc_come_to.nd rfl (.inl rfl)) (pss_one (ps_if (pt_cmpR (r := rNotInD K) (op_notInD (units65 hr)) (pe_ix (r := rIxT K) ix_tup (pv 4) pe_int (fun _ _ => rfl)) (pv 2) (by rfl)) (pss_one (ps_expr (pe_bm PySem.F.plainAttrs_list PySem.F.slot_list_append PySem.F.type_list_append mt_append (pv 2) (pa_cons (pe_ix (r := rIxT K) ix_tup (pv 4) pe_int (fun _ _ => rfl)) pa_nil)))) pss_nil)))
      (pss_one (ps_set (i := 3) sc_come_to.nd rfl (.inl rfl) (pe_op op_add (pv 3) pe_int)))))
      (pss_one (ps_ret (pe_lock (pe_lc (own := [("one", 5)]) (g := gName 5) (by rfl) sc_come_to.nd (pi_keysN (pv 0)) (blkOk_by (N := ["crossings", "standing", "found", "here", "step", "one"]) (sc := defScope s_come_to) (by decide +kernel)) (fun _ _ _ _ _ => pg_name (i := 5) sc_come_to.nd rfl (.inl rfl)) (fun _ _ _ _ _ => (pts_one (pt_cmpR (r := rInD K) (op_inD (units65 hr)) (pv 5) (pv 2) (by rfl)))) (fun _ _ _ _ _ => (pv 5))))))))), ?_⟩), F.bindsN fun _ _ _ _ _ _ us hl => match us, hl with | [_, _], _ => rfl, F.kp⟩
  · obtain ⟨dc, u, n, s, Lc, rfl, _⟩ := h
    rfl
  · obtain ⟨dc, u, n, s, Lc, rfl, hdc, hEc, m6, nok, hs, hu, k⟩ := h
    have sl := stands_len m6
    refine w_asgN (K := K) (ds := [eS s]) (en_lst (eds_cons (ed_var rfl hu) eds_nil) (show 1 ≤ 100000 by decide)) (fun v2 H1 x1 hL => ?_)
    obtain ⟨l, xs, rfl, l0, l1, l2⟩ := hL
    refine w_asg (K := K) (d := .int 0) ed_int (fun v3 H2 x2 h3 => ?_)
    cases dp_int.mp h3
    refine (?wh : tSeq (tWhile _ _) _ _ _ _)
    case wh =>
    refine ⟨fun m σ' H' => ∃ (F : List St2) (here : Nat) (a : Option V), σ' = [some (.ref dc), some u, some (.ref l), some (.int (here : Int)), a, none] ∧ Ex H H' ∧ (∃ ys, H' l = some (.lst ys) ∧ DpAll K H' ys (F.map eS)) ∧ Come n s F ∧ closedTo n F here ∧ here ≤ F.length ∧ m = n.stands.length - here,
      ⟨_, [s], 0, none, rfl, x1.trans x2, ⟨xs, x2 _ _ l1, dpa_mono x2 _ _ l2⟩, ⟨by simp, fun t ht => by rw [List.mem_singleton.mp ht]; exact .here, by simp⟩, by intro i t hi; exact absurd hi (Nat.not_lt_zero _), Nat.zero_le _, rfl⟩, ?_⟩
    rintro m σ' H3 ⟨F, here, a, rfl, x3, ⟨ys, hl, hD⟩, hC, hcl, hle, rfl⟩
    have Fl := come_len nok hs hC
    have hlD : Dp K H3 (.ref l) (.list (F.map eS)) := dp_lst.mpr ⟨l, ys, rfl, SqL.of hl, hD⟩
    refine (eb_d (K := K) (ed_op (d := .int (here : Int)) (e := .int ((F.map eS).length : Nat)) (ed_var rfl (.int _)) (ed_cb (eds_cons (ed_var rfl hlD) eds_nil) cd_lenL) (rd_I0 fun _ => .bl _)) : EvB K _ _ H3 (decide ((here : Int) < ((F.map eS).length : Nat)))) H3 (Evl.Ex.refl H3) _ fun H4 x4 => ?_
    have hl4 := x4 _ _ hl
    have hD4 := dpa_mono x4 _ _ hD
    have hlD4 := dp_mono x4 _ _ hlD
    have x04 := x3.trans x4
    by_cases hlt : here < F.length
    · have e1 : decide ((here : Int) < ((F.map eS).length : Nat)) = true := decide_eq_true (by rw [List.length_map]; omega)
      rw [e1, if_pos rfl]
      have ht : F[here]? = some F[here] := List.getElem?_eq_getElem hlt
      have htm := List.getElem_mem hlt
      generalize F[here] = t at ht htm
      have hts := reach_in nok hs (hC.all t htm)
      obtain ⟨sok, sgd⟩ := stands_ok t hts
      have aT : atI (F.map eS) (here : Int) = some (eS t) := atI_nat (by rw [List.getElem?_map, ht]; rfl)
      refine ⟨fun σ' H' => ∃ m', m' < n.stands.length - here ∧ ∃ (F : List St2) (here : Nat) (a : Option V), σ' = [some (.ref dc), some u, some (.ref l), some (.int (here : Int)), a, none] ∧ Ex H H' ∧ (∃ ys, H' l = some (.lst ys) ∧ DpAll K H' ys (F.map eS)) ∧ Come n s F ∧ closedTo n F here ∧ here ≤ F.length ∧ m' = n.stands.length - here, fun σ' H' h => h, ?_⟩
      show tSeq _ _ _ _ _
      have rw1 : EvV0 K (tOp (rIxN K P w) (tVar 0) (tOp (rIxL K) (tVar 2) (tVar 3))) [some (.ref dc), some u, some (.ref l), some (.int (here : Int)), a, none] H4 H (.list ((n.row t).map eStep)) := ev0_ixN rfl hdc hEc x04 (ed_op (ed_var rfl hlD4) (ed_var rfl (.int _)) (rd_ixL aT)) (look_tab n hts)
      refine w_layO1 (K := K) (l := l) rw1 x04 l0 (fun i => (addAll F ((n.row t).take i)).map eS) (fun i => noLs_map noL_eS _) ⟨ys, hl4, by rw [List.take_zero]; exact hD4⟩ (fun i σ => ∃ a, σ = [some (.ref dc), some u, some (.ref l), some (.int (here : Int)), a, none]) ⟨a, rfl⟩ ?_ ?_
      · rintro i d x σ' H5 ys5 hd x5 hx ⟨a, rfl⟩ hl5 hD5
        obtain ⟨st, hst, rfl⟩ := get_map hd
        have hx' : Dp K H5 x (.tuple [.int st.1, eI st.2.1, eS st.2.2]) := hx
        have hlD5 : Dp K H5 (.ref l) (.list ((addAll F ((n.row t).take i)).map eS)) := dp_lst.mpr ⟨l, ys5, rfl, SqL.of hl5, hD5⟩
        have kE : ∀ H', Ex H5 H' → EvD K (tOp (rIxT K) (tVar 4) (tC (.int 2))) [some (.ref dc), some u, some (.ref l), some (.int (here : Int)), some x, none] H' (eS st.2.2) := fun H' e => ed_op (ed_var rfl (dp_mono e _ _ hx')) (ed_int (i := 2)) (rd_ixT (by rfl))
        have C5 := come_addAll hts ((n.row t).take i) F hC htm fun y hy => List.mem_of_mem_take hy
        have Fl5 := come_len nok hs C5
        have sn : addAll F ((n.row t).take (i + 1)) = addS (addAll F ((n.row t).take i)) st := addAll_snoc hst
        show tIfS _ _ _ _ _ _
        refine w_when1 K (b := !decide (st.2.2 ∈ addAll F ((n.row t).take i))) (eb_d (EvD.cast (ed_op (kE H5 (Evl.Ex.refl H5)) (ed_var rfl hlD5) (rd_niDL (sh_eS _) (sh_eSs _))) (by rw [any_eS]))) (fun hb H6 x6 => ?_) (fun hb H6 x6 => ?_)
        · have hn : st.2.2 ∉ addAll F ((n.row t).take i) := by simpa using hb
          refine w_lay (d := eS st.2.2) (acc := (addAll F ((n.row t).take i)).map eS) rfl (kE H6 x6) (ExB.ex x6) (x6 _ _ hl5) (dpa_mono x6 _ _ hD5) (noLs_map noL_eS _) (noL_eS _) (by rw [List.length_map]; omega) ?_ ⟨_, rfl⟩ (fun σ3 H3 h3 => h3)
          rw [sn]
          unfold addS
          rw [if_neg hn, List.map_append]
          rfl
        · have hn : st.2.2 ∈ addAll F ((n.row t).take i) := by simpa using hb
          refine ⟨⟨_, rfl⟩, ExB.ex x6, ys5, x6 _ _ hl5, ?_⟩
          show DpAll K H6 ys5 ((addAll F ((n.row t).take (i + 1))).map eS)
          rw [sn]
          unfold addS
          rw [if_pos hn]
          exact dpa_mono x6 _ _ hD5
      · rintro σ' H5 ys5 x5 ⟨a, rfl⟩ hl5 hD5
        rw [List.length_map, List.take_length] at hD5
        obtain ⟨G, eG⟩ := addAll_pre (n.row t) F
        refine w_asg1 (K := K) (d := .int ((here : Int) + 1)) (ed_op (d := .int (here : Int)) (e := .int 1) (ed_var rfl (.int _)) ed_int (rd_I0 fun _ => .int _)) (fun v6 H6 x6 h6 => ?_)
        cases dp_int.mp h6
        exact ⟨_, by omega, addAll F (n.row t), here + 1, a, rfl, x5.trans x6, ⟨ys5, x6 _ _ hl5, dpa_mono x6 _ _ hD5⟩, come_addAll hts _ F hC htm (fun y hy => hy), closed_step hcl ht, by rw [eG, List.length_append]; omega, rfl⟩
    · have e1 : decide ((here : Int) < ((F.map eS).length : Nat)) = false := decide_eq_false (by rw [List.length_map]; omega)
      rw [e1, if_neg Bool.false_ne_true]
      have eh : here = F.length := by omega
      subst eh
      have nlc : l ≠ dc := (ne_of_none hdc l0).symm
      have tl : n.tab.length = n.stands.length := by unfold Nt.tab; rw [List.length_map]
      have rr : EvN K _ _ H4 ((n.stands.filter fun t => decide (t ∈ F)).map eS) := en_keysF (K := K) (P := P) (w := w) (σ := [some (.ref dc), some u, some (.ref l), some (.int (F.length : Int)), a, none]) (tt := tTest (tOp (rInD K) (tVar 5) (tVar 2))) (te := tVar 5) (vs := [5]) (i := 0) (j := 5) (Lc := Lc) (xs := n.stands) (fun t => decide (t ∈ F)) eS noL_eS rfl (x04 _ _ hdc) (by rw [hEc.len, tl]) (by omega) (fun _ => rfl) (fun j p t H' od hp ht eB hc => by
        have hd4 := x04 _ _ hdc
        have E6 := (hEc.mono x04).butx eB hd4
        obtain ⟨q, hq, hent⟩ := E6.get hp
        have hq2 : q = (t, .list ((n.row t).map eStep)) := by
          unfold Nt.tab at hq
          rw [List.getElem?_map, ht] at hq
          exact (Option.some.inj hq).symm
        subst hq2
        have key6 : Dp K H' (.ref p.1) (eS t) := hent.2.1
        have hlD' : Dp K H' (.ref l) (.list (F.map eS)) := dp_butx eB hd4 _ _ hlD4
        exact ⟨eb_d (EvD.cast (ed_op (ed_var rfl key6) (ed_var rfl hlD') (rd_inDL (sh_eS _) (sh_eSs _))) (by rw [any_eS])), ed_var rfl key6⟩)
      exact w_retN1 rr fun v H5 x5 h5 => k v F H5 (x04.trans x5) (come_all hC hcl) (h5.back x04)
end

end Fy

namespace Fy
open PySem PySem.Spec PyProof.Rows L2
/-! ### the shortest plan: what is told -/
def ShortRes (K : PySem.W.Frag) (n : Nt) (s : St2) (H0 : Hp) (v : V) (H : Hp) : Prop := ∃ kv a p, Fin2 n kv ∧ v = .ref a ∧
  ((∃ h plan, lk kv s = some h ∧ SqT K H a [.str "plan", p] ∧ NewL K H0 p H (plan.map eI) ∧ n.tk s 0 plan = some h ∧ plan.length ≤ 1000) ∨
   (∃ F, lk kv s = none ∧ SqT K H a [.str "shut", p] ∧ (∀ t, t ∈ F ↔ Reach n s t) ∧ NewL K H0 p H ((comeL n F).map eS)))
def spShort (K : PySem.W.Frag) : Sp := fun vs H Q E => ∃ v n u s, vs = [v, u] ∧ NightAt K H v n ∧ Dp K H u (eS s) ∧ n.things.length ≤ 6 ∧ n.ok = true ∧
  (standOk n.things.length s = true → n.good s = true → RetR (fun v H' => ShortRes K n s H v H') H Q) ∧
  (standOk n.things.length s = false → ∀ H', Ex H H' → E (.ref (He.ga K "NoStanding")) none H') ∧ (standOk n.things.length s = true → n.good s = false → ∀ H', Ex H H' → E (.ref (He.ga K "BadStart")) none H')
theorem ShortRes.back {K : PySem.W.Frag} {n : Nt} {s : St2} {H0 H1 H : Hp} {v : V} (e : Ex H0 H1) (h : ShortRes K n s H1 v H) : ShortRes K n s H0 v H := by
  obtain ⟨kv, a, p, f, ev, h⟩ := h
  refine ⟨kv, a, p, f, ev, ?_⟩
  rcases h with ⟨x, plan, h1, h2, h3, h4⟩ | ⟨F, h1, h2, h3, h4⟩
  · exact .inl ⟨x, plan, h1, h2, h3.back e, h4⟩
  · exact .inr ⟨F, h1, h2, h3, h4.back e⟩
/-- l.append(e) -/
theorem w_appL {K : PySem.W.Frag} {σ : L2.St} {H : Hp} {te : TE} {D : Ends} {tz : TS} {d : PyData} {l : Addr} {i : Nat} {ys : List V} {acc : List PyData} (hi : σ[i]? = some (some (.ref l))) (he : EvD K te σ H d) (hx : H l = some (.lst ys)) (hd : DpAll K H ys acc) (ha : noLs acc = true) (hn : noL d = true) (hl : acc.length < 100000)
    (k : ∀ H1 H2 ys', Ex H H1 → H2 = upd H1 l (.lst ys') → H1 l = some (.lst ys) → DpAll K H2 ys' (acc ++ [d]) → tz D σ H2) : tSeq (tDrop (tBM K "list" rAppend (tVar i) (tCons te tNil))) tz D σ H :=
  ⟨_, hi, .inl ⟨rfl, _, SqL.of hx⟩, he H (Evl.Ex.refl H) _ fun v H1 x hv => ⟨l, ys, v, rfl, rfl, x _ _ hx, Evl.sz_lt (by rw [dpa_len hd]; exact hl), by
    have u : Up H1 (upd H1 l (.lst (ys ++ [v]))) := Up.lst (x _ _ hx)
    exact k H1 _ (ys ++ [v]) x rfl (x _ _ hx) (dpa_snoc (dpa_up u _ _ ha (dpa_mono x _ _ hd)) (dp_up u _ _ hn hv))⟩⟩
/-- how long a plan may be: all heights below 2 ^ 62; a plan's steps are told by the walk's own measure -/
theorem tk_snoc {n : Nt} {s s' : St2} {acc : Int} {plan : List (List Int)} {c : List Int} (h : ∀ rest, n.tk s 0 (plan ++ rest) = n.tk s' acc rest) (hc : c ∈ n.crews s') : ∀ rest, n.tk s 0 ((plan ++ [c]) ++ rest) = n.tk (ledOver s' c) (acc + minutesOf n.things c) rest := fun rest => by
  rw [List.append_assoc, h]
  show (if c ∈ n.crews s' then _ else _) = _
  rw [if_pos hc]
  rfl
structure PlanTo (n : Nt) (kv : KvI) (s : St2) (h : Int) (s' : St2) (h' : Int) (plan : List (List Int)) : Prop where
  cur : lk kv s' = some h'
  ins : s' ∈ n.stands
  tk : ∀ rest, n.tk s 0 (plan ++ rest) = n.tk s' (h - h') rest
  few : ∃ V : List St2, V.Nodup ∧ (∀ t ∈ V, t ∈ n.stands ∧ ∃ x, lk kv t = some x ∧ h' < x) ∧ V.length = plan.length
theorem PlanTo.len {n : Nt} {kv : KvI} {s s' : St2} {h h' : Int} {plan : List (List Int)} (p : PlanTo n kv s h s' h' plan) : plan.length ≤ n.stands.length := by
  obtain ⟨V, h1, h2, h3⟩ := p.few
  rw [← h3]
  exact nodup_le h1 (stands_nodup n) fun t ht => (h2 t ht).1
theorem PlanTo.next {n : Nt} {kv : KvI} {s s' : St2} {h h' v : Int} {plan : List (List Int)} {x : Int × List Int × St2} (ok : n.ok = true) (p : PlanTo n kv s h s' h' plan) (hx : x ∈ n.row s') (hv : lk kv x.2.2 = some v) (e : h' = x.1 + v) : PlanTo n kv s h x.2.2 v (plan ++ [x.2.1]) := by
  obtain ⟨c1, c2, c3⟩ := edge_in ok (edge_row p.ins hx)
  obtain ⟨i1, i2, i3⟩ := row_item hx
  refine ⟨hv, c3, fun rest => ?_, ?_⟩
  · rw [tk_snoc p.tk i1, ← i2, ← i3, show h - h' + x.1 = h - v by omega]
  · obtain ⟨V, h1, h2, h3⟩ := p.few
    refine ⟨V ++ [s'], List.nodup_append.mpr ⟨h1, by simp, fun a ha b hb e2 => ?_⟩, fun t ht => ?_, by rw [List.length_append, List.length_append, h3]; rfl⟩
    · rw [List.mem_singleton.mp hb] at e2
      rw [e2] at ha
      obtain ⟨_, y, hy, hl⟩ := h2 s' ha
      rw [p.cur] at hy
      cases hy
      omega
    · rcases List.mem_append.mp ht with ht | ht
      · obtain ⟨a, y, hy, hl⟩ := h2 t ht
        exact ⟨a, y, hy, by omega⟩
      · rw [List.mem_singleton.mp ht]
        exact ⟨p.ins, h', p.cur, by omega⟩
def fitB (kv : KvI) (h' : Int) (x : Int × List Int × St2) : Bool := (look (eKv kv) x.2.2).isSome && decide (h' = x.1 + (lk kv x.2.2).getD 0)
theorem fitB_iff {kv : KvI} {h' : Int} {x : Int × List Int × St2} : fitB kv h' x = true ↔ ∃ v, lk kv x.2.2 = some v ∧ h' = x.1 + v := by
  unfold fitB
  rw [look_eKv, Option.isSome_map, Bool.and_eq_true, decide_eq_true_eq]
  constructor
  · rintro ⟨a, b⟩
    obtain ⟨v, hv⟩ := Option.isSome_iff_exists.mp a
    rw [hv] at b
    exact ⟨v, hv, b⟩
  · rintro ⟨v, hv, e⟩
    rw [hv]
    exact ⟨rfl, e⟩
section
variable {K : PySem.W.Frag} {P : Program} {w : World} {σ : L2.St} {H : Hp} {D : Ends} {tz : TS} {i j l : Nat} {n : Nt} {v : V}
theorem w_asgTab (hj : σ[j]? = some (some v)) (N : NightAt K H v n) (m6 : n.things.length ≤ 6) (ok : n.ok = true)
    (k : ∀ dc Lc H1, Ex H H1 → H dc = none → H1 dc = some (DnO P w dc Lc) → Ents K H1 Lc n.tab → tz D (σ.set i (some (.ref dc))) H1) : tSeq (tAsg (tCall (spTable K P w) [] E0 (tCons (tVar j) tNil)) (gName i)) tz D σ H :=
  ⟨v, hj, v, n, rfl, N, m6, ok, fun u H1 x ⟨dc, Lc, e, a, b, c⟩ => by subst e; exact k dc Lc H1 x a b c⟩
theorem w_asgAllH {dc : Addr} {Lc : List DEnt} (hj : σ[j]? = some (some v)) (hl : σ[l]? = some (some (.ref dc))) (N : NightAt K H v n) (m6 : n.things.length ≤ 6) (ok : n.ok = true) (hdc : H dc = some (DnO P w dc Lc)) (hE : Ents K H Lc n.tab)
    (k : ∀ df Lf kv H1, Ex H H1 → H df = none → H1 df = some (DnO P w df Lf) → Ents K H1 Lf (eKv kv) → Fin2 n kv → tz D (σ.set i (some (.ref df))) H1) : tSeq (tAsg (tCall (spAllH K P w) [] E0 (tCons (tVar j) (tCons (tVar l) tNil))) (gName i)) tz D σ H :=
  ⟨v, hj, .ref dc, hl, v, n, dc, Lc, rfl, N, m6, ok, hdc, hE, fun df Lf kv H1 x f0 f1 f2 f3 f4 f5 f6 => k df Lf kv H1 x f0 f1 f2 ⟨f3, f4, f5, f6⟩⟩
end

end Fy

namespace Fy
open PySem PySem.Spec PyProof.Rows L2
section
variable {P : Program} {w : World} {K : PySem.W.Frag} {mg : Str → Option Value} {base : Heap}
theorem sc_shortest : FnScope ["night", "standing", "crossings", "known", "plan", "step"] ["night", "standing"] (defScope s_shortest) := ⟨rfl, rfl, rfl, by decide +kernel, rfl, by decide +kernel, by decide +kernel⟩
theorem ok_shortest (T : Tx K mg) : Has P w K mg base (L2N.CX P w) 7 "shortest" ["night", "standing"] (spShort K) := by
  obtain ⟨fd, F⟩ := T.f_shortest
  have G_come_to := ok_come_to (P := P) (w := w) (base := base) T
  have G_all_heights := ok_all_heights (P := P) (w := w) (base := base) T
  have G_table := ok_table (P := P) (w := w) (base := base) T
  have G_look_at_start := ok_look_at_start (P := P) (w := w) (base := base) T
  have N_ends := ok_Night_ends (P := P) (w := w) (base := base) T
  refine ⟨T.g_shortest, fd, F.ok sc_shortest (fun vs H Q E h => ?_) (fun cdv A outer s H vs Q E hr h => ⟨_, (pss_cons (ps_expr (pe_fxN G_look_at_start (hr.mono (by decide)) rfl (L2N.takes_of rfl rfl rfl rfl) (pa_cons (pv 0) (pa_cons (pv 1) pa_nil))))
      (pss_cons (ps_set (i := 2) sc_shortest.nd rfl (.inl rfl) (pe_f G_table (hr.mono (by decide)) rfl (pa_cons (pv 0) pa_nil)))
      (pss_cons (ps_set (i := 3) sc_shortest.nd rfl (.inl rfl) (pe_f G_all_heights (hr.mono (by decide)) rfl (pa_cons (pv 0) (pa_cons (pv 2) pa_nil))))
      (pss_cons (ps_if (pt_cmpR (r := rInN K P w true) (op_notInN hr.units) (pv 1) (pv 3) (by rfl)) (pss_one (ps_ret (pe_tup (pa_cons pe_str (pa_cons (pe_f G_come_to (hr.mono (by decide)) rfl (pa_cons (pv 2) (pa_cons (pv 1) pa_nil))) pa_nil))))) pss_nil)
      (pss_cons (ps_set (i := 4) sc_shortest.nd rfl (.inl rfl) (pe_lst pa_nil))
      (pss_cons (ps_while (passes_of rfl) (pt_cmpR (r := rNeD K) (op_neD hr.units) (pv 1) (pe_nm0 (C := He.ga K "Night") (pv 0) N_ends (hr.mono (by decide)) pass0) (nomark _)) (pss_one (ps_for (passes_of rfl) rfl (pi_list (pe_ix (r := rIxN K P w) (ix_dn hr.units) (pv 2) (pv 1) (fun _ _ => rfl))) (pg_name (i := 5) sc_shortest.nd rfl (.inl rfl)) (pss_one (ps_if (PW.pt (pw_and (pt_cmpR (r := rInN K P w false) (op_inN hr.units) (pe_ix (r := rIxT K) ix_tup (pv 5) pe_int (fun _ _ => rfl)) (pv 3) (by rfl)) (pw_and1 (pt_cmpR op_eq (pe_ix (r := rIxN K P w) (ix_dn hr.units) (pv 3) (pv 1) (fun _ _ => rfl)) (pe_op op_add (pe_ix (r := rIxT K) ix_tup (pv 5) pe_int (fun _ _ => rfl)) (pe_ix (r := rIxN K P w) (ix_dn hr.units) (pv 3) (pe_ix (r := rIxT K) ix_tup (pv 5) pe_int (fun _ _ => rfl)) (fun _ _ => rfl))) (nomark _))))) (pss_cons (ps_expr (pe_bm PySem.F.plainAttrs_list PySem.F.slot_list_append PySem.F.type_list_append mt_append (pv 4) (pa_cons (pe_ix (r := rIxT K) ix_tup (pv 5) pe_int (fun _ _ => rfl)) pa_nil)))
      (pss_cons (ps_set (i := 1) sc_shortest.nd rfl (.inl rfl) (pe_ix (r := rIxT K) ix_tup (pv 5) pe_int (fun _ _ => rfl)))
      (pss_one ps_break))) pss_nil)))))
      (pss_one (ps_ret (pe_tup (pa_cons pe_str (pa_cons (pv 4) pa_nil))))))))))), ?_⟩), F.bindsN fun _ _ _ _ _ _ us hl => match us, hl with | [_, _], _ => rfl, F.kp⟩
  · obtain ⟨v, n, u, s, rfl, _⟩ := h
    rfl
  · obtain ⟨v, n, u, s, rfl, N, hu, m6, nok, kq, ke, kb⟩ := h
    have hf : few n := Nat.le_trans m6 (by decide)
    refine w_callSv rfl rfl ⟨v, n, u, s, rfl, N, hu, hf, fun ok gd H1 x1 => ?_, ke, kb⟩
    have go := kq ok gd
    have hs := stands_mem ok gd
    have sl := stands_len m6
    have N1 := N.mono x1
    refine w_asgTab (K := K) (P := P) (w := w) rfl N1 m6 nok (fun dc Lc H2 x2 d0 hL hE => ?_)
    have N2 := N1.mono x2
    refine w_asgAllH (K := K) (P := P) (w := w) rfl rfl N2 m6 nok hL hE (fun df Lf kv H3 x3 f0 f1 f2 fin => ?_)
    have x13 := x2.trans x3
    have x03 := x1.trans x13
    have hL3 := x3 _ _ hL
    have hE3 := hE.mono x3
    have N3 := N2.mono x3
    have hu3 := dp_mono x03 _ _ hu
    have dF : ∀ H', Ex H3 H' → DnD K P w H' (.ref df) (eKv kv) := fun H' e => ⟨df, Lf, rfl, .inl (e _ _ f1), f2.mono e⟩
    refine w_when K (b := !(look (eKv kv) s).isSome) (eb_d (ed_notInN (ed_var rfl hu3) rfl (dF H3 (Evl.Ex.refl H3)))) (fun hb H4 x4 => ?_) (fun hb H4 x4 => ?_)
    · have hnone : lk kv s = none := by
        rw [look_eKv, Option.isSome_map] at hb
        cases e : lk kv s with
        | none => rfl
        | some y => rw [e] at hb; cases hb
      refine ⟨.ref dc, rfl, u, rfl, dc, u, n, s, Lc, rfl, x4 _ _ hL3, hE3.mono x4, m6, nok, hs, dp_mono x4 _ _ hu3, fun p F H5 x5 hF hN => ?_⟩
      refine ⟨by show 2 ≤ sizeLine; decide, fun a ha => ?_⟩
      have x6 := Evl.Ex.new (o := HO.tup [.str "shut", p]) ha
      exact go _ _ (((x03.trans x4).trans x5).trans x6) ⟨kv, a, p, fin, rfl, .inr ⟨F, hnone, SqT.of upd_same, hF, (hN.back (x03.trans x4)).mono x6⟩⟩
    · obtain ⟨h, hh⟩ : ∃ h, lk kv s = some h := by
        rw [look_eKv, Option.isSome_map] at hb
        cases e : lk kv s with
        | none => rw [e] at hb; cases hb
        | some y => exact ⟨y, rfl⟩
      refine w_asgN (K := K) (ds := []) (en_lst eds_nil (by decide)) (fun v5 H5 x5 hR => ?_)
      obtain ⟨l, xs, rfl, l0, l1, l2⟩ := hR
      refine (?wh : tSeq (tWhile _ _) _ _ _ _)
      case wh =>
      refine ⟨fun m σ' H' => ∃ (s' : St2) (h' : Int) (plan : List (List Int)) (u' : V) (y : Option V), σ' = [some v, some u', some (.ref dc), some (.ref df), some (.ref l), y] ∧ Ex H4 H' ∧ (∃ ys, H' l = some (.lst ys) ∧ DpAll K H' ys (plan.map eI)) ∧ Dp K H' u' (eS s') ∧ PlanTo n kv s h s' h' plan ∧ m = h'.toNat,
        ⟨_, s, h, [], u, none, rfl, x5, ⟨xs, l1, l2⟩, dp_mono (x4.trans x5) _ _ hu3, ⟨hh, hs, fun rest => by rw [Int.sub_self]; rfl, [], by simp, nofun, rfl⟩, rfl⟩, ?_⟩
      rintro m σ' H6 ⟨s', h', plan, u', y, rfl, x6, ⟨ys, hl, hD⟩, hu', hP, rfl⟩
      have x36 := x4.trans x6
      refine (eb_d (K := K) (EvD.cast (ed_op (d := eS s') (e := eS ([], 1)) (ed_var rfl hu') (ed_ends rfl (N3.mono x36)) (rd_neD (sh_eS _) (sh_eS _))) (by rw [eqv_eS])) : EvB K _ _ H6 (!decide (s' = ([], 1)))) H6 (Evl.Ex.refl H6) _ fun H7 x7 => ?_
      have x37 := x36.trans x7
      have x67 := x6.trans x7
      have hl7 := x7 _ _ hl
      have hD7 := dpa_mono x7 _ _ hD
      have hu7 := dp_mono x7 _ _ hu'
      by_cases he : s' = ([], 1)
      · rw [decide_eq_true he]
        refine (?wz : if false = true then _ else _)
        case wz =>
        rw [if_neg Bool.false_ne_true]
        refine ⟨_, rfl, by show 2 ≤ sizeLine; decide, fun a ha => ?_⟩
        have x8 := Evl.Ex.new (o := HO.tup [.str "plan", .ref l]) ha
        have e0 : h' = 0 := by
          have hz : lk kv endS = some 0 := fin.2.2.2 (show endS ∈ n.stands from (show s' = endS from he) ▸ hP.ins)
          have c := hP.cur
          rw [he] at c
          rw [show lk kv ([], 1) = some 0 from hz] at c
          cases c
          rfl
        have tk := hP.tk []
        rw [List.append_nil, he, e0, Int.sub_zero] at tk
        exact go _ _ ((x03.trans x37).trans x8) ⟨kv, a, .ref l, fin, rfl, .inl ⟨h, plan, hh, SqT.of upd_same, ⟨l, ys, rfl, Evl.fresh_back (x03.trans x4) l0, x8 _ _ hl7, dpa_mono x8 _ _ hD7⟩, by rw [tk]; rfl, by have := hP.len; omega⟩⟩
      · rw [decide_eq_false he]
        refine (?wz : if true = true then _ else _)
        case wz =>
        rw [if_pos rfl]
        obtain ⟨sok, sgd⟩ := stands_ok s' hP.ins
        refine ⟨fun σ' H' => ∃ m', m' < h'.toNat ∧ ∃ (s' : St2) (h' : Int) (plan : List (List Int)) (u' : V) (y : Option V), σ' = [some v, some u', some (.ref dc), some (.ref df), some (.ref l), y] ∧ Ex H4 H' ∧ (∃ ys, H' l = some (.lst ys) ∧ DpAll K H' ys (plan.map eI)) ∧ Dp K H' u' (eS s') ∧ PlanTo n kv s h s' h' plan ∧ m' = h'.toNat, fun σ' H' h => h, ?_⟩
        show tFor _ _ _ _ _ _
        refine w_forLx1 (K := K) (ds := (n.row s').map eStep) (ed_ixN rfl ⟨dc, Lc, rfl, .inl (x37 _ _ hL3), hE3.mono x37⟩ (ed_var rfl hu7) (look_tab n hP.ins)) (fun i σ' H' => ∃ y, σ' = [some v, some u', some (.ref dc), some (.ref df), some (.ref l), y] ∧ ∀ x ∈ (n.row s').take i, fitB kv h' x = false) (fun H8 x8 => ⟨y, rfl, fun x hx => by rw [List.take_zero] at hx; cases hx⟩) ?_ ?_
        · rintro i d x σ' H8 hd x8 hx ⟨y, rfl, hno⟩
          obtain ⟨st, hst, rfl⟩ := get_map hd
          have stm := List.mem_of_getElem? hst
          have hx' : Dp K H8 x (.tuple [.int st.1, eI st.2.1, eS st.2.2]) := hx
          have x38 := x37.trans x8
          have hu8 := dp_mono x8 _ _ hu7
          have kE : ∀ H', Ex H8 H' → EvD K (tOp (rIxT K) (tVar 5) (tC (.int 2))) [some v, some u', some (.ref dc), some (.ref df), some (.ref l), some x] H' (eS st.2.2) := fun H' e => ed_op (ed_var rfl (dp_mono e _ _ hx')) (ed_int (i := 2)) (rd_ixT (by rfl))
          have r8 := Evl.Ex.refl H8
          show tIfS _ _ _ _ _ _
          refine w_when1 K (b := fitB kv h' st) (eb_and (b := (look (eKv kv) st.2.2).isSome) (eb_d (ed_inN (kE H8 r8) rfl (dF H8 x38))) (fun hq => eb_d (ed_op (d := .int h') (e := .int (st.1 + (lk kv st.2.2).getD 0)) (ed_ixN rfl (dF H8 x38) (ed_var rfl hu8) (by rw [look_eKv, hP.cur]; rfl)) (ed_op (d := .int st.1) (e := .int ((lk kv st.2.2).getD 0)) (ed_op (ed_var rfl hx') (ed_int (i := 0)) (rd_ixT (by rfl))) (ed_ixN rfl (dF H8 x38) (kE H8 r8) ?lq) (rd_I0 fun _ => .int _)) rd_eqI))) (fun hb H9 x9 => ?_) (fun hb H9 x9 => ?_)
          case lq =>
            rw [look_eKv, Option.isSome_map] at hq
            obtain ⟨z, hz⟩ := Option.isSome_iff_exists.mp hq
            rw [look_eKv, hz]
            rfl
          · obtain ⟨z, hz, hez⟩ := fitB_iff.mp hb
            have pl := hP.len
            have x79 := x8.trans x9
            refine w_appL (K := K) (l := l) (d := eI st.2.1) (acc := plan.map eI) rfl (ed_op (ed_var rfl (dp_mono x9 _ _ hx')) (ed_int (i := 1)) (rd_ixT (by rfl))) (x79 _ _ hl7) (dpa_mono x79 _ _ hD7) (noLs_map noL_eI _) (noL_eI _) (by rw [List.length_map]; omega) (fun H10 H11 ys' x10 e11 hl10 hD11 => ?_)
            have u11 : Up H10 H11 := by rw [e11]; exact Up.lst hl10
            have hx11 := dp_up u11 _ _ (noL_eStep st) (dp_mono (x9.trans x10) _ _ hx)
            have hx11' : Dp K H11 x (.tuple [.int st.1, eI st.2.1, eS st.2.2]) := hx11
            have x411 : Ex H4 H11 := by rw [e11]; exact ((x67.trans x79).trans x10).mut l0
            have hl11 : H11 l = some (.lst ys') := by rw [e11]; exact upd_same
            refine w_asg (K := K) (d := eS st.2.2) (ed_op (ed_var rfl hx11') (ed_int (i := 2)) (rd_ixT (by rfl))) (fun v12 H12 x12 h12 => ?_)
            have c1 := (edge_in nok (edge_row hP.ins stm)).1
            have z0 := fin.1.nn _ _ hz
            have hD12 := dpa_mono x12 _ _ hD11
            rw [show plan.map eI ++ [eI st.2.1] = (plan ++ [st.2.1]).map eI by rw [List.map_append]; rfl] at hD12
            exact ⟨z.toNat, by omega, st.2.2, z, plan ++ [st.2.1], v12, some x, rfl, x411.trans x12, ⟨ys', x12 _ _ hl11, hD12⟩, h12, hP.next nok stm hz hez, rfl⟩
          · refine ⟨x9, _, rfl, fun z hz => ?_⟩
            rw [take_snoc hst] at hz
            rcases List.mem_append.mp hz with hz | hz
            · exact hno z hz
            · rw [List.mem_singleton.mp hz]; exact hb
        · rintro σ' H8 x8 ⟨y, rfl, hno⟩
          rw [List.length_map, List.take_length] at hno
          obtain ⟨x, hx, z, hz, hez⟩ := next_ex fin hP.cur he
          have := hno x hx
          rw [fitB_iff.mpr ⟨z, hz, hez⟩] at this
          cases this
end

end Fy

namespace Fy
open PySem PySem.Spec PyProof.Rows L2
/-! ### nights written: the law -/
def spLaw (K : PySem.W.Frag) : Sp := fun vs H Q _ => ∃ (a : Addr) (ns : List Int), vs = [.ref a] ∧ SqL K H a (ns.map V.int) ∧ ns.length ≤ 63 ∧ ∀ H', Q (.bl true) H'
theorem fin2_eq {n : Nt} {kv kv' : KvI} (h : Fin2 n kv) (h' : Fin2 n kv') : ∀ s ∈ n.stands, lk kv s = lk kv' s := fun s hs => by
  by_cases e : endS ∈ n.stands
  · exact still_uniq h.1 h'.1 h.2.2.1 h'.2.2.1 (h.2.2.2 e) (h'.2.2.2 e) s
  · have z : ∀ kv, Fin2 n kv → kv = [] := fun kv h => by
      rcases h.1.fin with f | f
      · have m := lk_mem.mp (show (lk kv endS).isSome = true by rw [f]; rfl)
        obtain ⟨q, hq, eq⟩ := List.mem_map.mp m
        exact absurd (eq ▸ h.2.1.2 q hq) e
      · exact f
    rw [z kv h, z kv' h']
theorem sh_eTs (xs : List (Int × Bool)) : SeqAt.shaped (.list (xs.map eT)) = true := sh_lst lay_eT (fun x => Nat.le_trans (dep_eT x) (by decide)) xs
theorem sh_eQs (xs : List (Int × Int × Int)) : SeqAt.shaped (.list (xs.map eQ)) = true := sh_lst lay_eQ (fun x => Nat.le_trans (dep_eQ x) (by decide)) xs
theorem lay_eHt (kv : KvI) (s : St2) : (eHt kv s).canLay0 = true := by
  unfold eHt
  cases lk kv s <;> simp [PyData.canLay0, PyData.canLayAll0, lay_eS]
theorem dep_eHt (kv : KvI) (s : St2) : (eHt kv s).depth ≤ 60 := by
  unfold eHt
  have := dep_eS s
  cases lk kv s <;> simp [PyData.depth, PyData.depthAll] <;> omega
theorem sh_eHts (kv : KvI) (xs : List St2) : SeqAt.shaped (.list (xs.map (eHt kv))) = true := sh_lst (lay_eHt kv) (dep_eHt kv) xs
theorem eqv_eHt (kv : KvI) (s t : St2) : PyData.eqv (eHt kv s) (eHt kv t) = decide (s = t) := by
  by_cases e : s = t
  · subst e
    unfold eHt
    cases lk kv s <;> simp [PyData.eqv, PyData.eqvAll, eqv_eS]
  · simp [eHt, PyData.eqv, PyData.eqvAll, eqv_eS, e]
theorem joinL_nil : ∀ ls : List (List Nat), TL.joinL [] ls = ls.flatMap id
  | [] => rfl
  | [a] => by show a = _; simp
  | a :: b :: r => by
    show a ++ ([] ++ TL.joinL [] (b :: r)) = _
    rw [joinL_nil (b :: r), List.flatMap_cons (x := a), List.nil_append]
    rfl
theorem join_lines (ls : List Str) : Txt.join "" (ls.map fun l => l ++ "\n") = txt ls := sg_inj (by
  rw [sg_join, sg_empty, joinL_nil, sg_txt, List.map_map]
  induction ls with
  | nil => rfl
  | cons a r ih =>
    rw [List.map_cons, List.flatMap_cons, List.map_cons, List.flatMap_cons, ih]
    show sg (a ++ "\n") ++ _ = _
    rw [sg_app, sg_nl])
theorem sumL_le {N : Nat} : ∀ {ls : List Str}, (∀ l ∈ ls, l.length ≤ N) → (ls.map (·.length)).sum ≤ N * ls.length
  | [], _ => Nat.le_refl _
  | l :: r, h => by
    have a := sumL_le (ls := r) fun z hz => h z (List.mem_cons_of_mem _ hz)
    have b := h l List.mem_cons_self
    rw [List.map_cons, List.sum_cons, List.length_cons, Nat.mul_succ]
    omega
section
variable {K : PySem.W.Frag} {σ : L2.St} {H : Hp} {D : Ends} {tz : TS} {i j l : Nat} {n : Nt} {v u : V} {s : St2} {ta tb te : TE}
theorem en_lines (hi : σ[i]? = some (some v)) (hv : Dp K H v (eNt n)) (ok : n.ok = true) : EvN K (tCall (spLines K) [] E0 (tCons (tVar i) tNil)) σ H ((noteL n).map .str) := fun H1 x Q q =>
  ⟨v, hi, v, n, rfl, dp_mono x _ _ hv, ok, fun u H2 x2 h => q u H2 x2 h⟩
theorem ed_shown (hi : σ[i]? = some (some v)) (N : NightAt K H v n) (ok : n.ok = true) : EvD K (tCall (spShown K) [] E0 (tCons (tVar i) tNil)) σ H (.str (textOf n)) := fun H1 x Q q =>
  ⟨v, hi, v, n, rfl, N.mono x, ok, fun H2 x2 => q _ H2 x2 (.str _)⟩
theorem w_asgRead (hi : σ[i]? = some (some (.str (textOf n)))) (ok : n.ok = true) (k : ∀ v H1, Ex H H1 → NightI K H H1 v n → tz D (σ.set j (some v)) H1) : tSeq (tAsg (tCall (spRead K) [] E0 (tCons (tVar i) tNil)) (gName j)) tz D σ H :=
  ⟨_, hi, textOf n, rfl, Nat.le_trans (text_len ok) (by decide), text_ok ok, fun m hm v H' x hN => by
    rw [note_back ok] at hm
    cases hm
    exact k v H' x hN, fun c => by rw [note_back ok] at c; cases c⟩
/-- isinstance(x, Night) of a night -/
theorem ed_isN {mg : Str → Option Value} (T : Tx K mg) (hi : σ[i]? = some (some v)) (N : NightAt K H v n) : EvD K (tCB (rIsi K) (tCons (tVar i) (tCons (tC (.ref (He.ga K "Night"))) tNil))) σ H (.bool true) := fun H1 x _ q => by
  obtain ⟨p, dx, a, b, ts, qs, rfl, h1, _⟩ := (N.mono x).at_
  exact ⟨_, hi, .ref p, .ref (He.ga K "Night"), .ref (He.ga K "Night"), .ref (He.ga K "Night"), true, rfl, .own _, .base (.ins h1 T.cl T.isi.1 T.isi.2.1 T.isi.2.2.1 T.isi.2.2.2), by
    unfold PySem.W.kitOne
    simp, q _ H1 (Evl.Ex.refl H1) (.bl _)⟩
/-- the heights of two nights alike -/
theorem ed_hts (hi : σ[i]? = some (some v)) (hj : σ[j]? = some (some u)) (N : NightAt K H v n) (M : NightAt K H u n) (m6 : n.things.length ≤ 6) (ok : n.ok = true) :
    EvD K (tOp (rNeD K) (tCall (spHts K) [] E0 (tCons (tVar i) tNil)) (tCall (spHts K) [] E0 (tCons (tVar j) tNil))) σ H (.bool false) := fun H1 x Q q =>
  ⟨v, hi, v, n, rfl, N.mono x, m6, ok, fun u1 H2 x2 ⟨kv, f, h⟩ => ⟨u, hj, u, n, rfl, M.mono (x.trans x2), m6, ok, fun u2 H3 x3 ⟨kv', f', h'⟩ => by
    have e : n.stands.map (eHt kv') = n.stands.map (eHt kv) := List.map_congr_left fun s hs => by unfold eHt; rw [fin2_eq f' f s hs]
    rw [e] at h'
    have z := rd_neD (K := K) (sh_eHts kv n.stands) (sh_eHts kv n.stands) H3 u1 u2 (dp_mono x3 _ _ h.dp) h'.dp Q
    rw [eqv_lst (eqv_eHt kv), decide_eq_true rfl] at z
    exact z fun w H4 x4 h4 => q w H4 ((x2.trans x3).trans x4) h4⟩⟩
theorem short_kind {H0 : Hp} {r : V} (h : ShortRes K n s H0 r H) : ∃ kv a p, Fin2 n kv ∧ r = .ref a ∧ SqT K H a [.str (if (lk kv s).isSome = true then "plan" else "shut"), p] := by
  obtain ⟨kv, a, p, f, rfl, h⟩ := h
  refine ⟨kv, a, p, f, rfl, ?_⟩
  rcases h with ⟨h, plan, h1, h2, _⟩ | ⟨F, h1, h2, _⟩
  · rw [h1]; exact h2
  · rw [h1]; exact h2
/-- the same kind of plan -/
theorem ed_kinds {w : V} (hi : σ[i]? = some (some v)) (hj : σ[j]? = some (some u)) (hl : σ[l]? = some (some w)) (N : NightAt K H v n) (M : NightAt K H u n) (hw : Dp K H w (eS s)) (m6 : n.things.length ≤ 6) (ok : n.ok = true) (hs : s ∈ n.stands) :
    EvD K (tOp rEq (tOp (rIxT K) (tCall (spShort K) [] E0 (tCons (tVar i) (tCons (tVar l) tNil))) (tC (.int 0))) (tOp (rIxT K) (tCall (spShort K) [] E0 (tCons (tVar j) (tCons (tVar l) tNil))) (tC (.int 0)))) σ H (.bool true) := fun H1 x Q q => by
  have so := stands_ok s hs
  refine ⟨v, hi, w, hl, v, n, w, s, rfl, N.mono x, dp_mono x _ _ hw, m6, ok, fun _ _ r H2 x2 hR => ?_, fun c => absurd (so.1.symm.trans c) (by decide), fun _ c => absurd (so.2.symm.trans c) (by decide)⟩
  obtain ⟨kv, a, p, f, rfl, hT⟩ := short_kind hR
  refine ⟨a, _, 0, _, rfl, rfl, hT, rfl, ?_⟩
  refine ⟨u, hj, w, hl, u, n, w, s, rfl, M.mono (x.trans x2), dp_mono (x.trans x2) _ _ hw, m6, ok, fun _ _ r H3 x3 hR' => ?_, fun c => absurd (so.1.symm.trans c) (by decide), fun _ c => absurd (so.2.symm.trans c) (by decide)⟩
  obtain ⟨kv', a', p', f', rfl, hT'⟩ := short_kind hR'
  refine ⟨a', _, 0, _, rfl, rfl, hT', rfl, ?_⟩
  rw [fin2_eq f' f s hs]
  have z := rd_eqS (K := K) (i := (if (lk kv s).isSome = true then "plan" else "shut" : Str)) (j := (if (lk kv s).isSome = true then "plan" else "shut" : Str)) H3 _ _ (.str _) (.str _) Q
  rw [decide_eq_true rfl] at z
  exact z fun w H4 x4 h4 => q w H4 ((x2.trans x3).trans x4) h4
end
theorem rng_stand (m : Nat) : standOk m (rng m, 0) = true := by
  unfold standOk
  rw [climb_of_sub (List.Sublist.refl _)]
  rfl
section
variable {P : Program} {w : World} {K : PySem.W.Frag} {mg : Str → Option Value} {base : Heap}
theorem sc_law : FnScope ["script", "night", "made", "due", "found", "back", "many", "begins", "line"] ["script"] (defScope s_law) := ⟨rfl, rfl, rfl, by decide +kernel, rfl, by decide +kernel, by decide +kernel⟩
theorem ok_law {f : Addr} {fd : FuncData} (T : Tx K mg) (F : FunD K "law" "law" (defArgs s_law) (defBody s_law) (defScope s_law) [] [] f fd) : FnOk P w K mg base CX0 8 f fd ["script"] (spLaw K) := by
  have G_shortest := ok_shortest (P := P) (w := w) (base := base) T
  have G_crews := ok_crews (P := P) (w := w) (base := base) T
  have G__law_good := ok__law_good (P := P) (w := w) (base := base) T
  have G_heights := ok_heights (P := P) (w := w) (base := base) T
  have G_shown := ok_shown (P := P) (w := w) (base := base) T
  have G_read := ok_read (P := P) (w := w) (base := base) T
  have G__law_lines := ok__law_lines (P := P) (w := w) (base := base) T
  have G__law_night := ok__law_night (P := P) (w := w) (base := base) T
  have N_begins := ok_Night_begins (P := P) (w := w) (base := base) T
  have N_quarrels := ok_Night_quarrels (P := P) (w := w) (base := base) T
  have N_room := ok_Night_room (P := P) (w := w) (base := base) T
  have N_things := ok_Night_things (P := P) (w := w) (base := base) T
  refine F.ok sc_law (fun vs H Q E h => ?_) (fun cdv A outer s H vs Q E hr h => ⟨_, PSs.nox (pss_cons (ps_set (i := 1) sc_law.nd rfl (.inl rfl) (pe_f G__law_night (hr.mono (by decide)) rfl (pa_cons (pv 0) (pa_cons pe_int pa_nil))))
      (pss_cons (ps_set (i := 2) sc_law.nd rfl (.inl rfl) (pe_Night (K := K) T (hr.mono (by decide)) rfl (pa_cons (pe_callTy (r := rListQ K) call_list_of (by rfl) T.b_list (by decide +kernel) (pa_cons (pe_ix (r := rIxT K) ix_tup (pv 1) pe_int (fun _ _ => rfl)) pa_nil)) (pa_cons (pe_ix (r := rIxT K) ix_tup (pv 1) pe_int (fun _ _ => rfl)) (pa_cons (pe_callTy (r := rListQ K) call_list_of (by rfl) T.b_list (by decide +kernel) (pa_cons (pe_ix (r := rIxT K) ix_tup (pv 1) pe_int (fun _ _ => rfl)) pa_nil)) pa_nil)))))
      (pss_cons (ps_set (i := 3) sc_law.nd rfl (.inl rfl) (pe_join pe_str (pe_lc (own := [("line", 8)]) (g := gName 8) (by rfl) sc_law.nd (pi_list (pe_f G__law_lines (hr.mono (by decide)) rfl (pa_cons (pv 1) pa_nil))) (blkOk_by (N := ["script", "night", "made", "due", "found", "back", "many", "begins", "line"]) (sc := defScope s_law) (by decide +kernel)) (fun _ _ _ _ _ => pg_name (i := 8) sc_law.nd rfl (.inl rfl)) (fun _ _ _ _ _ => pts_nil) (fun _ _ _ _ _ => (pe_op (r := rAddS) op_add_str (pv 8) pe_str)))))
      (pss_cons (ps_set (i := 4) sc_law.nd rfl (.inl rfl) (pe_f G_shown (hr.mono (by decide)) rfl (pa_cons (pv 2) pa_nil)))
      (pss_cons (ps_if (PW.pt (pw_or (pt_not (pt_val (pe_callB (r := rIsi K) call_isi (by rfl) T.b_isinstance (by decide +kernel) (pa_cons (pv 4) (pa_cons (pe_bltn (v := .ty "str") (by rfl) T.b_str (by decide +kernel) rfl) pa_nil))))) (pw_or1 (pt_cmpR op_ne (pv 4) (pv 3) (nomark _))))) (pss_one (ps_ret pe_bl)) pss_nil)
      (pss_cons (ps_set (i := 5) sc_law.nd rfl (.inl rfl) (pe_f0 G_read (hr.mono (by decide)) rfl passL (pa_cons (pv 3) pa_nil)))
      (pss_cons (ps_if (PW.pt (pw_or (pt_not (pt_val (pe_callB (r := rIsi K) call_isi (by rfl) T.b_isinstance (by decide +kernel) (pa_cons (pv 5) (pa_cons (pe_glob rfl T.g_Night (v := .ref _) rfl) pa_nil))))) (pw_or (pt_cmpR (r := rNeD K) (op_neD hr.units) (pe_nm0 (C := He.ga K "Night") (pv 5) N_things (hr.mono (by decide)) pass0) (pe_ix (r := rIxT K) ix_tup (pv 1) pe_int (fun _ _ => rfl)) (nomark _)) (pw_or1 (pt_cmpR op_ne (pe_nm0 (C := He.ga K "Night") (pv 5) N_room (hr.mono (by decide)) pass0) (pe_ix (r := rIxT K) ix_tup (pv 1) pe_int (fun _ _ => rfl)) (nomark _)))))) (pss_one (ps_ret pe_bl)) pss_nil)
      (pss_cons (ps_if (PW.pt (pw_or (pt_cmpR (r := rNeD K) (op_neD hr.units) (pe_nm0 (C := He.ga K "Night") (pv 5) N_quarrels (hr.mono (by decide)) pass0) (pe_ix (r := rIxT K) ix_tup (pv 1) pe_int (fun _ _ => rfl)) (nomark _)) (pw_or1 (pt_cmpR op_ne (pe_f G_shown (hr.mono (by decide)) rfl (pa_cons (pv 5) pa_nil)) (pv 3) (nomark _))))) (pss_one (ps_ret pe_bl)) pss_nil)
      (pss_cons (ps_if (pt_cmpR (r := rNeD K) (op_neD hr.units) (pe_f G_heights (hr.mono (by decide)) rfl (pa_cons (pv 5) pa_nil)) (pe_f G_heights (hr.mono (by decide)) rfl (pa_cons (pv 2) pa_nil)) (nomark _)) (pss_one (ps_ret pe_bl)) pss_nil)
      (pss_cons (ps_set (i := 6) sc_law.nd rfl (.inl rfl) (pe_callB (r := rLenQ K) call_len_seq (by rfl) T.b_len (by decide +kernel) (pa_cons (pe_ix (r := rIxT K) ix_tup (pv 1) pe_int (fun _ _ => rfl)) pa_nil)))
      (pss_cons (ps_if (pt_not (pt_val (pe_f G__law_good (hr.mono (by decide)) rfl (pa_cons (pe_ix (r := rIxT K) ix_tup (pv 1) pe_int (fun _ _ => rfl)) (pa_cons (pe_tupRg rfl rfl T.b_tuple (prg_1 rfl T.b_range (pv 6))) (pa_cons (pv 6) pa_nil)))))) (pss_one (ps_ret pe_bl)) pss_nil)
      (pss_cons (ps_set (i := 7) sc_law.nd rfl (.inl rfl) (pe_nm0 (C := He.ga K "Night") (pv 2) N_begins (hr.mono (by decide)) pass0))
      (pss_one (ps_ret (pe_and (pe_cmpR (r := rEqD K) (op_eqD hr.units) (pe_f0 G_crews (hr.mono (by decide)) rfl passN (pa_cons (pv 5) (pa_cons (pv 7) pa_nil))) (pe_f0 G_crews (hr.mono (by decide)) rfl passN (pa_cons (pv 2) (pa_cons (pv 7) pa_nil))) (nomark _)) (pe_one (pe_cmpR op_eq (pe_ix (r := rIxT K) ix_tup (pe_f0 G_shortest (hr.mono (by decide)) rfl passN (pa_cons (pv 5) (pa_cons (pv 7) pa_nil))) pe_int (fun _ _ => rfl)) (pe_ix (r := rIxT K) ix_tup (pe_f0 G_shortest (hr.mono (by decide)) rfl passN (pa_cons (pv 2) (pa_cons (pv 7) pa_nil))) pe_int (fun _ _ => rfl)) (nomark _)))))))))))))))))), ?_⟩)
  · obtain ⟨a, ns, rfl, _⟩ := h
    rfl
  · obtain ⟨a, ns, rfl, hS, hl, q⟩ := h
    have hv : Dp K H (.ref a) (eScript ns) := dp_lst.mpr ⟨a, _, rfl, hS, dpa_ints.mpr rfl⟩
    refine' w_asgNt (K := K) ns 6 ⟨by decide, by decide, hl⟩ ?t (fun v1 H1 x1 N1 => ?_)
    case t => walk_at "eds"
    have ok0 : (lawNight ns 6).ok = true := lawNight_ok ns 6 (by decide) (by decide)
    have m6 : (lawNight ns 6).things.length ≤ 6 := (ok_counts ok0).1.2
    generalize lawNight ns 6 = n at N1 ok0 m6
    have N1d : Dp K H1 v1 (.tuple [.list (n.things.map eT), .int n.room, .list (n.quarrels.map eQ)]) := N1.dp
    refine' w_asgNight (K := K) (n := n) (eds_cons (en_cb (ds := [.list (n.things.map eT)]) ?t1 cn_listL).toD (eds_cons ?t2 (eds_cons (en_cb (ds := [.list (n.quarrels.map eQ)]) ?t3 cn_listL).toD eds_nil))) ok0 (fun v2 H2 x2 N2 => ?_)
    case t1 => walk_at "eds"
    case t2 => walk_at "ed"
    case t3 => walk_at "eds"
    have NA2 := N2.na
    have no := noteOk_of ok0
    have oc := ok_counts ok0
    have lns := lines_90 no
    have nl := noteL_len n
    have l1 : ("\n" : Str).length = 1 := by decide +kernel
    have l0 : ("" : Str).length = 0 := by decide +kernel
    refine w_asg (K := K) (d := .str (textOf n)) (EvD.cast (ed_join (x := "") (ys := (noteL n).map fun l => l ++ "\n") ed_str (EvN.cast (en_mapL .str (xs := noteL n) (fun l => .str (l ++ "\n")) (fun _ => rfl) (en_lines rfl (dp_mono x2 _ _ N1d) ok0).toD (by omega) (fun _ => rfl) (fun i b v H3 hb x3 hv => ed_op (ed_var rfl hv) ed_str (rd_addS (by have := lns b (List.mem_of_getElem? hb); omega)))) (by rw [List.map_map]; rfl)).toD ?lim) (by rw [join_lines, txt_text])) (fun v3 H3 x3 h3 => ?_)
    case lim =>
      have := sumL_le (N := 91) (ls := (noteL n).map fun l => l ++ "\n") (fun l hl => by
        obtain ⟨z, hz, rfl⟩ := List.mem_map.mp hl
        have := lns z hz
        rw [len_app]
        omega)
      rw [l0, List.length_map] at *
      omega
    cases dp_str.mp h3
    have NA3 := NA2.mono x3
    refine w_asg (K := K) (d := .str (textOf n)) (ed_shown rfl NA3 ok0) (fun v4 H4 x4 h4 => ?_)
    cases dp_str.mp h4
    refine w_when K (b := !isT "str" (.str (textOf n)) || !decide (textOf n = textOf n)) (eb_or (eb_not (eb_dB (ed_isiS (ed_var rfl (.str _))))) (fun _ => eb_d (ed_op (ed_var rfl (.str _)) (ed_var rfl (.str _)) rd_neS))) (fun hb H5 x5 => ?_) (fun hb H5 x5 => ?_)
    · simp [isT] at hb
    refine w_asgRead (K := K) (n := n) rfl ok0 (fun v6 H6 x6 N6 => ?_)
    have B6 := N6.na
    have x26 := ((x3.trans x4).trans x5).trans x6
    have A6 := NA2.mono x26
    have d6 := dp_mono (x2.trans x26) _ _ N1d
    refine w_when K (b := !true || (!decide (n.things = n.things) || !decide (n.room = n.room))) (eb_or (eb_not (eb_dB (ed_isN T rfl B6))) (fun _ => eb_or (eb_d (EvD.cast (ed_op (d := .list (n.things.map eT)) (e := .list (n.things.map eT)) (en_things rfl B6).toD (ed_op (ed_var rfl d6) (ed_int (i := 0)) (rd_ixT (by rfl))) (rd_neD (sh_eTs _) (sh_eTs _))) (by rw [eqv_lst eqv_eT]))) (fun _ => eb_d (ed_op (ed_room rfl B6) (ed_op (ed_var rfl d6) (ed_int (i := 1)) (rd_ixT (by rfl))) rd_neI)))) (fun hb H7 x7 => ?_) (fun hb H7 x7 => ?_)
    · simp at hb
    have B7 := B6.mono x7
    have d7 := dp_mono x7 _ _ d6
    refine w_when K (b := !decide (n.quarrels = n.quarrels) || !decide (textOf n = textOf n)) (eb_or (eb_d (EvD.cast (ed_op (d := .list (n.quarrels.map eQ)) (e := .list (n.quarrels.map eQ)) (en_quarrels rfl B7).toD (ed_op (ed_var rfl d7) (ed_int (i := 2)) (rd_ixT (by rfl))) (rd_neD (sh_eQs _) (sh_eQs _))) (by rw [eqv_lst eqv_eQ]))) (fun _ => eb_d (ed_op (ed_shown rfl B7 ok0) (ed_var rfl (.str _)) rd_neS))) (fun hb H8 x8 => ?_) (fun hb H8 x8 => ?_)
    · simp at hb
    have B8 := B7.mono x8
    have A8 := A6.mono (x7.trans x8)
    refine w_when K (b := false) (eb_d (ed_hts (i := 5) (j := 2) rfl rfl B8 A8 m6 ok0)) (fun hb H9 x9 => ?_) (fun hb H9 x9 => ?_)
    · cases hb
    have d9 := dp_mono ((x7.trans x8).trans x9) _ _ d6
    refine w_asg (K := K) (d := .int (n.things.length : Nat)) (EvD.cast (ed_cb (eds_cons (d := .list (n.things.map eT)) (ed_op (ed_var rfl d9) (ed_int (i := 0)) (rd_ixT (by rfl))) eds_nil) cd_lenL) (by rw [List.length_map])) (fun v10 H10 x10 h10 => ?_)
    cases dp_int.mp h10
    have d10 := dp_mono x10 _ _ d9
    have x810 := x9.trans x10
    have qz : EvD K (tOp (rIxT K) (tVar 1) (tC (.int 2))) [some (.ref a), some v1, some v2, some (.str (textOf n)), some (.str (textOf n)), some v6, some (.int (n.things.length : Nat)), none, none] H10 (.list (n.quarrels.map eQ)) := ed_op (ed_var rfl d10) (ed_int (i := 2)) (rd_ixT (by rfl))
    refine w_when K (b := !good n.quarrels (rng n.things.length) n.things.length) (eb_not (eb_dB (ed_good qz (ed_tupRg (ed_var rfl (.int _)) (by omega)) (ed_var rfl (.int _)) (by omega)))) (fun hb H11 x11 => ?_) (fun hb H11 x11 => ?_)
    · exact w_ret1 (ed_bl (K := K)) fun v9 H9 x9 h9 => by cases dp_bl.mp h9; exact q H9
    have gd : n.good (rng n.things.length, 0) = true := by
      have z : good n.quarrels (rng n.things.length) n.things.length = true := by simpa using hb
      exact z
    have so := rng_stand n.things.length
    have sm := stands_mem so gd
    have B11 := B8.mono (x810.trans x11)
    have A11 := A8.mono (x810.trans x11)
    refine w_asg (K := K) (d := eS (rng n.things.length, 0)) (ed_begins rfl A11 (by omega)) (fun v12 H12 x12 h12 => ?_)
    have B12 := B11.mono x12
    have A12 := A11.mono x12
    refine w_ret1 (K := K) (d := .bool (decide (n.crews (rng n.things.length, 0) = n.crews (rng n.things.length, 0)) && true)) (ed_andV (EvD.cast (ed_op (d := .list ((n.crews (rng n.things.length, 0)).map eI)) (e := .list ((n.crews (rng n.things.length, 0)).map eI)) (en_crews rfl B12 (ed_var rfl h12) m6 so gd).toD (en_crews rfl A12 (ed_var rfl h12) m6 so gd).toD (rd_eqD (sh_eIs _) (sh_eIs _))) (by rw [eqv_lst eqv_eI])) (fun _ => ed_kinds rfl rfl rfl B12 A12 h12 m6 ok0 sm)) fun v9 H9 x9 h9 => ?_
    have z := dp_bl.mp h9
    rw [decide_eq_true rfl] at z
    cases z
    exact q H9
end

end Fy

namespace Fy
open PySem PySem.Spec PyProof.Rows L2
theorem run (w : World) : HandSHeadRun.RunEq R qv hk ob 4000 nms w := by
  intro os
  kernel_rfl
end Fy

open PySem PySem.W PySem.Calls PyProof.Rows
set_option maxRecDepth 100000 in
set_option maxHeartbeats 0 in
theorem PySem.Challenge.cw_ferrynight_k08_nights_written_holds : PySem.Challenge.rw_ferrynight_k08_nights_written.Holds := by
  w_on; o_law
  refine HandSHeadRun.head_any (r := OpenLaw.row PySem.Challenge.rw_ferrynight_k08_nights_written) (q := view (OpenLaw.row PySem.Challenge.rw_ferrynight_k08_nights_written).prog [53]) (H := Fy.hk) (ob := Fy.ob) (M := 4000) (loose := Fy.nms) (d := HandSHeadRun.topDef (OpenLaw.row PySem.Challenge.rw_ferrynight_k08_nights_written).prog 53) (kwd := []) Fy.ob_eq
    (by kernel_rfl) (fun s => by kernel_rfl) Fy.run (by kernel_rfl) (by kernel_rfl) (by kernel_rfl) (by rfl) (by first | assumption | decide +kernel) (by decide +kernel) ⟨rfl, rfl, rfl, rfl, rfl, by decide +kernel⟩ ?hw ?hc
  case hw => w_witness2
  case hc =>
    refine L2.walk_ofE (l := PySem.Challenge.rw_ferrynight_k08_nights_written) (n := 63) (k := 8) (x := "script") (CX := L2.CX0) rfl (by decide) (by kernel_rfl) ⟨rfl, by decide, by decide⟩ ?F (fun _ _ _ _ z => z)
    intro w mg fa h Y G hmg0
    obtain ⟨K, KX, c⟩ := Y
    have hmg : mg ("law" : PySem.Str) = some (.ref fa) := by
      have e : (HandSHeadRun.topDef (OpenLaw.row PySem.Challenge.rw_ferrynight_k08_nights_written).prog 53).name = ("law" : PySem.Str) := by kernel_rfl
      rw [← e]
      exact hmg0
    have T := Fy.tx_of KX G c
    have e := hmg.symm.trans T.g_law
    cases e
    obtain ⟨fd, F⟩ := T.f_law
    have b := L2.FunD.bindsA (ps := ["script"]) F fun _ _ _ _ _ _ us hl => match us, hl with | [_], _ => rfl
    exact ⟨K, fd, Fy.spLaw K, KX, fun s v => b s [v] rfl, fun H a ns hl hO hS => ⟨a, ns, rfl, hS, hl, fun _ => rfl⟩, fun base _ _ => Fy.ok_law T F⟩
#print axioms PySem.Challenge.cw_ferrynight_k08_nights_written_holds

