import PyProof.Rows.All
import Wide.All
import OpenK.AllK
import Wide.FinOn
import HandS.ForMost
import HandS.Codes
import HandS.HeadHook2
import HandS.IsInst
import PySem.Challenge.RW_anymeaning_k98_whole_loops_of_unlike_len
import KE.KStateDown
import Lean
import HandS.Head0
import HandS.Head1
import HandS.Head2
import HandS.HeadEnd
import PyProof.StrBlock2
import KE.SortData
import KE.GoesEnum
import KE.KDictWalk
import HandS.Walk
import HandS.Replace
import KE.GoesMore
import KE.BitLaws
import HandS.Style
import HandS.Deep
import PyProof.Rows.TupDisplay
import HandS.Base
import HandS.Call
import HandS.Ends
import HandS.More
import HandS.Words
import HandS.WordsExc
import HandS.Defaults
import HandS.HeadHook1
set_option Elab.async false
set_option linter.all false
set_option maxRecDepth 100000
/-! the text by places, what the head tells of it (printed by gen_text.py) -/
namespace K98
open PySem L2
def top (i : Nat) : Stmt := PySem.Challenge.pw_anymeaning_k98_whole_loops_of_unlike_len.main.body.getD i (.Pass ⟨0, 0, 0, 0⟩)
abbrev st_settings_of : Stmt := top 5
abbrev st_Test_mask : Stmt := inClass (top 6) 1
abbrev st_Yes_holds : Stmt := inClass (top 7) 0
abbrev st_Named_init : Stmt := inClass (top 8) 0
abbrev st_Named_holds : Stmt := inClass (top 8) 1
abbrev st_Not_init : Stmt := inClass (top 9) 0
abbrev st_Not_holds : Stmt := inClass (top 9) 1
abbrev st_Bonds_init : Stmt := inClass (top 12) 0
abbrev st_Bonds_let_by : Stmt := inClass (top 12) 1
abbrev st_Bonds_narrowed : Stmt := inClass (top 12) 2
abbrev st_Bonds_good : Stmt := inClass (top 12) 3
abbrev st_Bonds_ways : Stmt := inClass (top 12) 4
abbrev st_Step_first : Stmt := inClass (top 14) 0
abbrev st_Step_letters : Stmt := inClass (top 14) 1
abbrev st_Deed_init : Stmt := inClass (top 16) 0
abbrev st_Deed_first : Stmt := inClass (top 16) 1
abbrev st_Deed_letters : Stmt := inClass (top 16) 2
abbrev st_Row_init : Stmt := inClass (top 17) 0
abbrev st_Row_first : Stmt := inClass (top 17) 1
abbrev st_Row_letters : Stmt := inClass (top 17) 2
abbrev st_Loop_init : Stmt := inClass (top 19) 0
abbrev st_Loop_first : Stmt := inClass (top 19) 1
abbrev st_Loop_letters : Stmt := inClass (top 19) 2
abbrev st_numbered : Stmt := top 22
abbrev st_left_behind : Stmt := top 23
abbrev st_Rooms_init : Stmt := inClass (top 24) 0
abbrev st_Sides_init : Stmt := inClass (top 26) 0
abbrev st_Sides_both_at : Stmt := inClass (top 26) 1
abbrev st_Sides_come_behind : Stmt := inClass (top 26) 2
abbrev st_Sides_is_fine : Stmt := inClass (top 26) 3
abbrev st_Alike_init : Stmt := inClass (top 28) 0
abbrev st_Alike_stands : Stmt := inClass (top 28) 1
abbrev st_Apart_init : Stmt := inClass (top 29) 0
abbrev st_Apart_stands : Stmt := inClass (top 29) 1
abbrev st_word_to : Stmt := top 30
abbrev st_judged : Stmt := top 31
abbrev st_Saying_bars : Stmt := inClass (top 33) 0
abbrev st_Through_init : Stmt := inClass (top 34) 0
abbrev st_Through_allows : Stmt := inClass (top 34) 1
abbrev st_cell_at : Stmt := top 36
abbrev st_round : Stmt := top 37
abbrev st_table : Stmt := top 38
abbrev st_told : Stmt := top 39
abbrev st_parted : Stmt := top 40
abbrev st_law : Stmt := top 41
def dd_settings_of : He.DefD := ⟨("settings_of", none), "settings_of", "settings_of", defArgs st_settings_of, defBody st_settings_of, defScope st_settings_of, [], []⟩
def dd_Test_mask : He.DefD := ⟨("Test", some "mask"), "mask", "Test.mask", defArgs st_Test_mask, defBody st_Test_mask, defScope st_Test_mask, [], []⟩
def dd_Yes_holds : He.DefD := ⟨("Yes", some "holds"), "holds", "Yes.holds", defArgs st_Yes_holds, defBody st_Yes_holds, defScope st_Yes_holds, [], []⟩
def dd_Named_init : He.DefD := ⟨("Named", some "__init__"), "__init__", "Named.__init__", defArgs st_Named_init, defBody st_Named_init, defScope st_Named_init, [], []⟩
def dd_Named_holds : He.DefD := ⟨("Named", some "holds"), "holds", "Named.holds", defArgs st_Named_holds, defBody st_Named_holds, defScope st_Named_holds, [], []⟩
def dd_Not_init : He.DefD := ⟨("Not", some "__init__"), "__init__", "Not.__init__", defArgs st_Not_init, defBody st_Not_init, defScope st_Not_init, [], []⟩
def dd_Not_holds : He.DefD := ⟨("Not", some "holds"), "holds", "Not.holds", defArgs st_Not_holds, defBody st_Not_holds, defScope st_Not_holds, [], []⟩
def dd_Bonds_init : He.DefD := ⟨("Bonds", some "__init__"), "__init__", "Bonds.__init__", defArgs st_Bonds_init, defBody st_Bonds_init, defScope st_Bonds_init, [], []⟩
def dd_Bonds_let_by : He.DefD := ⟨("Bonds", some "let_by"), "let_by", "Bonds.let_by", defArgs st_Bonds_let_by, defBody st_Bonds_let_by, defScope st_Bonds_let_by, [], []⟩
def dd_Bonds_narrowed : He.DefD := ⟨("Bonds", some "narrowed"), "narrowed", "Bonds.narrowed", defArgs st_Bonds_narrowed, defBody st_Bonds_narrowed, defScope st_Bonds_narrowed, [], []⟩
def dd_Bonds_good : He.DefD := ⟨("Bonds", some "good"), "good", "Bonds.good", defArgs st_Bonds_good, defBody st_Bonds_good, defScope st_Bonds_good, [], []⟩
def dd_Bonds_ways : He.DefD := ⟨("Bonds", some "ways"), "ways", "Bonds.ways", defArgs st_Bonds_ways, defBody st_Bonds_ways, defScope st_Bonds_ways, [], []⟩
def dd_Step_first : He.DefD := ⟨("Step", some "first"), "first", "Step.first", defArgs st_Step_first, defBody st_Step_first, defScope st_Step_first, [], []⟩
def dd_Step_letters : He.DefD := ⟨("Step", some "letters"), "letters", "Step.letters", defArgs st_Step_letters, defBody st_Step_letters, defScope st_Step_letters, [], []⟩
def dd_Deed_init : He.DefD := ⟨("Deed", some "__init__"), "__init__", "Deed.__init__", defArgs st_Deed_init, defBody st_Deed_init, defScope st_Deed_init, [], []⟩
def dd_Deed_first : He.DefD := ⟨("Deed", some "first"), "first", "Deed.first", defArgs st_Deed_first, defBody st_Deed_first, defScope st_Deed_first, [], []⟩
def dd_Deed_letters : He.DefD := ⟨("Deed", some "letters"), "letters", "Deed.letters", defArgs st_Deed_letters, defBody st_Deed_letters, defScope st_Deed_letters, [], []⟩
def dd_Row_init : He.DefD := ⟨("Row", some "__init__"), "__init__", "Row.__init__", defArgs st_Row_init, defBody st_Row_init, defScope st_Row_init, [], []⟩
def dd_Row_first : He.DefD := ⟨("Row", some "first"), "first", "Row.first", defArgs st_Row_first, defBody st_Row_first, defScope st_Row_first, [], []⟩
def dd_Row_letters : He.DefD := ⟨("Row", some "letters"), "letters", "Row.letters", defArgs st_Row_letters, defBody st_Row_letters, defScope st_Row_letters, [], []⟩
def dd_Loop_init : He.DefD := ⟨("Loop", some "__init__"), "__init__", "Loop.__init__", defArgs st_Loop_init, defBody st_Loop_init, defScope st_Loop_init, [], []⟩
def dd_Loop_first : He.DefD := ⟨("Loop", some "first"), "first", "Loop.first", defArgs st_Loop_first, defBody st_Loop_first, defScope st_Loop_first, [], []⟩
def dd_Loop_letters : He.DefD := ⟨("Loop", some "letters"), "letters", "Loop.letters", defArgs st_Loop_letters, defBody st_Loop_letters, defScope st_Loop_letters, [], []⟩
def dd_numbered : He.DefD := ⟨("numbered", none), "numbered", "numbered", defArgs st_numbered, defBody st_numbered, defScope st_numbered, [], []⟩
def dd_left_behind : He.DefD := ⟨("left_behind", none), "left_behind", "left_behind", defArgs st_left_behind, defBody st_left_behind, defScope st_left_behind, [], []⟩
def dd_Rooms_init : He.DefD := ⟨("Rooms", some "__init__"), "__init__", "Rooms.__init__", defArgs st_Rooms_init, defBody st_Rooms_init, defScope st_Rooms_init, [], []⟩
def dd_Sides_init : He.DefD := ⟨("Sides", some "__init__"), "__init__", "Sides.__init__", defArgs st_Sides_init, defBody st_Sides_init, defScope st_Sides_init, [], []⟩
def dd_Sides_both_at : He.DefD := ⟨("Sides", some "both_at"), "both_at", "Sides.both_at", defArgs st_Sides_both_at, defBody st_Sides_both_at, defScope st_Sides_both_at, [], []⟩
def dd_Sides_come_behind : He.DefD := ⟨("Sides", some "come_behind"), "come_behind", "Sides.come_behind", defArgs st_Sides_come_behind, defBody st_Sides_come_behind, defScope st_Sides_come_behind, [], []⟩
def dd_Sides_is_fine : He.DefD := ⟨("Sides", some "is_fine"), "is_fine", "Sides.is_fine", defArgs st_Sides_is_fine, defBody st_Sides_is_fine, defScope st_Sides_is_fine, [], []⟩
def dd_Alike_init : He.DefD := ⟨("Alike", some "__init__"), "__init__", "Alike.__init__", defArgs st_Alike_init, defBody st_Alike_init, defScope st_Alike_init, [], []⟩
def dd_Alike_stands : He.DefD := ⟨("Alike", some "stands"), "stands", "Alike.stands", defArgs st_Alike_stands, defBody st_Alike_stands, defScope st_Alike_stands, [], []⟩
def dd_Apart_init : He.DefD := ⟨("Apart", some "__init__"), "__init__", "Apart.__init__", defArgs st_Apart_init, defBody st_Apart_init, defScope st_Apart_init, [], []⟩
def dd_Apart_stands : He.DefD := ⟨("Apart", some "stands"), "stands", "Apart.stands", defArgs st_Apart_stands, defBody st_Apart_stands, defScope st_Apart_stands, [], []⟩
def dd_word_to : He.DefD := ⟨("word_to", none), "word_to", "word_to", defArgs st_word_to, defBody st_word_to, defScope st_word_to, [], []⟩
def dd_judged : He.DefD := ⟨("judged", none), "judged", "judged", defArgs st_judged, defBody st_judged, defScope st_judged, [], []⟩
def dd_Saying_bars : He.DefD := ⟨("Saying", some "bars"), "bars", "Saying.bars", defArgs st_Saying_bars, defBody st_Saying_bars, defScope st_Saying_bars, [], []⟩
def dd_Through_init : He.DefD := ⟨("Through", some "__init__"), "__init__", "Through.__init__", defArgs st_Through_init, defBody st_Through_init, defScope st_Through_init, [], []⟩
def dd_Through_allows : He.DefD := ⟨("Through", some "allows"), "allows", "Through.allows", defArgs st_Through_allows, defBody st_Through_allows, defScope st_Through_allows, [], []⟩
def dd_cell_at : He.DefD := ⟨("_law_cell_at", none), "_law_cell_at", "_law_cell_at", defArgs st_cell_at, defBody st_cell_at, defScope st_cell_at, [], []⟩
def dd_round : He.DefD := ⟨("_law_round", none), "_law_round", "_law_round", defArgs st_round, defBody st_round, defScope st_round, [], []⟩
def dd_table : He.DefD := ⟨("_law_table", none), "_law_table", "_law_table", defArgs st_table, defBody st_table, defScope st_table, [], []⟩
def dd_told : He.DefD := ⟨("_law_told", none), "_law_told", "_law_told", defArgs st_told, defBody st_told, defScope st_told, [], []⟩
def dd_parted : He.DefD := ⟨("_law_parted", none), "_law_parted", "_law_parted", defArgs st_parted, defBody st_parted, defScope st_parted, [], []⟩
def dd_law : He.DefD := ⟨("law", none), "law", "law", defArgs st_law, defBody st_law, defScope st_law, [], []⟩
def fn : List He.DefD := [dd_settings_of, dd_Test_mask, dd_Yes_holds, dd_Named_init, dd_Named_holds, dd_Not_init, dd_Not_holds, dd_Bonds_init, dd_Bonds_let_by, dd_Bonds_narrowed, dd_Bonds_good, dd_Bonds_ways, dd_Step_first, dd_Step_letters, dd_Deed_init, dd_Deed_first, dd_Deed_letters, dd_Row_init, dd_Row_first, dd_Row_letters, dd_Loop_init, dd_Loop_first, dd_Loop_letters, dd_numbered, dd_left_behind, dd_Rooms_init, dd_Sides_init, dd_Sides_both_at, dd_Sides_come_behind, dd_Sides_is_fine, dd_Alike_init, dd_Alike_stands, dd_Apart_init, dd_Apart_stands, dd_word_to, dd_judged, dd_Saying_bars, dd_Through_init, dd_Through_allows, dd_cell_at, dd_round, dd_table, dd_told, dd_parted, dd_law]
def fa : List He.Fa := [.glo "settings_of",
  .glo "numbered",
  .glo "left_behind",
  .glo "word_to",
  .glo "judged",
  .glo "_law_cell_at",
  .glo "_law_round",
  .glo "_law_table",
  .glo "_law_told",
  .glo "_law_parted",
  .glo "law",
  .glo "Yes",
  .glo "Named",
  .glo "Not",
  .glo "Bonds",
  .glo "Skip",
  .glo "Deed",
  .glo "Row",
  .glo "Loop",
  .glo "Rooms",
  .glo "Sides",
  .glo "Alike",
  .glo "Apart",
  .glo "Through",
  .glo "Choice",
  .free "range",
  .free "any",
  .free "all",
  .free "len",
  .free "list",
  .free "sorted",
  .free "isinstance",
  .free "zip",
  .free "min",
  .int "SETTINGS" 16,
  .int "EVERY" 65535,
  .str "LETTERS" "abcd",
  .str "DEEDS" "PQRST",
  .str "SIGNS" "0123456789AB",
  .cls "Yes",
  .meth "Yes" "holds",
  .meth "Yes" "mask",
  .keep "Yes",
  .cls "Named",
  .noat "Named" "name",
  .meth "Named" "holds",
  .meth "Named" "mask",
  .mkr "Named",
  .cls "Not",
  .noat "Not" "inner",
  .meth "Not" "holds",
  .meth "Not" "mask",
  .mkr "Not",
  .cls "Bonds",
  .noat "Bonds" "kept",
  .noat "Bonds" "let",
  .meth "Bonds" "let_by",
  .meth "Bonds" "narrowed",
  .meth "Bonds" "good",
  .meth "Bonds" "ways",
  .mkr "Bonds",
  .cls "Skip",
  .meth "Skip" "first",
  .meth "Skip" "letters",
  .keep "Skip",
  .cls "Deed",
  .noat "Deed" "name",
  .meth "Deed" "first",
  .meth "Deed" "letters",
  .mkr "Deed",
  .cls "Row",
  .noat "Row" "head",
  .noat "Row" "tail",
  .meth "Row" "first",
  .meth "Row" "letters",
  .mkr "Row",
  .cls "Loop",
  .noat "Loop" "test",
  .noat "Loop" "body",
  .meth "Loop" "first",
  .meth "Loop" "letters",
  .mkr "Loop",
  .cls "Rooms",
  .noat "Rooms" "step",
  .noat "Rooms" "doors",
  .mkr "Rooms",
  .cls "Sides",
  .noat "Sides" "ones",
  .noat "Sides" "others",
  .noat "Sides" "bonds",
  .noat "Sides" "begin",
  .meth "Sides" "both_at",
  .meth "Sides" "come_behind",
  .meth "Sides" "is_fine",
  .mkr "Sides",
  .cls "Alike",
  .noat "Alike" "table",
  .meth "Alike" "stands",
  .mkr "Alike",
  .cls "Apart",
  .noat "Apart" "settings",
  .noat "Apart" "deeds",
  .meth "Apart" "stands",
  .mkr "Apart",
  .cls "Through",
  .noat "Through" "test",
  .noat "Through" "deed",
  .noat "Through" "start",
  .meth "Through" "bars",
  .meth "Through" "allows",
  .mkr "Through"]
open He in
/-- what else the head tells: isinstance's answers, the classes of instances, the classes without an own __init__, the inherited methods -/
def isiB (K : PySem.W.Frag) (x y : Str) (b : Bool) : Bool := decide (PySem.W.kitOne K (.ref (He.ga K x)) (.ref (He.ga K y)) = some b)
def ownB (K : PySem.W.Frag) (x : Str) : Bool := He.eqO (PySem.W.findIn K (.ref (He.ga K x)) "__class__") (some (some (.builtin "object.__class__"))) && decide (PySem.W.mroIn K (He.ga K x) (.type "object") = some true)
def allB (K : PySem.W.Frag) : Bool := He.eqO (PySem.W.specialIn K (.builtin "object.__class__") "__get__") (some (some (.builtin "getset_descriptor.__get__"))) && decide (PySem.W.takesIn K (.builtin "object.__class__") = some true)
def noiB (K : PySem.W.Frag) (x : Str) : Bool := PySem.W.makesIn K (He.ga K x) && He.eqO (PySem.W.findIn K (.ref (He.ga K x)) "__init__") (some (some (.builtin "object.__init__")))
def sameB (K : PySem.W.Frag) (x y m : Str) : Bool := decide (He.ma K (He.ga K x) m = He.ma K (He.ga K y) m)
def exs (K : PySem.W.Frag) : List Bool := [allB K,
  isiB K "Skip" "Deed" false,
  isiB K "Skip" "Row" false,
  isiB K "Skip" "Choice" false,
  isiB K "Skip" "Loop" false,
  isiB K "Deed" "Deed" true,
  isiB K "Deed" "Row" false,
  isiB K "Deed" "Choice" false,
  isiB K "Deed" "Loop" false,
  isiB K "Row" "Deed" false,
  isiB K "Row" "Row" true,
  isiB K "Row" "Choice" false,
  isiB K "Row" "Loop" false,
  isiB K "Loop" "Deed" false,
  isiB K "Loop" "Row" false,
  isiB K "Loop" "Choice" false,
  isiB K "Loop" "Loop" true,
  isiB K "Alike" "Alike" true,
  isiB K "Alike" "Apart" false,
  isiB K "Apart" "Alike" false,
  isiB K "Apart" "Apart" true,
  ownB K "Skip",
  ownB K "Deed",
  ownB K "Row",
  ownB K "Loop",
  ownB K "Alike",
  ownB K "Apart",
  noiB K "Yes",
  noiB K "Skip",
  sameB K "Yes" "Test" "mask",
  sameB K "Named" "Test" "mask",
  sameB K "Not" "Test" "mask",
  sameB K "Skip" "Step" "first",
  sameB K "Skip" "Step" "letters",
  sameB K "Through" "Saying" "bars"]
def exB (K : PySem.W.Frag) : Bool := (exs K).all fun b => b
def names : List PySem.Str := [("_wall" : PySem.Str), ("LETTERS" : PySem.Str), ("SETTINGS" : PySem.Str), ("EVERY" : PySem.Str), ("settings_of" : PySem.Str), ("Test" : PySem.Str), ("Yes" : PySem.Str), ("Named" : PySem.Str), ("Not" : PySem.Str), ("DEEDS" : PySem.Str), ("Bonds" : PySem.Str), ("Step" : PySem.Str), ("Skip" : PySem.Str), ("Deed" : PySem.Str), ("Row" : PySem.Str), ("Choice" : PySem.Str), ("Loop" : PySem.Str), ("SIGNS" : PySem.Str), ("numbered" : PySem.Str), ("left_behind" : PySem.Str), ("Rooms" : PySem.Str), ("Sides" : PySem.Str), ("Verdict" : PySem.Str), ("Alike" : PySem.Str), ("Apart" : PySem.Str), ("word_to" : PySem.Str), ("judged" : PySem.Str), ("Saying" : PySem.Str), ("Through" : PySem.Str), ("_law_cell_at" : PySem.Str), ("_law_round" : PySem.Str), ("_law_table" : PySem.Str), ("_law_told" : PySem.Str), ("_law_parted" : PySem.Str)]
end K98
set_option Elab.async false
set_option linter.all false
set_option maxRecDepth 100000
set_option maxHeartbeats 0
/-! the head: the top's run, what the Hook tells -/
namespace K98
open PySem PySem.Spec PyProof.Rows L2
/-- He's facts and one more Bool -/
def obsM (K : PySem.W.Frag) : He.AlD := ((He.obsD fa fn K).1 && exB K, (He.obsD fa fn K).2)
def obsMG (g : Addr → Option Obj) : He.AlD := obsM (He.frG g (He.asD g 5))
def hk : PySem.W.Hook where
  α := He.AlD
  obs := fun s => obsMG s.heap.get?
  val := fun _ => He.valD fn
  says := fun _ h => ∃ K : PySem.W.Frag, K.In h ∧ obsM K = He.valD fn
  of := fun _ _ e => ⟨_, He.frG_in, e⟩
  keeps := fun _ _ _ ⟨K, hK, c⟩ k => ⟨K, PySem.W.Frag.In.keeps hK k, c⟩
def ob (s : PySem.W.SharedT) : He.AlD := obsMG (HandSHeadRun.getT s)
theorem ob_eq (s : PySem.W.SharedT) : ob s = hk.obs s.abs := by
  have e : HandSHeadRun.getT s = s.abs.heap.get? := funext (HandSHeadRun.getT_eq s)
  show obsMG (HandSHeadRun.getT s) = obsMG s.abs.heap.get?
  rw [e]
abbrev R : PySem.W.OpenRow := PySem.W.OpenLaw.row PySem.Challenge.rw_anymeaning_k98_whole_loops_of_unlike_len
abbrev qv : Program := PySem.W.view R.prog [41]
theorem run (w : World) : HandSHeadRun.RunEq R qv hk ob 30000 names w := by
  intro os
  kernel_rfl
theorem saysD_of {K : PySem.W.Frag} (e : obsM K = He.valD fn) : He.SaysD fa fn K ∧ exB K = true := by
  have h1 : ((He.obsD fa fn K).1 && exB K) = true := congrArg (fun z : He.AlD => z.1) e
  have h2 : (He.obsD fa fn K).2 = fn.map He.DefD.val := congrArg (fun z : He.AlD => z.2) e
  obtain ⟨h3, h4⟩ := He.ba h1
  exact ⟨Prod.ext h3 h2, h4⟩
end K98
set_option Elab.async false
set_option linter.all false
set_option maxRecDepth 100000
set_option maxHeartbeats 4000000
/-! the head's facts by names (printed by gen_base.py) -/
namespace K98
open PySem PySem.Spec PyProof.Rows L2 SX
/-- a def as it stands behind the top, its parameters bound by place -/
structure Fn (K : PySem.W.Frag) (x qual : Str) (st : Stmt) (ps : List Str) (f : Addr) : Prop where
  ex : ∃ fd, L2.Fun K x qual st f fd ∧ Binds K fd ps []
structure IsiF (K : PySem.W.Frag) (x y : Str) (b : Bool) : Prop where
  eq : PySem.W.kitOne K (.ref (He.ga K x)) (.ref (He.ga K y)) = some b
structure OwnF (K : PySem.W.Frag) (x : Str) : Prop where
  cl : PySem.W.findIn K (.ref (He.ga K x)) "__class__" = some (some (.builtin "object.__class__"))
  mro : PySem.W.mroIn K (He.ga K x) (.type "object") = some true
structure AllF (K : PySem.W.Frag) : Prop where
  get : PySem.W.specialIn K (.builtin "object.__class__") "__get__" = some (some (.builtin "getset_descriptor.__get__"))
  tk : PySem.W.takesIn K (.builtin "object.__class__") = some true
structure NoiF (K : PySem.W.Frag) (x : Str) : Prop where
  made : PySem.W.makesIn K (He.ga K x) = true
  ini : PySem.W.findIn K (.ref (He.ga K x)) "__init__" = some (some (.builtin "object.__init__"))
structure T (K : PySem.W.Frag) (mg : Str → Option Value) : Prop where
  g_settings_of : mg "settings_of" = some (.ref (He.ga K "settings_of"))
  g_numbered : mg "numbered" = some (.ref (He.ga K "numbered"))
  g_left_behind : mg "left_behind" = some (.ref (He.ga K "left_behind"))
  g_word_to : mg "word_to" = some (.ref (He.ga K "word_to"))
  g_judged : mg "judged" = some (.ref (He.ga K "judged"))
  g_cell_at : mg "_law_cell_at" = some (.ref (He.ga K "_law_cell_at"))
  g_round : mg "_law_round" = some (.ref (He.ga K "_law_round"))
  g_table : mg "_law_table" = some (.ref (He.ga K "_law_table"))
  g_told : mg "_law_told" = some (.ref (He.ga K "_law_told"))
  g_parted : mg "_law_parted" = some (.ref (He.ga K "_law_parted"))
  g_law : mg "law" = some (.ref (He.ga K "law"))
  gc_Yes : mg "Yes" = some (.ref (He.ga K "Yes"))
  gc_Named : mg "Named" = some (.ref (He.ga K "Named"))
  gc_Not : mg "Not" = some (.ref (He.ga K "Not"))
  gc_Bonds : mg "Bonds" = some (.ref (He.ga K "Bonds"))
  gc_Skip : mg "Skip" = some (.ref (He.ga K "Skip"))
  gc_Deed : mg "Deed" = some (.ref (He.ga K "Deed"))
  gc_Row : mg "Row" = some (.ref (He.ga K "Row"))
  gc_Loop : mg "Loop" = some (.ref (He.ga K "Loop"))
  gc_Rooms : mg "Rooms" = some (.ref (He.ga K "Rooms"))
  gc_Sides : mg "Sides" = some (.ref (He.ga K "Sides"))
  gc_Alike : mg "Alike" = some (.ref (He.ga K "Alike"))
  gc_Apart : mg "Apart" = some (.ref (He.ga K "Apart"))
  gc_Through : mg "Through" = some (.ref (He.ga K "Through"))
  gc_Choice : mg "Choice" = some (.ref (He.ga K "Choice"))
  f_range : mg "range" = none
  f_any : mg "any" = none
  f_all : mg "all" = none
  f_len : mg "len" = none
  f_list : mg "list" = none
  f_sorted : mg "sorted" = none
  f_isinstance : mg "isinstance" = none
  f_zip : mg "zip" = none
  f_min : mg "min" = none
  i_SETTINGS : ∃ t, mg "SETTINGS" = some (.int 16 t)
  i_EVERY : ∃ t, mg "EVERY" = some (.int 65535 t)
  s_LETTERS : ∃ t, mg "LETTERS" = some (.str "abcd" t)
  s_DEEDS : ∃ t, mg "DEEDS" = some (.str "PQRST" t)
  s_SIGNS : ∃ t, mg "SIGNS" = some (.str "0123456789AB" t)
  c_Yes : Cls K (He.ga K "Yes")
  m_Yes_holds : Meth K (He.ga K "Yes") "holds" (He.ma K (He.ga K "Yes") "holds")
  m_Yes_mask : Meth K (He.ga K "Yes") "mask" (He.ma K (He.ga K "Yes") "mask")
  k_Yes : PySem.W.keepIn K (.ref (He.ga K "Yes")) = true
  c_Named : Cls K (He.ga K "Named")
  n_Named_name : NoAttr K (He.ga K "Named") "name"
  m_Named_holds : Meth K (He.ga K "Named") "holds" (He.ma K (He.ga K "Named") "holds")
  m_Named_mask : Meth K (He.ga K "Named") "mask" (He.ma K (He.ga K "Named") "mask")
  mk_Named : Mk K (He.ga K "Named") (He.ma K (He.ga K "Named") "__init__")
  c_Not : Cls K (He.ga K "Not")
  n_Not_inner : NoAttr K (He.ga K "Not") "inner"
  m_Not_holds : Meth K (He.ga K "Not") "holds" (He.ma K (He.ga K "Not") "holds")
  m_Not_mask : Meth K (He.ga K "Not") "mask" (He.ma K (He.ga K "Not") "mask")
  mk_Not : Mk K (He.ga K "Not") (He.ma K (He.ga K "Not") "__init__")
  c_Bonds : Cls K (He.ga K "Bonds")
  n_Bonds_kept : NoAttr K (He.ga K "Bonds") "kept"
  n_Bonds_let : NoAttr K (He.ga K "Bonds") "let"
  m_Bonds_let_by : Meth K (He.ga K "Bonds") "let_by" (He.ma K (He.ga K "Bonds") "let_by")
  m_Bonds_narrowed : Meth K (He.ga K "Bonds") "narrowed" (He.ma K (He.ga K "Bonds") "narrowed")
  m_Bonds_good : Meth K (He.ga K "Bonds") "good" (He.ma K (He.ga K "Bonds") "good")
  m_Bonds_ways : Meth K (He.ga K "Bonds") "ways" (He.ma K (He.ga K "Bonds") "ways")
  mk_Bonds : Mk K (He.ga K "Bonds") (He.ma K (He.ga K "Bonds") "__init__")
  c_Skip : Cls K (He.ga K "Skip")
  m_Skip_first : Meth K (He.ga K "Skip") "first" (He.ma K (He.ga K "Skip") "first")
  m_Skip_letters : Meth K (He.ga K "Skip") "letters" (He.ma K (He.ga K "Skip") "letters")
  k_Skip : PySem.W.keepIn K (.ref (He.ga K "Skip")) = true
  c_Deed : Cls K (He.ga K "Deed")
  n_Deed_name : NoAttr K (He.ga K "Deed") "name"
  m_Deed_first : Meth K (He.ga K "Deed") "first" (He.ma K (He.ga K "Deed") "first")
  m_Deed_letters : Meth K (He.ga K "Deed") "letters" (He.ma K (He.ga K "Deed") "letters")
  mk_Deed : Mk K (He.ga K "Deed") (He.ma K (He.ga K "Deed") "__init__")
  c_Row : Cls K (He.ga K "Row")
  n_Row_head : NoAttr K (He.ga K "Row") "head"
  n_Row_tail : NoAttr K (He.ga K "Row") "tail"
  m_Row_first : Meth K (He.ga K "Row") "first" (He.ma K (He.ga K "Row") "first")
  m_Row_letters : Meth K (He.ga K "Row") "letters" (He.ma K (He.ga K "Row") "letters")
  mk_Row : Mk K (He.ga K "Row") (He.ma K (He.ga K "Row") "__init__")
  c_Loop : Cls K (He.ga K "Loop")
  n_Loop_test : NoAttr K (He.ga K "Loop") "test"
  n_Loop_body : NoAttr K (He.ga K "Loop") "body"
  m_Loop_first : Meth K (He.ga K "Loop") "first" (He.ma K (He.ga K "Loop") "first")
  m_Loop_letters : Meth K (He.ga K "Loop") "letters" (He.ma K (He.ga K "Loop") "letters")
  mk_Loop : Mk K (He.ga K "Loop") (He.ma K (He.ga K "Loop") "__init__")
  c_Rooms : Cls K (He.ga K "Rooms")
  n_Rooms_step : NoAttr K (He.ga K "Rooms") "step"
  n_Rooms_doors : NoAttr K (He.ga K "Rooms") "doors"
  mk_Rooms : Mk K (He.ga K "Rooms") (He.ma K (He.ga K "Rooms") "__init__")
  c_Sides : Cls K (He.ga K "Sides")
  n_Sides_ones : NoAttr K (He.ga K "Sides") "ones"
  n_Sides_others : NoAttr K (He.ga K "Sides") "others"
  n_Sides_bonds : NoAttr K (He.ga K "Sides") "bonds"
  n_Sides_begin : NoAttr K (He.ga K "Sides") "begin"
  m_Sides_both_at : Meth K (He.ga K "Sides") "both_at" (He.ma K (He.ga K "Sides") "both_at")
  m_Sides_come_behind : Meth K (He.ga K "Sides") "come_behind" (He.ma K (He.ga K "Sides") "come_behind")
  m_Sides_is_fine : Meth K (He.ga K "Sides") "is_fine" (He.ma K (He.ga K "Sides") "is_fine")
  mk_Sides : Mk K (He.ga K "Sides") (He.ma K (He.ga K "Sides") "__init__")
  c_Alike : Cls K (He.ga K "Alike")
  n_Alike_table : NoAttr K (He.ga K "Alike") "table"
  m_Alike_stands : Meth K (He.ga K "Alike") "stands" (He.ma K (He.ga K "Alike") "stands")
  mk_Alike : Mk K (He.ga K "Alike") (He.ma K (He.ga K "Alike") "__init__")
  c_Apart : Cls K (He.ga K "Apart")
  n_Apart_settings : NoAttr K (He.ga K "Apart") "settings"
  n_Apart_deeds : NoAttr K (He.ga K "Apart") "deeds"
  m_Apart_stands : Meth K (He.ga K "Apart") "stands" (He.ma K (He.ga K "Apart") "stands")
  mk_Apart : Mk K (He.ga K "Apart") (He.ma K (He.ga K "Apart") "__init__")
  c_Through : Cls K (He.ga K "Through")
  n_Through_test : NoAttr K (He.ga K "Through") "test"
  n_Through_deed : NoAttr K (He.ga K "Through") "deed"
  n_Through_start : NoAttr K (He.ga K "Through") "start"
  m_Through_bars : Meth K (He.ga K "Through") "bars" (He.ma K (He.ga K "Through") "bars")
  m_Through_allows : Meth K (He.ga K "Through") "allows" (He.ma K (He.ga K "Through") "allows")
  mk_Through : Mk K (He.ga K "Through") (He.ma K (He.ga K "Through") "__init__")
  d_settings_of : Fn K "settings_of" "settings_of" st_settings_of ["mask"] (He.ga K "settings_of")
  d_Test_mask : Fn K "mask" "Test.mask" st_Test_mask ["self"] (He.ma K (He.ga K "Test") "mask")
  d_Yes_holds : Fn K "holds" "Yes.holds" st_Yes_holds ["self", "setting"] (He.ma K (He.ga K "Yes") "holds")
  d_Named_init : Fn K "__init__" "Named.__init__" st_Named_init ["self", "name"] (He.ma K (He.ga K "Named") "__init__")
  d_Named_holds : Fn K "holds" "Named.holds" st_Named_holds ["self", "setting"] (He.ma K (He.ga K "Named") "holds")
  d_Not_init : Fn K "__init__" "Not.__init__" st_Not_init ["self", "inner"] (He.ma K (He.ga K "Not") "__init__")
  d_Not_holds : Fn K "holds" "Not.holds" st_Not_holds ["self", "setting"] (He.ma K (He.ga K "Not") "holds")
  d_Bonds_init : Fn K "__init__" "Bonds.__init__" st_Bonds_init ["self", "sayings"] (He.ma K (He.ga K "Bonds") "__init__")
  d_Bonds_let_by : Fn K "let_by" "Bonds.let_by" st_Bonds_let_by ["self", "sayings", "deed", "setting"] (He.ma K (He.ga K "Bonds") "let_by")
  d_Bonds_narrowed : Fn K "narrowed" "Bonds.narrowed" st_Bonds_narrowed ["self"] (He.ma K (He.ga K "Bonds") "narrowed")
  d_Bonds_good : Fn K "good" "Bonds.good" st_Bonds_good ["self"] (He.ma K (He.ga K "Bonds") "good")
  d_Bonds_ways : Fn K "ways" "Bonds.ways" st_Bonds_ways ["self", "deed", "setting"] (He.ma K (He.ga K "Bonds") "ways")
  d_Step_first : Fn K "first" "Step.first" st_Step_first ["self", "setting"] (He.ma K (He.ga K "Step") "first")
  d_Step_letters : Fn K "letters" "Step.letters" st_Step_letters ["self"] (He.ma K (He.ga K "Step") "letters")
  d_Deed_init : Fn K "__init__" "Deed.__init__" st_Deed_init ["self", "name"] (He.ma K (He.ga K "Deed") "__init__")
  d_Deed_first : Fn K "first" "Deed.first" st_Deed_first ["self", "setting"] (He.ma K (He.ga K "Deed") "first")
  d_Deed_letters : Fn K "letters" "Deed.letters" st_Deed_letters ["self"] (He.ma K (He.ga K "Deed") "letters")
  d_Row_init : Fn K "__init__" "Row.__init__" st_Row_init ["self", "head", "tail"] (He.ma K (He.ga K "Row") "__init__")
  d_Row_first : Fn K "first" "Row.first" st_Row_first ["self", "setting"] (He.ma K (He.ga K "Row") "first")
  d_Row_letters : Fn K "letters" "Row.letters" st_Row_letters ["self"] (He.ma K (He.ga K "Row") "letters")
  d_Loop_init : Fn K "__init__" "Loop.__init__" st_Loop_init ["self", "test", "body"] (He.ma K (He.ga K "Loop") "__init__")
  d_Loop_first : Fn K "first" "Loop.first" st_Loop_first ["self", "setting"] (He.ma K (He.ga K "Loop") "first")
  d_Loop_letters : Fn K "letters" "Loop.letters" st_Loop_letters ["self"] (He.ma K (He.ga K "Loop") "letters")
  d_numbered : Fn K "numbered" "numbered" st_numbered ["step", "at"] (He.ga K "numbered")
  d_left_behind : Fn K "left_behind" "left_behind" st_left_behind ["step", "k"] (He.ga K "left_behind")
  d_Rooms_init : Fn K "__init__" "Rooms.__init__" st_Rooms_init ["self", "step"] (He.ma K (He.ga K "Rooms") "__init__")
  d_Sides_init : Fn K "__init__" "Sides.__init__" st_Sides_init ["self", "one", "other", "sayings"] (He.ma K (He.ga K "Sides") "__init__")
  d_Sides_both_at : Fn K "both_at" "Sides.both_at" st_Sides_both_at ["self", "triple"] (He.ma K (He.ga K "Sides") "both_at")
  d_Sides_come_behind : Fn K "come_behind" "Sides.come_behind" st_Sides_come_behind ["self", "triple"] (He.ma K (He.ga K "Sides") "come_behind")
  d_Sides_is_fine : Fn K "is_fine" "Sides.is_fine" st_Sides_is_fine ["self", "triple", "masks"] (He.ma K (He.ga K "Sides") "is_fine")
  d_Alike_init : Fn K "__init__" "Alike.__init__" st_Alike_init ["self", "table"] (He.ma K (He.ga K "Alike") "__init__")
  d_Alike_stands : Fn K "stands" "Alike.stands" st_Alike_stands ["self", "one", "other", "sayings"] (He.ma K (He.ga K "Alike") "stands")
  d_Apart_init : Fn K "__init__" "Apart.__init__" st_Apart_init ["self", "settings", "deeds"] (He.ma K (He.ga K "Apart") "__init__")
  d_Apart_stands : Fn K "stands" "Apart.stands" st_Apart_stands ["self", "one", "other", "sayings"] (He.ma K (He.ga K "Apart") "stands")
  d_word_to : Fn K "word_to" "word_to" st_word_to ["sides", "came", "triple"] (He.ga K "word_to")
  d_judged : Fn K "judged" "judged" st_judged ["one", "other", "sayings"] (He.ga K "judged")
  d_Saying_bars : Fn K "bars" "Saying.bars" st_Saying_bars ["self", "setting"] (He.ma K (He.ga K "Saying") "bars")
  d_Through_init : Fn K "__init__" "Through.__init__" st_Through_init ["self", "test", "deed"] (He.ma K (He.ga K "Through") "__init__")
  d_Through_allows : Fn K "allows" "Through.allows" st_Through_allows ["self", "deed", "setting"] (He.ma K (He.ga K "Through") "allows")
  d_cell_at : Fn K "_law_cell_at" "_law_cell_at" st_cell_at ["_law_script", "_law_k"] (He.ga K "_law_cell_at")
  d_round : Fn K "_law_round" "_law_round" st_round ["_law_test", "_law_letter", "_law_many", "_law_right"] (He.ga K "_law_round")
  d_table : Fn K "_law_table" "_law_table" st_table ["_law_first", "_law_second", "_law_mask"] (He.ga K "_law_table")
  d_told : Fn K "_law_told" "_law_told" st_told ["_law_found", "_law_rows"] (He.ga K "_law_told")
  d_parted : Fn K "_law_parted" "_law_parted" st_parted ["_law_found", "_law_letter", "_law_many", "_law_mask"] (He.ga K "_law_parted")
  d_law : Fn K "law" "law" st_law ["_law_script"] (He.ga K "law")
  all : AllF K
  isi_Skip_Deed : IsiF K "Skip" "Deed" false
  isi_Skip_Row : IsiF K "Skip" "Row" false
  isi_Skip_Choice : IsiF K "Skip" "Choice" false
  isi_Skip_Loop : IsiF K "Skip" "Loop" false
  isi_Deed_Deed : IsiF K "Deed" "Deed" true
  isi_Deed_Row : IsiF K "Deed" "Row" false
  isi_Deed_Choice : IsiF K "Deed" "Choice" false
  isi_Deed_Loop : IsiF K "Deed" "Loop" false
  isi_Row_Deed : IsiF K "Row" "Deed" false
  isi_Row_Row : IsiF K "Row" "Row" true
  isi_Row_Choice : IsiF K "Row" "Choice" false
  isi_Row_Loop : IsiF K "Row" "Loop" false
  isi_Loop_Deed : IsiF K "Loop" "Deed" false
  isi_Loop_Row : IsiF K "Loop" "Row" false
  isi_Loop_Choice : IsiF K "Loop" "Choice" false
  isi_Loop_Loop : IsiF K "Loop" "Loop" true
  isi_Alike_Alike : IsiF K "Alike" "Alike" true
  isi_Alike_Apart : IsiF K "Alike" "Apart" false
  isi_Apart_Alike : IsiF K "Apart" "Alike" false
  isi_Apart_Apart : IsiF K "Apart" "Apart" true
  own_Skip : OwnF K "Skip"
  own_Deed : OwnF K "Deed"
  own_Row : OwnF K "Row"
  own_Loop : OwnF K "Loop"
  own_Alike : OwnF K "Alike"
  own_Apart : OwnF K "Apart"
  noi_Yes : NoiF K "Yes"
  noi_Skip : NoiF K "Skip"
  same_Yes_mask : He.ma K (He.ga K "Yes") "mask" = He.ma K (He.ga K "Test") "mask"
  same_Named_mask : He.ma K (He.ga K "Named") "mask" = He.ma K (He.ga K "Test") "mask"
  same_Not_mask : He.ma K (He.ga K "Not") "mask" = He.ma K (He.ga K "Test") "mask"
  same_Skip_first : He.ma K (He.ga K "Skip") "first" = He.ma K (He.ga K "Step") "first"
  same_Skip_letters : He.ma K (He.ga K "Skip") "letters" = He.ma K (He.ga K "Step") "letters"
  same_Through_bars : He.ma K (He.ga K "Through") "bars" = He.ma K (He.ga K "Saying") "bars"
theorem ex_at {K : PySem.W.Frag} (h : exB K = true) (i : Nat) {b : Bool} (e : (exs K)[i]? = some b := by rfl) : b = true := List.all_eq_true.mp h b (List.mem_of_getElem? e)
theorem isiB_ok {K : PySem.W.Frag} {x y : Str} {b : Bool} (h : isiB K x y b = true) : IsiF K x y b := ⟨of_decide_eq_true h⟩
theorem ownB_ok {K : PySem.W.Frag} {x : Str} (h : ownB K x = true) : OwnF K x := let ⟨a, b⟩ := He.ba h; ⟨He.eqO_ok a, of_decide_eq_true b⟩
theorem allB_ok {K : PySem.W.Frag} (h : allB K = true) : AllF K := let ⟨a, b⟩ := He.ba h; ⟨He.eqO_ok a, of_decide_eq_true b⟩
theorem noiB_ok {K : PySem.W.Frag} {x : Str} (h : noiB K x = true) : NoiF K x := let ⟨a, b⟩ := He.ba h; ⟨a, He.eqO_ok b⟩
theorem fn_of_dd {K : PySem.W.Frag} {x q : Str} {st : Stmt} {f : Addr} {ps : List Str} (e : ∃ fd, FunD K x q (defArgs st) (defBody st) (defScope st) [] [] f fd)
    (h : ∀ (kV doc pm : Value) (an : Option Addr) (cdv ct : Value) (us : List Value), us.length = ps.length → bindArgs (PySem.W.fnOf x q (defArgs st) (defBody st) (defScope st) .none kV doc pm an cdv ct) ⟨us, []⟩ = pure (ps.zip us)) : Fn K x q st ps f := by
  obtain ⟨fd, F'⟩ := e
  obtain ⟨oc, od, dV, kV, doc, pm, an, cdv, ct, osl, e1, lk, cd, dv, _⟩ := F'.ex
  have kp := F'.kp
  have d0 : dV = .none := by
    rcases dv with ⟨_, z⟩ | ⟨z, _⟩
    · exact z
    · exact absurd rfl z
  subst d0
  have FF : L2.Fun K x q st f fd := ⟨⟨oc, od, kV, doc, pm, an, cdv, ct, osl, e1, lk, cd⟩, kp⟩
  exact ⟨fd, FF, FF.binds h⟩
theorem t_of {K : PySem.W.Frag} {h : Heap} {mg : Str → Option Value} (X : K.In h) (G : h.Ns mainGlobals mg) (c : He.SaysD fa fn K) (ex : exB K = true) : T K mg where
  g_settings_of := He.glo_ok X G (c.fact 0)
  g_numbered := He.glo_ok X G (c.fact 1)
  g_left_behind := He.glo_ok X G (c.fact 2)
  g_word_to := He.glo_ok X G (c.fact 3)
  g_judged := He.glo_ok X G (c.fact 4)
  g_cell_at := He.glo_ok X G (c.fact 5)
  g_round := He.glo_ok X G (c.fact 6)
  g_table := He.glo_ok X G (c.fact 7)
  g_told := He.glo_ok X G (c.fact 8)
  g_parted := He.glo_ok X G (c.fact 9)
  g_law := He.glo_ok X G (c.fact 10)
  gc_Yes := He.glo_ok X G (c.fact 11)
  gc_Named := He.glo_ok X G (c.fact 12)
  gc_Not := He.glo_ok X G (c.fact 13)
  gc_Bonds := He.glo_ok X G (c.fact 14)
  gc_Skip := He.glo_ok X G (c.fact 15)
  gc_Deed := He.glo_ok X G (c.fact 16)
  gc_Row := He.glo_ok X G (c.fact 17)
  gc_Loop := He.glo_ok X G (c.fact 18)
  gc_Rooms := He.glo_ok X G (c.fact 19)
  gc_Sides := He.glo_ok X G (c.fact 20)
  gc_Alike := He.glo_ok X G (c.fact 21)
  gc_Apart := He.glo_ok X G (c.fact 22)
  gc_Through := He.glo_ok X G (c.fact 23)
  gc_Choice := He.glo_ok X G (c.fact 24)
  f_range := He.free_ok X G (c.fact 25)
  f_any := He.free_ok X G (c.fact 26)
  f_all := He.free_ok X G (c.fact 27)
  f_len := He.free_ok X G (c.fact 28)
  f_list := He.free_ok X G (c.fact 29)
  f_sorted := He.free_ok X G (c.fact 30)
  f_isinstance := He.free_ok X G (c.fact 31)
  f_zip := He.free_ok X G (c.fact 32)
  f_min := He.free_ok X G (c.fact 33)
  i_SETTINGS := He.int_ok X G (c.fact 34)
  i_EVERY := He.int_ok X G (c.fact 35)
  s_LETTERS := He.str_ok X G (c.fact 36)
  s_DEEDS := He.str_ok X G (c.fact 37)
  s_SIGNS := He.str_ok X G (c.fact 38)
  c_Yes := He.cls_ok (c.fact 39)
  m_Yes_holds := He.meth_ok (c.fact 40)
  m_Yes_mask := He.meth_ok (c.fact 41)
  k_Yes := He.keep_ok (c.fact 42)
  c_Named := He.cls_ok (c.fact 43)
  n_Named_name := He.noat_ok (c.fact 44)
  m_Named_holds := He.meth_ok (c.fact 45)
  m_Named_mask := He.meth_ok (c.fact 46)
  mk_Named := He.mkr_ok (c.fact 47)
  c_Not := He.cls_ok (c.fact 48)
  n_Not_inner := He.noat_ok (c.fact 49)
  m_Not_holds := He.meth_ok (c.fact 50)
  m_Not_mask := He.meth_ok (c.fact 51)
  mk_Not := He.mkr_ok (c.fact 52)
  c_Bonds := He.cls_ok (c.fact 53)
  n_Bonds_kept := He.noat_ok (c.fact 54)
  n_Bonds_let := He.noat_ok (c.fact 55)
  m_Bonds_let_by := He.meth_ok (c.fact 56)
  m_Bonds_narrowed := He.meth_ok (c.fact 57)
  m_Bonds_good := He.meth_ok (c.fact 58)
  m_Bonds_ways := He.meth_ok (c.fact 59)
  mk_Bonds := He.mkr_ok (c.fact 60)
  c_Skip := He.cls_ok (c.fact 61)
  m_Skip_first := He.meth_ok (c.fact 62)
  m_Skip_letters := He.meth_ok (c.fact 63)
  k_Skip := He.keep_ok (c.fact 64)
  c_Deed := He.cls_ok (c.fact 65)
  n_Deed_name := He.noat_ok (c.fact 66)
  m_Deed_first := He.meth_ok (c.fact 67)
  m_Deed_letters := He.meth_ok (c.fact 68)
  mk_Deed := He.mkr_ok (c.fact 69)
  c_Row := He.cls_ok (c.fact 70)
  n_Row_head := He.noat_ok (c.fact 71)
  n_Row_tail := He.noat_ok (c.fact 72)
  m_Row_first := He.meth_ok (c.fact 73)
  m_Row_letters := He.meth_ok (c.fact 74)
  mk_Row := He.mkr_ok (c.fact 75)
  c_Loop := He.cls_ok (c.fact 76)
  n_Loop_test := He.noat_ok (c.fact 77)
  n_Loop_body := He.noat_ok (c.fact 78)
  m_Loop_first := He.meth_ok (c.fact 79)
  m_Loop_letters := He.meth_ok (c.fact 80)
  mk_Loop := He.mkr_ok (c.fact 81)
  c_Rooms := He.cls_ok (c.fact 82)
  n_Rooms_step := He.noat_ok (c.fact 83)
  n_Rooms_doors := He.noat_ok (c.fact 84)
  mk_Rooms := He.mkr_ok (c.fact 85)
  c_Sides := He.cls_ok (c.fact 86)
  n_Sides_ones := He.noat_ok (c.fact 87)
  n_Sides_others := He.noat_ok (c.fact 88)
  n_Sides_bonds := He.noat_ok (c.fact 89)
  n_Sides_begin := He.noat_ok (c.fact 90)
  m_Sides_both_at := He.meth_ok (c.fact 91)
  m_Sides_come_behind := He.meth_ok (c.fact 92)
  m_Sides_is_fine := He.meth_ok (c.fact 93)
  mk_Sides := He.mkr_ok (c.fact 94)
  c_Alike := He.cls_ok (c.fact 95)
  n_Alike_table := He.noat_ok (c.fact 96)
  m_Alike_stands := He.meth_ok (c.fact 97)
  mk_Alike := He.mkr_ok (c.fact 98)
  c_Apart := He.cls_ok (c.fact 99)
  n_Apart_settings := He.noat_ok (c.fact 100)
  n_Apart_deeds := He.noat_ok (c.fact 101)
  m_Apart_stands := He.meth_ok (c.fact 102)
  mk_Apart := He.mkr_ok (c.fact 103)
  c_Through := He.cls_ok (c.fact 104)
  n_Through_test := He.noat_ok (c.fact 105)
  n_Through_deed := He.noat_ok (c.fact 106)
  n_Through_start := He.noat_ok (c.fact 107)
  m_Through_bars := He.meth_ok (c.fact 108)
  m_Through_allows := He.meth_ok (c.fact 109)
  mk_Through := He.mkr_ok (c.fact 110)
  d_settings_of := fn_of_dd (c.def_ 0 (d := dd_settings_of)) (fun _ _ _ _ _ _ us hl => match us, hl with | [_], _ => rfl)
  d_Test_mask := fn_of_dd (c.def_ 1 (d := dd_Test_mask)) (fun _ _ _ _ _ _ us hl => match us, hl with | [_], _ => rfl)
  d_Yes_holds := fn_of_dd (c.def_ 2 (d := dd_Yes_holds)) (fun _ _ _ _ _ _ us hl => match us, hl with | [_, _], _ => rfl)
  d_Named_init := fn_of_dd (c.def_ 3 (d := dd_Named_init)) (fun _ _ _ _ _ _ us hl => match us, hl with | [_, _], _ => rfl)
  d_Named_holds := fn_of_dd (c.def_ 4 (d := dd_Named_holds)) (fun _ _ _ _ _ _ us hl => match us, hl with | [_, _], _ => rfl)
  d_Not_init := fn_of_dd (c.def_ 5 (d := dd_Not_init)) (fun _ _ _ _ _ _ us hl => match us, hl with | [_, _], _ => rfl)
  d_Not_holds := fn_of_dd (c.def_ 6 (d := dd_Not_holds)) (fun _ _ _ _ _ _ us hl => match us, hl with | [_, _], _ => rfl)
  d_Bonds_init := fn_of_dd (c.def_ 7 (d := dd_Bonds_init)) (fun _ _ _ _ _ _ us hl => match us, hl with | [_, _], _ => rfl)
  d_Bonds_let_by := fn_of_dd (c.def_ 8 (d := dd_Bonds_let_by)) (fun _ _ _ _ _ _ us hl => match us, hl with | [_, _, _, _], _ => rfl)
  d_Bonds_narrowed := fn_of_dd (c.def_ 9 (d := dd_Bonds_narrowed)) (fun _ _ _ _ _ _ us hl => match us, hl with | [_], _ => rfl)
  d_Bonds_good := fn_of_dd (c.def_ 10 (d := dd_Bonds_good)) (fun _ _ _ _ _ _ us hl => match us, hl with | [_], _ => rfl)
  d_Bonds_ways := fn_of_dd (c.def_ 11 (d := dd_Bonds_ways)) (fun _ _ _ _ _ _ us hl => match us, hl with | [_, _, _], _ => rfl)
  d_Step_first := fn_of_dd (c.def_ 12 (d := dd_Step_first)) (fun _ _ _ _ _ _ us hl => match us, hl with | [_, _], _ => rfl)
  d_Step_letters := fn_of_dd (c.def_ 13 (d := dd_Step_letters)) (fun _ _ _ _ _ _ us hl => match us, hl with | [_], _ => rfl)
  d_Deed_init := fn_of_dd (c.def_ 14 (d := dd_Deed_init)) (fun _ _ _ _ _ _ us hl => match us, hl with | [_, _], _ => rfl)
  d_Deed_first := fn_of_dd (c.def_ 15 (d := dd_Deed_first)) (fun _ _ _ _ _ _ us hl => match us, hl with | [_, _], _ => rfl)
  d_Deed_letters := fn_of_dd (c.def_ 16 (d := dd_Deed_letters)) (fun _ _ _ _ _ _ us hl => match us, hl with | [_], _ => rfl)
  d_Row_init := fn_of_dd (c.def_ 17 (d := dd_Row_init)) (fun _ _ _ _ _ _ us hl => match us, hl with | [_, _, _], _ => rfl)
  d_Row_first := fn_of_dd (c.def_ 18 (d := dd_Row_first)) (fun _ _ _ _ _ _ us hl => match us, hl with | [_, _], _ => rfl)
  d_Row_letters := fn_of_dd (c.def_ 19 (d := dd_Row_letters)) (fun _ _ _ _ _ _ us hl => match us, hl with | [_], _ => rfl)
  d_Loop_init := fn_of_dd (c.def_ 20 (d := dd_Loop_init)) (fun _ _ _ _ _ _ us hl => match us, hl with | [_, _, _], _ => rfl)
  d_Loop_first := fn_of_dd (c.def_ 21 (d := dd_Loop_first)) (fun _ _ _ _ _ _ us hl => match us, hl with | [_, _], _ => rfl)
  d_Loop_letters := fn_of_dd (c.def_ 22 (d := dd_Loop_letters)) (fun _ _ _ _ _ _ us hl => match us, hl with | [_], _ => rfl)
  d_numbered := fn_of_dd (c.def_ 23 (d := dd_numbered)) (fun _ _ _ _ _ _ us hl => match us, hl with | [_, _], _ => rfl)
  d_left_behind := fn_of_dd (c.def_ 24 (d := dd_left_behind)) (fun _ _ _ _ _ _ us hl => match us, hl with | [_, _], _ => rfl)
  d_Rooms_init := fn_of_dd (c.def_ 25 (d := dd_Rooms_init)) (fun _ _ _ _ _ _ us hl => match us, hl with | [_, _], _ => rfl)
  d_Sides_init := fn_of_dd (c.def_ 26 (d := dd_Sides_init)) (fun _ _ _ _ _ _ us hl => match us, hl with | [_, _, _, _], _ => rfl)
  d_Sides_both_at := fn_of_dd (c.def_ 27 (d := dd_Sides_both_at)) (fun _ _ _ _ _ _ us hl => match us, hl with | [_, _], _ => rfl)
  d_Sides_come_behind := fn_of_dd (c.def_ 28 (d := dd_Sides_come_behind)) (fun _ _ _ _ _ _ us hl => match us, hl with | [_, _], _ => rfl)
  d_Sides_is_fine := fn_of_dd (c.def_ 29 (d := dd_Sides_is_fine)) (fun _ _ _ _ _ _ us hl => match us, hl with | [_, _, _], _ => rfl)
  d_Alike_init := fn_of_dd (c.def_ 30 (d := dd_Alike_init)) (fun _ _ _ _ _ _ us hl => match us, hl with | [_, _], _ => rfl)
  d_Alike_stands := fn_of_dd (c.def_ 31 (d := dd_Alike_stands)) (fun _ _ _ _ _ _ us hl => match us, hl with | [_, _, _, _], _ => rfl)
  d_Apart_init := fn_of_dd (c.def_ 32 (d := dd_Apart_init)) (fun _ _ _ _ _ _ us hl => match us, hl with | [_, _, _], _ => rfl)
  d_Apart_stands := fn_of_dd (c.def_ 33 (d := dd_Apart_stands)) (fun _ _ _ _ _ _ us hl => match us, hl with | [_, _, _, _], _ => rfl)
  d_word_to := fn_of_dd (c.def_ 34 (d := dd_word_to)) (fun _ _ _ _ _ _ us hl => match us, hl with | [_, _, _], _ => rfl)
  d_judged := fn_of_dd (c.def_ 35 (d := dd_judged)) (fun _ _ _ _ _ _ us hl => match us, hl with | [_, _, _], _ => rfl)
  d_Saying_bars := fn_of_dd (c.def_ 36 (d := dd_Saying_bars)) (fun _ _ _ _ _ _ us hl => match us, hl with | [_, _], _ => rfl)
  d_Through_init := fn_of_dd (c.def_ 37 (d := dd_Through_init)) (fun _ _ _ _ _ _ us hl => match us, hl with | [_, _, _], _ => rfl)
  d_Through_allows := fn_of_dd (c.def_ 38 (d := dd_Through_allows)) (fun _ _ _ _ _ _ us hl => match us, hl with | [_, _, _], _ => rfl)
  d_cell_at := fn_of_dd (c.def_ 39 (d := dd_cell_at)) (fun _ _ _ _ _ _ us hl => match us, hl with | [_, _], _ => rfl)
  d_round := fn_of_dd (c.def_ 40 (d := dd_round)) (fun _ _ _ _ _ _ us hl => match us, hl with | [_, _, _, _], _ => rfl)
  d_table := fn_of_dd (c.def_ 41 (d := dd_table)) (fun _ _ _ _ _ _ us hl => match us, hl with | [_, _, _], _ => rfl)
  d_told := fn_of_dd (c.def_ 42 (d := dd_told)) (fun _ _ _ _ _ _ us hl => match us, hl with | [_, _], _ => rfl)
  d_parted := fn_of_dd (c.def_ 43 (d := dd_parted)) (fun _ _ _ _ _ _ us hl => match us, hl with | [_, _, _, _], _ => rfl)
  d_law := fn_of_dd (c.def_ 44 (d := dd_law)) (fun _ _ _ _ _ _ us hl => match us, hl with | [_], _ => rfl)
  all := allB_ok (ex_at ex 0)
  isi_Skip_Deed := isiB_ok (ex_at ex 1)
  isi_Skip_Row := isiB_ok (ex_at ex 2)
  isi_Skip_Choice := isiB_ok (ex_at ex 3)
  isi_Skip_Loop := isiB_ok (ex_at ex 4)
  isi_Deed_Deed := isiB_ok (ex_at ex 5)
  isi_Deed_Row := isiB_ok (ex_at ex 6)
  isi_Deed_Choice := isiB_ok (ex_at ex 7)
  isi_Deed_Loop := isiB_ok (ex_at ex 8)
  isi_Row_Deed := isiB_ok (ex_at ex 9)
  isi_Row_Row := isiB_ok (ex_at ex 10)
  isi_Row_Choice := isiB_ok (ex_at ex 11)
  isi_Row_Loop := isiB_ok (ex_at ex 12)
  isi_Loop_Deed := isiB_ok (ex_at ex 13)
  isi_Loop_Row := isiB_ok (ex_at ex 14)
  isi_Loop_Choice := isiB_ok (ex_at ex 15)
  isi_Loop_Loop := isiB_ok (ex_at ex 16)
  isi_Alike_Alike := isiB_ok (ex_at ex 17)
  isi_Alike_Apart := isiB_ok (ex_at ex 18)
  isi_Apart_Alike := isiB_ok (ex_at ex 19)
  isi_Apart_Apart := isiB_ok (ex_at ex 20)
  own_Skip := ownB_ok (ex_at ex 21)
  own_Deed := ownB_ok (ex_at ex 22)
  own_Row := ownB_ok (ex_at ex 23)
  own_Loop := ownB_ok (ex_at ex 24)
  own_Alike := ownB_ok (ex_at ex 25)
  own_Apart := ownB_ok (ex_at ex 26)
  noi_Yes := noiB_ok (ex_at ex 27)
  noi_Skip := noiB_ok (ex_at ex 28)
  same_Yes_mask := of_decide_eq_true (ex_at ex 29)
  same_Named_mask := of_decide_eq_true (ex_at ex 30)
  same_Not_mask := of_decide_eq_true (ex_at ex 31)
  same_Skip_first := of_decide_eq_true (ex_at ex 32)
  same_Skip_letters := of_decide_eq_true (ex_at ex 33)
  same_Through_bars := of_decide_eq_true (ex_at ex 34)
theorem lk1 {f : Str} {v : V} {r : List (Str × V)} : List.lookup f ((f, v) :: r) = some v := by rw [List.lookup_cons, beq_self_eq_true]
theorem lk2 {f g : Str} {u : V} {r : List (Str × V)} (h : (g == f) = false) : List.lookup g ((f, u) :: r) = List.lookup g r := by rw [List.lookup_cons, h]
theorem put1 {f : Str} {u v : V} {r : List (Str × V)} : putF f v ((f, u) :: r) = (f, v) :: r := if_pos rfl
theorem put2 {f g : Str} {u v : V} {r : List (Str × V)} (h : ¬ g = f) : putF f v ((g, u) :: r) = (g, u) :: putF f v r := if_neg h
def fl_Yes : List (Str × V) := []
theorem lk_Yes_holds : fl_Yes.lookup ("holds" : Str) = none := rfl
theorem lk_Yes_mask : fl_Yes.lookup ("mask" : Str) = none := rfl
def fl_Named (v0 : V) : List (Str × V) := [("name", v0)]
theorem lk_Named_name {v0 : V} : (fl_Named v0).lookup ("name" : Str) = some v0 := lk1
theorem fld_Named_name {K : PySem.W.Frag} {mg : Str → Option Value} (t : T K mg) {H : Hp} {a dx : Addr} {v0 : V} {Q : VK} (e : H a = some (.ins (He.ga K "Named") dx (fl_Named v0))) (q : Q v0 H) :
    ∃ a' C dx' fs v, V.ref a = .ref a' ∧ H a' = some (.ins C dx' fs) ∧ Cls K C ∧ NoAttr K C "name" ∧ fs.lookup ("name" : Str) = some v ∧ Q v H := ⟨a, _, dx, _, _, rfl, e, t.c_Named, t.n_Named_name, lk_Named_name, q⟩
theorem ne_holds_name : ((("holds" : Str) == "name") = false) := by decide +kernel
theorem ne_holds_namep : ¬ (("holds" : Str) = "name") := by decide +kernel
theorem lk_Named_holds {v0 : V} : (fl_Named v0).lookup ("holds" : Str) = none := (lk2 ne_holds_name).trans (rfl)
theorem ne_mask_name : ((("mask" : Str) == "name") = false) := by decide +kernel
theorem ne_mask_namep : ¬ (("mask" : Str) = "name") := by decide +kernel
theorem lk_Named_mask {v0 : V} : (fl_Named v0).lookup ("mask" : Str) = none := (lk2 ne_mask_name).trans (rfl)
theorem put_Named {v0 : V} : putF "name" v0 ([]) = (fl_Named v0) := by
  rw [show putF "name" v0 [] = ([("name", v0)] : List (Str × V)) from by rfl]
  rfl
theorem set_Named_name {v0 : V} {y : V} : putF "name" y (fl_Named v0) = fl_Named y := by
  unfold fl_Named
  rw [put1]
def fl_Not (v0 : V) : List (Str × V) := [("inner", v0)]
theorem lk_Not_inner {v0 : V} : (fl_Not v0).lookup ("inner" : Str) = some v0 := lk1
theorem fld_Not_inner {K : PySem.W.Frag} {mg : Str → Option Value} (t : T K mg) {H : Hp} {a dx : Addr} {v0 : V} {Q : VK} (e : H a = some (.ins (He.ga K "Not") dx (fl_Not v0))) (q : Q v0 H) :
    ∃ a' C dx' fs v, V.ref a = .ref a' ∧ H a' = some (.ins C dx' fs) ∧ Cls K C ∧ NoAttr K C "inner" ∧ fs.lookup ("inner" : Str) = some v ∧ Q v H := ⟨a, _, dx, _, _, rfl, e, t.c_Not, t.n_Not_inner, lk_Not_inner, q⟩
theorem ne_holds_inner : ((("holds" : Str) == "inner") = false) := by decide +kernel
theorem ne_holds_innerp : ¬ (("holds" : Str) = "inner") := by decide +kernel
theorem lk_Not_holds {v0 : V} : (fl_Not v0).lookup ("holds" : Str) = none := (lk2 ne_holds_inner).trans (rfl)
theorem ne_mask_inner : ((("mask" : Str) == "inner") = false) := by decide +kernel
theorem ne_mask_innerp : ¬ (("mask" : Str) = "inner") := by decide +kernel
theorem lk_Not_mask {v0 : V} : (fl_Not v0).lookup ("mask" : Str) = none := (lk2 ne_mask_inner).trans (rfl)
theorem put_Not {v0 : V} : putF "inner" v0 ([]) = (fl_Not v0) := by
  rw [show putF "inner" v0 [] = ([("inner", v0)] : List (Str × V)) from by rfl]
  rfl
theorem set_Not_inner {v0 : V} {y : V} : putF "inner" y (fl_Not v0) = fl_Not y := by
  unfold fl_Not
  rw [put1]
def fl_Bonds (v0 v1 : V) : List (Str × V) := [("kept", v0), ("let", v1)]
theorem lk_Bonds_kept {v0 v1 : V} : (fl_Bonds v0 v1).lookup ("kept" : Str) = some v0 := lk1
theorem fld_Bonds_kept {K : PySem.W.Frag} {mg : Str → Option Value} (t : T K mg) {H : Hp} {a dx : Addr} {v0 v1 : V} {Q : VK} (e : H a = some (.ins (He.ga K "Bonds") dx (fl_Bonds v0 v1))) (q : Q v0 H) :
    ∃ a' C dx' fs v, V.ref a = .ref a' ∧ H a' = some (.ins C dx' fs) ∧ Cls K C ∧ NoAttr K C "kept" ∧ fs.lookup ("kept" : Str) = some v ∧ Q v H := ⟨a, _, dx, _, _, rfl, e, t.c_Bonds, t.n_Bonds_kept, lk_Bonds_kept, q⟩
theorem ne_let_kept : ((("let" : Str) == "kept") = false) := by decide +kernel
theorem ne_let_keptp : ¬ (("let" : Str) = "kept") := by decide +kernel
theorem lk_Bonds_let {v0 v1 : V} : (fl_Bonds v0 v1).lookup ("let" : Str) = some v1 := (lk2 ne_let_kept).trans (lk1)
theorem fld_Bonds_let {K : PySem.W.Frag} {mg : Str → Option Value} (t : T K mg) {H : Hp} {a dx : Addr} {v0 v1 : V} {Q : VK} (e : H a = some (.ins (He.ga K "Bonds") dx (fl_Bonds v0 v1))) (q : Q v1 H) :
    ∃ a' C dx' fs v, V.ref a = .ref a' ∧ H a' = some (.ins C dx' fs) ∧ Cls K C ∧ NoAttr K C "let" ∧ fs.lookup ("let" : Str) = some v ∧ Q v H := ⟨a, _, dx, _, _, rfl, e, t.c_Bonds, t.n_Bonds_let, lk_Bonds_let, q⟩
theorem ne_let_by_kept : ((("let_by" : Str) == "kept") = false) := by decide +kernel
theorem ne_let_by_keptp : ¬ (("let_by" : Str) = "kept") := by decide +kernel
theorem ne_let_by_let : ((("let_by" : Str) == "let") = false) := by decide +kernel
theorem ne_let_by_letp : ¬ (("let_by" : Str) = "let") := by decide +kernel
theorem lk_Bonds_let_by {v0 v1 : V} : (fl_Bonds v0 v1).lookup ("let_by" : Str) = none := (lk2 ne_let_by_kept).trans ((lk2 ne_let_by_let).trans (rfl))
theorem ne_narrowed_kept : ((("narrowed" : Str) == "kept") = false) := by decide +kernel
theorem ne_narrowed_keptp : ¬ (("narrowed" : Str) = "kept") := by decide +kernel
theorem ne_narrowed_let : ((("narrowed" : Str) == "let") = false) := by decide +kernel
theorem ne_narrowed_letp : ¬ (("narrowed" : Str) = "let") := by decide +kernel
theorem lk_Bonds_narrowed {v0 v1 : V} : (fl_Bonds v0 v1).lookup ("narrowed" : Str) = none := (lk2 ne_narrowed_kept).trans ((lk2 ne_narrowed_let).trans (rfl))
theorem ne_good_kept : ((("good" : Str) == "kept") = false) := by decide +kernel
theorem ne_good_keptp : ¬ (("good" : Str) = "kept") := by decide +kernel
theorem ne_good_let : ((("good" : Str) == "let") = false) := by decide +kernel
theorem ne_good_letp : ¬ (("good" : Str) = "let") := by decide +kernel
theorem lk_Bonds_good {v0 v1 : V} : (fl_Bonds v0 v1).lookup ("good" : Str) = none := (lk2 ne_good_kept).trans ((lk2 ne_good_let).trans (rfl))
theorem ne_ways_kept : ((("ways" : Str) == "kept") = false) := by decide +kernel
theorem ne_ways_keptp : ¬ (("ways" : Str) = "kept") := by decide +kernel
theorem ne_ways_let : ((("ways" : Str) == "let") = false) := by decide +kernel
theorem ne_ways_letp : ¬ (("ways" : Str) = "let") := by decide +kernel
theorem lk_Bonds_ways {v0 v1 : V} : (fl_Bonds v0 v1).lookup ("ways" : Str) = none := (lk2 ne_ways_kept).trans ((lk2 ne_ways_let).trans (rfl))
theorem ne_kept_let : ((("kept" : Str) == "let") = false) := by decide +kernel
theorem ne_kept_letp : ¬ (("kept" : Str) = "let") := by decide +kernel
theorem put_Bonds {v0 v1 : V} : putF "let" v1 (putF "kept" v0 ([])) = (fl_Bonds v0 v1) := by
  rw [show putF "kept" v0 [] = ([("kept", v0)] : List (Str × V)) from by rfl]
  rw [show putF "let" v1 [("kept", v0)] = ([("kept", v0), ("let", v1)] : List (Str × V)) from by rw [put2 ne_kept_letp] <;> rfl]
  rfl
theorem set_Bonds_kept {v0 v1 : V} {y : V} : putF "kept" y (fl_Bonds v0 v1) = fl_Bonds y v1 := by
  unfold fl_Bonds
  rw [put1]
theorem set_Bonds_let {v0 v1 : V} {y : V} : putF "let" y (fl_Bonds v0 v1) = fl_Bonds v0 y := by
  unfold fl_Bonds
  rw [put2 ne_kept_letp]
  rw [put1]
def fl_Skip : List (Str × V) := []
theorem lk_Skip_first : fl_Skip.lookup ("first" : Str) = none := rfl
theorem lk_Skip_letters : fl_Skip.lookup ("letters" : Str) = none := rfl
def fl_Deed (v0 : V) : List (Str × V) := [("name", v0)]
theorem lk_Deed_name {v0 : V} : (fl_Deed v0).lookup ("name" : Str) = some v0 := lk1
theorem fld_Deed_name {K : PySem.W.Frag} {mg : Str → Option Value} (t : T K mg) {H : Hp} {a dx : Addr} {v0 : V} {Q : VK} (e : H a = some (.ins (He.ga K "Deed") dx (fl_Deed v0))) (q : Q v0 H) :
    ∃ a' C dx' fs v, V.ref a = .ref a' ∧ H a' = some (.ins C dx' fs) ∧ Cls K C ∧ NoAttr K C "name" ∧ fs.lookup ("name" : Str) = some v ∧ Q v H := ⟨a, _, dx, _, _, rfl, e, t.c_Deed, t.n_Deed_name, lk_Deed_name, q⟩
theorem ne_first_name : ((("first" : Str) == "name") = false) := by decide +kernel
theorem ne_first_namep : ¬ (("first" : Str) = "name") := by decide +kernel
theorem lk_Deed_first {v0 : V} : (fl_Deed v0).lookup ("first" : Str) = none := (lk2 ne_first_name).trans (rfl)
theorem ne_letters_name : ((("letters" : Str) == "name") = false) := by decide +kernel
theorem ne_letters_namep : ¬ (("letters" : Str) = "name") := by decide +kernel
theorem lk_Deed_letters {v0 : V} : (fl_Deed v0).lookup ("letters" : Str) = none := (lk2 ne_letters_name).trans (rfl)
theorem put_Deed {v0 : V} : putF "name" v0 ([]) = (fl_Deed v0) := by
  rw [show putF "name" v0 [] = ([("name", v0)] : List (Str × V)) from by rfl]
  rfl
theorem set_Deed_name {v0 : V} {y : V} : putF "name" y (fl_Deed v0) = fl_Deed y := by
  unfold fl_Deed
  rw [put1]
def fl_Row (v0 v1 : V) : List (Str × V) := [("head", v0), ("tail", v1)]
theorem lk_Row_head {v0 v1 : V} : (fl_Row v0 v1).lookup ("head" : Str) = some v0 := lk1
theorem fld_Row_head {K : PySem.W.Frag} {mg : Str → Option Value} (t : T K mg) {H : Hp} {a dx : Addr} {v0 v1 : V} {Q : VK} (e : H a = some (.ins (He.ga K "Row") dx (fl_Row v0 v1))) (q : Q v0 H) :
    ∃ a' C dx' fs v, V.ref a = .ref a' ∧ H a' = some (.ins C dx' fs) ∧ Cls K C ∧ NoAttr K C "head" ∧ fs.lookup ("head" : Str) = some v ∧ Q v H := ⟨a, _, dx, _, _, rfl, e, t.c_Row, t.n_Row_head, lk_Row_head, q⟩
theorem ne_tail_head : ((("tail" : Str) == "head") = false) := by decide +kernel
theorem ne_tail_headp : ¬ (("tail" : Str) = "head") := by decide +kernel
theorem lk_Row_tail {v0 v1 : V} : (fl_Row v0 v1).lookup ("tail" : Str) = some v1 := (lk2 ne_tail_head).trans (lk1)
theorem fld_Row_tail {K : PySem.W.Frag} {mg : Str → Option Value} (t : T K mg) {H : Hp} {a dx : Addr} {v0 v1 : V} {Q : VK} (e : H a = some (.ins (He.ga K "Row") dx (fl_Row v0 v1))) (q : Q v1 H) :
    ∃ a' C dx' fs v, V.ref a = .ref a' ∧ H a' = some (.ins C dx' fs) ∧ Cls K C ∧ NoAttr K C "tail" ∧ fs.lookup ("tail" : Str) = some v ∧ Q v H := ⟨a, _, dx, _, _, rfl, e, t.c_Row, t.n_Row_tail, lk_Row_tail, q⟩
theorem ne_first_head : ((("first" : Str) == "head") = false) := by decide +kernel
theorem ne_first_headp : ¬ (("first" : Str) = "head") := by decide +kernel
theorem ne_first_tail : ((("first" : Str) == "tail") = false) := by decide +kernel
theorem ne_first_tailp : ¬ (("first" : Str) = "tail") := by decide +kernel
theorem lk_Row_first {v0 v1 : V} : (fl_Row v0 v1).lookup ("first" : Str) = none := (lk2 ne_first_head).trans ((lk2 ne_first_tail).trans (rfl))
theorem ne_letters_head : ((("letters" : Str) == "head") = false) := by decide +kernel
theorem ne_letters_headp : ¬ (("letters" : Str) = "head") := by decide +kernel
theorem ne_letters_tail : ((("letters" : Str) == "tail") = false) := by decide +kernel
theorem ne_letters_tailp : ¬ (("letters" : Str) = "tail") := by decide +kernel
theorem lk_Row_letters {v0 v1 : V} : (fl_Row v0 v1).lookup ("letters" : Str) = none := (lk2 ne_letters_head).trans ((lk2 ne_letters_tail).trans (rfl))
theorem ne_head_tail : ((("head" : Str) == "tail") = false) := by decide +kernel
theorem ne_head_tailp : ¬ (("head" : Str) = "tail") := by decide +kernel
theorem put_Row {v0 v1 : V} : putF "tail" v1 (putF "head" v0 ([])) = (fl_Row v0 v1) := by
  rw [show putF "head" v0 [] = ([("head", v0)] : List (Str × V)) from by rfl]
  rw [show putF "tail" v1 [("head", v0)] = ([("head", v0), ("tail", v1)] : List (Str × V)) from by rw [put2 ne_head_tailp] <;> rfl]
  rfl
theorem set_Row_head {v0 v1 : V} {y : V} : putF "head" y (fl_Row v0 v1) = fl_Row y v1 := by
  unfold fl_Row
  rw [put1]
theorem set_Row_tail {v0 v1 : V} {y : V} : putF "tail" y (fl_Row v0 v1) = fl_Row v0 y := by
  unfold fl_Row
  rw [put2 ne_head_tailp]
  rw [put1]
def fl_Loop (v0 v1 : V) : List (Str × V) := [("test", v0), ("body", v1)]
theorem lk_Loop_test {v0 v1 : V} : (fl_Loop v0 v1).lookup ("test" : Str) = some v0 := lk1
theorem fld_Loop_test {K : PySem.W.Frag} {mg : Str → Option Value} (t : T K mg) {H : Hp} {a dx : Addr} {v0 v1 : V} {Q : VK} (e : H a = some (.ins (He.ga K "Loop") dx (fl_Loop v0 v1))) (q : Q v0 H) :
    ∃ a' C dx' fs v, V.ref a = .ref a' ∧ H a' = some (.ins C dx' fs) ∧ Cls K C ∧ NoAttr K C "test" ∧ fs.lookup ("test" : Str) = some v ∧ Q v H := ⟨a, _, dx, _, _, rfl, e, t.c_Loop, t.n_Loop_test, lk_Loop_test, q⟩
theorem ne_body_test : ((("body" : Str) == "test") = false) := by decide +kernel
theorem ne_body_testp : ¬ (("body" : Str) = "test") := by decide +kernel
theorem lk_Loop_body {v0 v1 : V} : (fl_Loop v0 v1).lookup ("body" : Str) = some v1 := (lk2 ne_body_test).trans (lk1)
theorem fld_Loop_body {K : PySem.W.Frag} {mg : Str → Option Value} (t : T K mg) {H : Hp} {a dx : Addr} {v0 v1 : V} {Q : VK} (e : H a = some (.ins (He.ga K "Loop") dx (fl_Loop v0 v1))) (q : Q v1 H) :
    ∃ a' C dx' fs v, V.ref a = .ref a' ∧ H a' = some (.ins C dx' fs) ∧ Cls K C ∧ NoAttr K C "body" ∧ fs.lookup ("body" : Str) = some v ∧ Q v H := ⟨a, _, dx, _, _, rfl, e, t.c_Loop, t.n_Loop_body, lk_Loop_body, q⟩
theorem ne_first_test : ((("first" : Str) == "test") = false) := by decide +kernel
theorem ne_first_testp : ¬ (("first" : Str) = "test") := by decide +kernel
theorem ne_first_body : ((("first" : Str) == "body") = false) := by decide +kernel
theorem ne_first_bodyp : ¬ (("first" : Str) = "body") := by decide +kernel
theorem lk_Loop_first {v0 v1 : V} : (fl_Loop v0 v1).lookup ("first" : Str) = none := (lk2 ne_first_test).trans ((lk2 ne_first_body).trans (rfl))
theorem ne_letters_test : ((("letters" : Str) == "test") = false) := by decide +kernel
theorem ne_letters_testp : ¬ (("letters" : Str) = "test") := by decide +kernel
theorem ne_letters_body : ((("letters" : Str) == "body") = false) := by decide +kernel
theorem ne_letters_bodyp : ¬ (("letters" : Str) = "body") := by decide +kernel
theorem lk_Loop_letters {v0 v1 : V} : (fl_Loop v0 v1).lookup ("letters" : Str) = none := (lk2 ne_letters_test).trans ((lk2 ne_letters_body).trans (rfl))
theorem ne_test_body : ((("test" : Str) == "body") = false) := by decide +kernel
theorem ne_test_bodyp : ¬ (("test" : Str) = "body") := by decide +kernel
theorem put_Loop {v0 v1 : V} : putF "body" v1 (putF "test" v0 ([])) = (fl_Loop v0 v1) := by
  rw [show putF "test" v0 [] = ([("test", v0)] : List (Str × V)) from by rfl]
  rw [show putF "body" v1 [("test", v0)] = ([("test", v0), ("body", v1)] : List (Str × V)) from by rw [put2 ne_test_bodyp] <;> rfl]
  rfl
theorem set_Loop_test {v0 v1 : V} {y : V} : putF "test" y (fl_Loop v0 v1) = fl_Loop y v1 := by
  unfold fl_Loop
  rw [put1]
theorem set_Loop_body {v0 v1 : V} {y : V} : putF "body" y (fl_Loop v0 v1) = fl_Loop v0 y := by
  unfold fl_Loop
  rw [put2 ne_test_bodyp]
  rw [put1]
def fl_Rooms (v0 v1 : V) : List (Str × V) := [("step", v0), ("doors", v1)]
theorem lk_Rooms_step {v0 v1 : V} : (fl_Rooms v0 v1).lookup ("step" : Str) = some v0 := lk1
theorem fld_Rooms_step {K : PySem.W.Frag} {mg : Str → Option Value} (t : T K mg) {H : Hp} {a dx : Addr} {v0 v1 : V} {Q : VK} (e : H a = some (.ins (He.ga K "Rooms") dx (fl_Rooms v0 v1))) (q : Q v0 H) :
    ∃ a' C dx' fs v, V.ref a = .ref a' ∧ H a' = some (.ins C dx' fs) ∧ Cls K C ∧ NoAttr K C "step" ∧ fs.lookup ("step" : Str) = some v ∧ Q v H := ⟨a, _, dx, _, _, rfl, e, t.c_Rooms, t.n_Rooms_step, lk_Rooms_step, q⟩
theorem ne_doors_step : ((("doors" : Str) == "step") = false) := by decide +kernel
theorem ne_doors_stepp : ¬ (("doors" : Str) = "step") := by decide +kernel
theorem lk_Rooms_doors {v0 v1 : V} : (fl_Rooms v0 v1).lookup ("doors" : Str) = some v1 := (lk2 ne_doors_step).trans (lk1)
theorem fld_Rooms_doors {K : PySem.W.Frag} {mg : Str → Option Value} (t : T K mg) {H : Hp} {a dx : Addr} {v0 v1 : V} {Q : VK} (e : H a = some (.ins (He.ga K "Rooms") dx (fl_Rooms v0 v1))) (q : Q v1 H) :
    ∃ a' C dx' fs v, V.ref a = .ref a' ∧ H a' = some (.ins C dx' fs) ∧ Cls K C ∧ NoAttr K C "doors" ∧ fs.lookup ("doors" : Str) = some v ∧ Q v H := ⟨a, _, dx, _, _, rfl, e, t.c_Rooms, t.n_Rooms_doors, lk_Rooms_doors, q⟩
theorem ne_step_doors : ((("step" : Str) == "doors") = false) := by decide +kernel
theorem ne_step_doorsp : ¬ (("step" : Str) = "doors") := by decide +kernel
theorem put_Rooms {v0 v1 : V} : putF "doors" v1 (putF "step" v0 ([])) = (fl_Rooms v0 v1) := by
  rw [show putF "step" v0 [] = ([("step", v0)] : List (Str × V)) from by rfl]
  rw [show putF "doors" v1 [("step", v0)] = ([("step", v0), ("doors", v1)] : List (Str × V)) from by rw [put2 ne_step_doorsp] <;> rfl]
  rfl
theorem set_Rooms_step {v0 v1 : V} {y : V} : putF "step" y (fl_Rooms v0 v1) = fl_Rooms y v1 := by
  unfold fl_Rooms
  rw [put1]
theorem set_Rooms_doors {v0 v1 : V} {y : V} : putF "doors" y (fl_Rooms v0 v1) = fl_Rooms v0 y := by
  unfold fl_Rooms
  rw [put2 ne_step_doorsp]
  rw [put1]
def fl_Sides (v0 v1 v2 v3 : V) : List (Str × V) := [("ones", v0), ("others", v1), ("bonds", v2), ("begin", v3)]
theorem lk_Sides_ones {v0 v1 v2 v3 : V} : (fl_Sides v0 v1 v2 v3).lookup ("ones" : Str) = some v0 := lk1
theorem fld_Sides_ones {K : PySem.W.Frag} {mg : Str → Option Value} (t : T K mg) {H : Hp} {a dx : Addr} {v0 v1 v2 v3 : V} {Q : VK} (e : H a = some (.ins (He.ga K "Sides") dx (fl_Sides v0 v1 v2 v3))) (q : Q v0 H) :
    ∃ a' C dx' fs v, V.ref a = .ref a' ∧ H a' = some (.ins C dx' fs) ∧ Cls K C ∧ NoAttr K C "ones" ∧ fs.lookup ("ones" : Str) = some v ∧ Q v H := ⟨a, _, dx, _, _, rfl, e, t.c_Sides, t.n_Sides_ones, lk_Sides_ones, q⟩
theorem ne_others_ones : ((("others" : Str) == "ones") = false) := by decide +kernel
theorem ne_others_onesp : ¬ (("others" : Str) = "ones") := by decide +kernel
theorem lk_Sides_others {v0 v1 v2 v3 : V} : (fl_Sides v0 v1 v2 v3).lookup ("others" : Str) = some v1 := (lk2 ne_others_ones).trans (lk1)
theorem fld_Sides_others {K : PySem.W.Frag} {mg : Str → Option Value} (t : T K mg) {H : Hp} {a dx : Addr} {v0 v1 v2 v3 : V} {Q : VK} (e : H a = some (.ins (He.ga K "Sides") dx (fl_Sides v0 v1 v2 v3))) (q : Q v1 H) :
    ∃ a' C dx' fs v, V.ref a = .ref a' ∧ H a' = some (.ins C dx' fs) ∧ Cls K C ∧ NoAttr K C "others" ∧ fs.lookup ("others" : Str) = some v ∧ Q v H := ⟨a, _, dx, _, _, rfl, e, t.c_Sides, t.n_Sides_others, lk_Sides_others, q⟩
theorem ne_bonds_ones : ((("bonds" : Str) == "ones") = false) := by decide +kernel
theorem ne_bonds_onesp : ¬ (("bonds" : Str) = "ones") := by decide +kernel
theorem ne_bonds_others : ((("bonds" : Str) == "others") = false) := by decide +kernel
theorem ne_bonds_othersp : ¬ (("bonds" : Str) = "others") := by decide +kernel
theorem lk_Sides_bonds {v0 v1 v2 v3 : V} : (fl_Sides v0 v1 v2 v3).lookup ("bonds" : Str) = some v2 := (lk2 ne_bonds_ones).trans ((lk2 ne_bonds_others).trans (lk1))
theorem fld_Sides_bonds {K : PySem.W.Frag} {mg : Str → Option Value} (t : T K mg) {H : Hp} {a dx : Addr} {v0 v1 v2 v3 : V} {Q : VK} (e : H a = some (.ins (He.ga K "Sides") dx (fl_Sides v0 v1 v2 v3))) (q : Q v2 H) :
    ∃ a' C dx' fs v, V.ref a = .ref a' ∧ H a' = some (.ins C dx' fs) ∧ Cls K C ∧ NoAttr K C "bonds" ∧ fs.lookup ("bonds" : Str) = some v ∧ Q v H := ⟨a, _, dx, _, _, rfl, e, t.c_Sides, t.n_Sides_bonds, lk_Sides_bonds, q⟩
theorem ne_begin_ones : ((("begin" : Str) == "ones") = false) := by decide +kernel
theorem ne_begin_onesp : ¬ (("begin" : Str) = "ones") := by decide +kernel
theorem ne_begin_others : ((("begin" : Str) == "others") = false) := by decide +kernel
theorem ne_begin_othersp : ¬ (("begin" : Str) = "others") := by decide +kernel
theorem ne_begin_bonds : ((("begin" : Str) == "bonds") = false) := by decide +kernel
theorem ne_begin_bondsp : ¬ (("begin" : Str) = "bonds") := by decide +kernel
theorem lk_Sides_begin {v0 v1 v2 v3 : V} : (fl_Sides v0 v1 v2 v3).lookup ("begin" : Str) = some v3 := (lk2 ne_begin_ones).trans ((lk2 ne_begin_others).trans ((lk2 ne_begin_bonds).trans (lk1)))
theorem fld_Sides_begin {K : PySem.W.Frag} {mg : Str → Option Value} (t : T K mg) {H : Hp} {a dx : Addr} {v0 v1 v2 v3 : V} {Q : VK} (e : H a = some (.ins (He.ga K "Sides") dx (fl_Sides v0 v1 v2 v3))) (q : Q v3 H) :
    ∃ a' C dx' fs v, V.ref a = .ref a' ∧ H a' = some (.ins C dx' fs) ∧ Cls K C ∧ NoAttr K C "begin" ∧ fs.lookup ("begin" : Str) = some v ∧ Q v H := ⟨a, _, dx, _, _, rfl, e, t.c_Sides, t.n_Sides_begin, lk_Sides_begin, q⟩
theorem ne_both_at_ones : ((("both_at" : Str) == "ones") = false) := by decide +kernel
theorem ne_both_at_onesp : ¬ (("both_at" : Str) = "ones") := by decide +kernel
theorem ne_both_at_others : ((("both_at" : Str) == "others") = false) := by decide +kernel
theorem ne_both_at_othersp : ¬ (("both_at" : Str) = "others") := by decide +kernel
theorem ne_both_at_bonds : ((("both_at" : Str) == "bonds") = false) := by decide +kernel
theorem ne_both_at_bondsp : ¬ (("both_at" : Str) = "bonds") := by decide +kernel
theorem ne_both_at_begin : ((("both_at" : Str) == "begin") = false) := by decide +kernel
theorem ne_both_at_beginp : ¬ (("both_at" : Str) = "begin") := by decide +kernel
theorem lk_Sides_both_at {v0 v1 v2 v3 : V} : (fl_Sides v0 v1 v2 v3).lookup ("both_at" : Str) = none := (lk2 ne_both_at_ones).trans ((lk2 ne_both_at_others).trans ((lk2 ne_both_at_bonds).trans ((lk2 ne_both_at_begin).trans (rfl))))
theorem ne_come_behind_ones : ((("come_behind" : Str) == "ones") = false) := by decide +kernel
theorem ne_come_behind_onesp : ¬ (("come_behind" : Str) = "ones") := by decide +kernel
theorem ne_come_behind_others : ((("come_behind" : Str) == "others") = false) := by decide +kernel
theorem ne_come_behind_othersp : ¬ (("come_behind" : Str) = "others") := by decide +kernel
theorem ne_come_behind_bonds : ((("come_behind" : Str) == "bonds") = false) := by decide +kernel
theorem ne_come_behind_bondsp : ¬ (("come_behind" : Str) = "bonds") := by decide +kernel
theorem ne_come_behind_begin : ((("come_behind" : Str) == "begin") = false) := by decide +kernel
theorem ne_come_behind_beginp : ¬ (("come_behind" : Str) = "begin") := by decide +kernel
theorem lk_Sides_come_behind {v0 v1 v2 v3 : V} : (fl_Sides v0 v1 v2 v3).lookup ("come_behind" : Str) = none := (lk2 ne_come_behind_ones).trans ((lk2 ne_come_behind_others).trans ((lk2 ne_come_behind_bonds).trans ((lk2 ne_come_behind_begin).trans (rfl))))
theorem ne_is_fine_ones : ((("is_fine" : Str) == "ones") = false) := by decide +kernel
theorem ne_is_fine_onesp : ¬ (("is_fine" : Str) = "ones") := by decide +kernel
theorem ne_is_fine_others : ((("is_fine" : Str) == "others") = false) := by decide +kernel
theorem ne_is_fine_othersp : ¬ (("is_fine" : Str) = "others") := by decide +kernel
theorem ne_is_fine_bonds : ((("is_fine" : Str) == "bonds") = false) := by decide +kernel
theorem ne_is_fine_bondsp : ¬ (("is_fine" : Str) = "bonds") := by decide +kernel
theorem ne_is_fine_begin : ((("is_fine" : Str) == "begin") = false) := by decide +kernel
theorem ne_is_fine_beginp : ¬ (("is_fine" : Str) = "begin") := by decide +kernel
theorem lk_Sides_is_fine {v0 v1 v2 v3 : V} : (fl_Sides v0 v1 v2 v3).lookup ("is_fine" : Str) = none := (lk2 ne_is_fine_ones).trans ((lk2 ne_is_fine_others).trans ((lk2 ne_is_fine_bonds).trans ((lk2 ne_is_fine_begin).trans (rfl))))
theorem ne_ones_others : ((("ones" : Str) == "others") = false) := by decide +kernel
theorem ne_ones_othersp : ¬ (("ones" : Str) = "others") := by decide +kernel
theorem ne_ones_bonds : ((("ones" : Str) == "bonds") = false) := by decide +kernel
theorem ne_ones_bondsp : ¬ (("ones" : Str) = "bonds") := by decide +kernel
theorem ne_others_bonds : ((("others" : Str) == "bonds") = false) := by decide +kernel
theorem ne_others_bondsp : ¬ (("others" : Str) = "bonds") := by decide +kernel
theorem ne_ones_begin : ((("ones" : Str) == "begin") = false) := by decide +kernel
theorem ne_ones_beginp : ¬ (("ones" : Str) = "begin") := by decide +kernel
theorem ne_others_begin : ((("others" : Str) == "begin") = false) := by decide +kernel
theorem ne_others_beginp : ¬ (("others" : Str) = "begin") := by decide +kernel
theorem ne_bonds_begin : ((("bonds" : Str) == "begin") = false) := by decide +kernel
theorem ne_bonds_beginp : ¬ (("bonds" : Str) = "begin") := by decide +kernel
theorem put_Sides {v0 v1 v2 v3 : V} : putF "begin" v3 (putF "bonds" v2 (putF "others" v1 (putF "ones" v0 ([])))) = (fl_Sides v0 v1 v2 v3) := by
  rw [show putF "ones" v0 [] = ([("ones", v0)] : List (Str × V)) from by rfl]
  rw [show putF "others" v1 [("ones", v0)] = ([("ones", v0), ("others", v1)] : List (Str × V)) from by rw [put2 ne_ones_othersp] <;> rfl]
  rw [show putF "bonds" v2 [("ones", v0), ("others", v1)] = ([("ones", v0), ("others", v1), ("bonds", v2)] : List (Str × V)) from by rw [put2 ne_ones_bondsp, put2 ne_others_bondsp] <;> rfl]
  rw [show putF "begin" v3 [("ones", v0), ("others", v1), ("bonds", v2)] = ([("ones", v0), ("others", v1), ("bonds", v2), ("begin", v3)] : List (Str × V)) from by rw [put2 ne_ones_beginp, put2 ne_others_beginp, put2 ne_bonds_beginp] <;> rfl]
  rfl
theorem set_Sides_ones {v0 v1 v2 v3 : V} {y : V} : putF "ones" y (fl_Sides v0 v1 v2 v3) = fl_Sides y v1 v2 v3 := by
  unfold fl_Sides
  rw [put1]
theorem set_Sides_others {v0 v1 v2 v3 : V} {y : V} : putF "others" y (fl_Sides v0 v1 v2 v3) = fl_Sides v0 y v2 v3 := by
  unfold fl_Sides
  rw [put2 ne_ones_othersp]
  rw [put1]
theorem set_Sides_bonds {v0 v1 v2 v3 : V} {y : V} : putF "bonds" y (fl_Sides v0 v1 v2 v3) = fl_Sides v0 v1 y v3 := by
  unfold fl_Sides
  rw [put2 ne_ones_bondsp, put2 ne_others_bondsp]
  rw [put1]
theorem set_Sides_begin {v0 v1 v2 v3 : V} {y : V} : putF "begin" y (fl_Sides v0 v1 v2 v3) = fl_Sides v0 v1 v2 y := by
  unfold fl_Sides
  rw [put2 ne_ones_beginp, put2 ne_others_beginp, put2 ne_bonds_beginp]
  rw [put1]
def fl_Alike (v0 : V) : List (Str × V) := [("table", v0)]
theorem lk_Alike_table {v0 : V} : (fl_Alike v0).lookup ("table" : Str) = some v0 := lk1
theorem fld_Alike_table {K : PySem.W.Frag} {mg : Str → Option Value} (t : T K mg) {H : Hp} {a dx : Addr} {v0 : V} {Q : VK} (e : H a = some (.ins (He.ga K "Alike") dx (fl_Alike v0))) (q : Q v0 H) :
    ∃ a' C dx' fs v, V.ref a = .ref a' ∧ H a' = some (.ins C dx' fs) ∧ Cls K C ∧ NoAttr K C "table" ∧ fs.lookup ("table" : Str) = some v ∧ Q v H := ⟨a, _, dx, _, _, rfl, e, t.c_Alike, t.n_Alike_table, lk_Alike_table, q⟩
theorem ne_stands_table : ((("stands" : Str) == "table") = false) := by decide +kernel
theorem ne_stands_tablep : ¬ (("stands" : Str) = "table") := by decide +kernel
theorem lk_Alike_stands {v0 : V} : (fl_Alike v0).lookup ("stands" : Str) = none := (lk2 ne_stands_table).trans (rfl)
theorem put_Alike {v0 : V} : putF "table" v0 ([]) = (fl_Alike v0) := by
  rw [show putF "table" v0 [] = ([("table", v0)] : List (Str × V)) from by rfl]
  rfl
theorem set_Alike_table {v0 : V} {y : V} : putF "table" y (fl_Alike v0) = fl_Alike y := by
  unfold fl_Alike
  rw [put1]
def fl_Apart (v0 v1 : V) : List (Str × V) := [("settings", v0), ("deeds", v1)]
theorem lk_Apart_settings {v0 v1 : V} : (fl_Apart v0 v1).lookup ("settings" : Str) = some v0 := lk1
theorem fld_Apart_settings {K : PySem.W.Frag} {mg : Str → Option Value} (t : T K mg) {H : Hp} {a dx : Addr} {v0 v1 : V} {Q : VK} (e : H a = some (.ins (He.ga K "Apart") dx (fl_Apart v0 v1))) (q : Q v0 H) :
    ∃ a' C dx' fs v, V.ref a = .ref a' ∧ H a' = some (.ins C dx' fs) ∧ Cls K C ∧ NoAttr K C "settings" ∧ fs.lookup ("settings" : Str) = some v ∧ Q v H := ⟨a, _, dx, _, _, rfl, e, t.c_Apart, t.n_Apart_settings, lk_Apart_settings, q⟩
theorem ne_deeds_settings : ((("deeds" : Str) == "settings") = false) := by decide +kernel
theorem ne_deeds_settingsp : ¬ (("deeds" : Str) = "settings") := by decide +kernel
theorem lk_Apart_deeds {v0 v1 : V} : (fl_Apart v0 v1).lookup ("deeds" : Str) = some v1 := (lk2 ne_deeds_settings).trans (lk1)
theorem fld_Apart_deeds {K : PySem.W.Frag} {mg : Str → Option Value} (t : T K mg) {H : Hp} {a dx : Addr} {v0 v1 : V} {Q : VK} (e : H a = some (.ins (He.ga K "Apart") dx (fl_Apart v0 v1))) (q : Q v1 H) :
    ∃ a' C dx' fs v, V.ref a = .ref a' ∧ H a' = some (.ins C dx' fs) ∧ Cls K C ∧ NoAttr K C "deeds" ∧ fs.lookup ("deeds" : Str) = some v ∧ Q v H := ⟨a, _, dx, _, _, rfl, e, t.c_Apart, t.n_Apart_deeds, lk_Apart_deeds, q⟩
theorem ne_stands_settings : ((("stands" : Str) == "settings") = false) := by decide +kernel
theorem ne_stands_settingsp : ¬ (("stands" : Str) = "settings") := by decide +kernel
theorem ne_stands_deeds : ((("stands" : Str) == "deeds") = false) := by decide +kernel
theorem ne_stands_deedsp : ¬ (("stands" : Str) = "deeds") := by decide +kernel
theorem lk_Apart_stands {v0 v1 : V} : (fl_Apart v0 v1).lookup ("stands" : Str) = none := (lk2 ne_stands_settings).trans ((lk2 ne_stands_deeds).trans (rfl))
theorem ne_settings_deeds : ((("settings" : Str) == "deeds") = false) := by decide +kernel
theorem ne_settings_deedsp : ¬ (("settings" : Str) = "deeds") := by decide +kernel
theorem put_Apart {v0 v1 : V} : putF "deeds" v1 (putF "settings" v0 ([])) = (fl_Apart v0 v1) := by
  rw [show putF "settings" v0 [] = ([("settings", v0)] : List (Str × V)) from by rfl]
  rw [show putF "deeds" v1 [("settings", v0)] = ([("settings", v0), ("deeds", v1)] : List (Str × V)) from by rw [put2 ne_settings_deedsp] <;> rfl]
  rfl
theorem set_Apart_settings {v0 v1 : V} {y : V} : putF "settings" y (fl_Apart v0 v1) = fl_Apart y v1 := by
  unfold fl_Apart
  rw [put1]
theorem set_Apart_deeds {v0 v1 : V} {y : V} : putF "deeds" y (fl_Apart v0 v1) = fl_Apart v0 y := by
  unfold fl_Apart
  rw [put2 ne_settings_deedsp]
  rw [put1]
def fl_Through (v0 v1 v2 : V) : List (Str × V) := [("test", v0), ("deed", v1), ("start", v2)]
theorem lk_Through_test {v0 v1 v2 : V} : (fl_Through v0 v1 v2).lookup ("test" : Str) = some v0 := lk1
theorem fld_Through_test {K : PySem.W.Frag} {mg : Str → Option Value} (t : T K mg) {H : Hp} {a dx : Addr} {v0 v1 v2 : V} {Q : VK} (e : H a = some (.ins (He.ga K "Through") dx (fl_Through v0 v1 v2))) (q : Q v0 H) :
    ∃ a' C dx' fs v, V.ref a = .ref a' ∧ H a' = some (.ins C dx' fs) ∧ Cls K C ∧ NoAttr K C "test" ∧ fs.lookup ("test" : Str) = some v ∧ Q v H := ⟨a, _, dx, _, _, rfl, e, t.c_Through, t.n_Through_test, lk_Through_test, q⟩
theorem ne_deed_test : ((("deed" : Str) == "test") = false) := by decide +kernel
theorem ne_deed_testp : ¬ (("deed" : Str) = "test") := by decide +kernel
theorem lk_Through_deed {v0 v1 v2 : V} : (fl_Through v0 v1 v2).lookup ("deed" : Str) = some v1 := (lk2 ne_deed_test).trans (lk1)
theorem fld_Through_deed {K : PySem.W.Frag} {mg : Str → Option Value} (t : T K mg) {H : Hp} {a dx : Addr} {v0 v1 v2 : V} {Q : VK} (e : H a = some (.ins (He.ga K "Through") dx (fl_Through v0 v1 v2))) (q : Q v1 H) :
    ∃ a' C dx' fs v, V.ref a = .ref a' ∧ H a' = some (.ins C dx' fs) ∧ Cls K C ∧ NoAttr K C "deed" ∧ fs.lookup ("deed" : Str) = some v ∧ Q v H := ⟨a, _, dx, _, _, rfl, e, t.c_Through, t.n_Through_deed, lk_Through_deed, q⟩
theorem ne_start_test : ((("start" : Str) == "test") = false) := by decide +kernel
theorem ne_start_testp : ¬ (("start" : Str) = "test") := by decide +kernel
theorem ne_start_deed : ((("start" : Str) == "deed") = false) := by decide +kernel
theorem ne_start_deedp : ¬ (("start" : Str) = "deed") := by decide +kernel
theorem lk_Through_start {v0 v1 v2 : V} : (fl_Through v0 v1 v2).lookup ("start" : Str) = some v2 := (lk2 ne_start_test).trans ((lk2 ne_start_deed).trans (lk1))
theorem fld_Through_start {K : PySem.W.Frag} {mg : Str → Option Value} (t : T K mg) {H : Hp} {a dx : Addr} {v0 v1 v2 : V} {Q : VK} (e : H a = some (.ins (He.ga K "Through") dx (fl_Through v0 v1 v2))) (q : Q v2 H) :
    ∃ a' C dx' fs v, V.ref a = .ref a' ∧ H a' = some (.ins C dx' fs) ∧ Cls K C ∧ NoAttr K C "start" ∧ fs.lookup ("start" : Str) = some v ∧ Q v H := ⟨a, _, dx, _, _, rfl, e, t.c_Through, t.n_Through_start, lk_Through_start, q⟩
theorem ne_bars_test : ((("bars" : Str) == "test") = false) := by decide +kernel
theorem ne_bars_testp : ¬ (("bars" : Str) = "test") := by decide +kernel
theorem ne_bars_deed : ((("bars" : Str) == "deed") = false) := by decide +kernel
theorem ne_bars_deedp : ¬ (("bars" : Str) = "deed") := by decide +kernel
theorem ne_bars_start : ((("bars" : Str) == "start") = false) := by decide +kernel
theorem ne_bars_startp : ¬ (("bars" : Str) = "start") := by decide +kernel
theorem lk_Through_bars {v0 v1 v2 : V} : (fl_Through v0 v1 v2).lookup ("bars" : Str) = none := (lk2 ne_bars_test).trans ((lk2 ne_bars_deed).trans ((lk2 ne_bars_start).trans (rfl)))
theorem ne_allows_test : ((("allows" : Str) == "test") = false) := by decide +kernel
theorem ne_allows_testp : ¬ (("allows" : Str) = "test") := by decide +kernel
theorem ne_allows_deed : ((("allows" : Str) == "deed") = false) := by decide +kernel
theorem ne_allows_deedp : ¬ (("allows" : Str) = "deed") := by decide +kernel
theorem ne_allows_start : ((("allows" : Str) == "start") = false) := by decide +kernel
theorem ne_allows_startp : ¬ (("allows" : Str) = "start") := by decide +kernel
theorem lk_Through_allows {v0 v1 v2 : V} : (fl_Through v0 v1 v2).lookup ("allows" : Str) = none := (lk2 ne_allows_test).trans ((lk2 ne_allows_deed).trans ((lk2 ne_allows_start).trans (rfl)))
theorem ne_test_deed : ((("test" : Str) == "deed") = false) := by decide +kernel
theorem ne_test_deedp : ¬ (("test" : Str) = "deed") := by decide +kernel
theorem ne_test_start : ((("test" : Str) == "start") = false) := by decide +kernel
theorem ne_test_startp : ¬ (("test" : Str) = "start") := by decide +kernel
theorem ne_deed_start : ((("deed" : Str) == "start") = false) := by decide +kernel
theorem ne_deed_startp : ¬ (("deed" : Str) = "start") := by decide +kernel
theorem put_Through {v0 v1 v2 : V} : putF "start" v2 (putF "deed" v1 (putF "test" v0 ([]))) = (fl_Through v0 v1 v2) := by
  rw [show putF "test" v0 [] = ([("test", v0)] : List (Str × V)) from by rfl]
  rw [show putF "deed" v1 [("test", v0)] = ([("test", v0), ("deed", v1)] : List (Str × V)) from by rw [put2 ne_test_deedp] <;> rfl]
  rw [show putF "start" v2 [("test", v0), ("deed", v1)] = ([("test", v0), ("deed", v1), ("start", v2)] : List (Str × V)) from by rw [put2 ne_test_startp, put2 ne_deed_startp] <;> rfl]
  rfl
theorem set_Through_test {v0 v1 v2 : V} {y : V} : putF "test" y (fl_Through v0 v1 v2) = fl_Through y v1 v2 := by
  unfold fl_Through
  rw [put1]
theorem set_Through_deed {v0 v1 v2 : V} {y : V} : putF "deed" y (fl_Through v0 v1 v2) = fl_Through v0 y v2 := by
  unfold fl_Through
  rw [put2 ne_test_deedp]
  rw [put1]
theorem set_Through_start {v0 v1 v2 : V} {y : V} : putF "start" y (fl_Through v0 v1 v2) = fl_Through v0 v1 y := by
  unfold fl_Through
  rw [put2 ne_test_startp, put2 ne_deed_startp]
  rw [put1]
end K98
set_option Elab.async false
set_option linter.all false
set_option maxRecDepth 100000
set_option maxHeartbeats 4000000
/-! rules of our own over the layer: a text times a number, a class without __init__, sorted of triples, zip of a text and a list, items of a dict with tuple keys -/
namespace K98
open PySem PySem.Spec PyProof.Rows L2
section
variable {X : Cx}

/-! ### one of several readings -/
theorem pe_any {ι : Type} {e : Expr} {t : ι → TE} (h : ∀ i, PE X e (t i)) : PE X e (fun σ H Q => ∃ i, t i σ H Q) :=
  ⟨fun pins s σ H Q I ⟨i, hw⟩ => (h i).run pins s σ H Q I hw⟩

/-! ### text * number -/
theorem op_mulS : OpR X (binaryOp .Mult) (fun x y H Q => ∃ (z : Str) (n : Int), x = .str z ∧ y = .int n ∧ z.length = 1 ∧ 0 ≤ n ∧ n ≤ 1000 ∧ Q (.str (Txt.mul z n)) H) := by
  rintro pins s σ H x y u v Q I rx ry ⟨z, n, rfl, rfl, h1, h2, h3, q⟩
  obtain ⟨t, rfl⟩ := rx
  obtain ⟨t', rfl⟩ := ry
  refine PySem.SB.mul (mulOk_of 1 1000 (by omega) (by omega) (by omega) (by omega) (by omega)) fun k1 k2 => ?_
  exact ⟨.str (Txt.mul z n), H, I.tok _, ⟨_, rfl⟩, q⟩

/-! ### C(), C without an __init__ -/
def tNew0 (C : Addr) : TE := fun _ H Q => ∀ x dx, H x = none → H dx = none → dx ≠ x → Q (.ref x) (upd (upd H dx (.own x)) x (.ins C dx []))
theorem run_new0 {C : Addr} {pins : List (Addr × Obj)} {σ : L2.St} {H : Hp} {s : Shared} {Q : VK} (hm : PySem.W.makesIn X.K C = true) (hi : PySem.W.findIn X.K (.ref C) "__init__" = some (some (.builtin "object.__init__")))
    (I : Inv X pins σ H s) (h : tNew0 C σ H Q) : wpAny (model X.prog X.w) X.A (call (.ref C) []) (EP X pins σ Q) X.xe s := by
  have z := h (s.heap.objs.size + 1) s.heap.objs.size (I.hok.fresh (Nat.le_succ _)) (I.hok.fresh (Nat.le_refl _)) (Nat.ne_of_lt (Nat.lt_succ_self _))
  have I2 := Inv.made (C := C) I
  have Y := PySem.W.makes_of (M := model X.prog X.w) I.kIn hm
  have hx : ((s.heap.push PySem.W.emptyDict).push (PySem.W.instObj C s.heap.objs.size)).get? (s.heap.objs.size + 1) = some (PySem.W.instObj C s.heap.objs.size) := by
    have q := Heap.get?_push_size (s.heap.push PySem.W.emptyDict) (o := PySem.W.instObj C s.heap.objs.size) rfl
    rwa [Heap.size_push] at q
  have t1 : PySem.W.Looks (model X.prog X.w) ((s.heap.push PySem.W.emptyDict).push (PySem.W.instObj C s.heap.objs.size)) (typeOf (.ref (s.heap.objs.size + 1))) (.ref C) := (PySem.W.Looks.ld hx).andThen .now
  have t2 : PySem.W.Looks (model X.prog X.w) ((s.heap.push PySem.W.emptyDict).push (PySem.W.instObj C s.heap.objs.size)) (isInstance (.ref (s.heap.objs.size + 1)) (.type "object")) true := t1.andThen (Y.top.keeps fun b o e => Heap.get?_push_of_some _ (Heap.get?_push_of_some _ e))
  refine wpAny_call (make_map0 I.kIn hm hi (fun self => PySem.W.Looks.of_pure (PySem.W.oi_bind self)) ?_)
  refine codeAny_call_builtin PySem.W.oi_plain PySem.W.entry_oi (@PySem.W.check_slot (model X.prog X.w) _ _ _ "object.__init__" "object" "__init__" (.ref (s.heap.objs.size + 1)) [] [] _ PySem.W.oi_kind PySem.W.oi_split t2 (PySem.W.oi_args _) ?_)
  rw [PySem.W.oi_run]
  exact wpAny_pure ⟨rfl, ⟨V.ref (s.heap.objs.size + 1), _, I2, rfl, z⟩⟩
theorem pe_new0 {C : Addr} {x : Str} {p pos : Pos} (hm : PySem.W.makesIn X.K C = true) (hi : PySem.W.findIn X.K (.ref C) "__init__" = some (some (.builtin "object.__init__"))) (kp : PySem.W.keepIn X.K (.ref C) = true) (hg : Gl X x) (mgC : X.mg x = some (.ref C))
    (hdb : (x == ("__debug__" : Str)) = false := by decide) : PE X (.Call (.Name x p) [] [] pos) (tNew0 C) := by
  refine ⟨fun pins s σ H Q I h => ?_⟩
  refine wpAny_Call_Name_kw (ld_glob I hg mgC ?_ hdb)
  exact PySem.W.callWith_K0 I.kIn kp (run_new0 hm hi I h)

/-! ### sorted(list of triples of ints), any length -/
abbrev I3 := Int × Int × Int
def enc3 (p : Addr × I3) : PyData := .tuple [.int p.2.1, .int p.2.2.1, .int p.2.2.2]
def le3 (p q : I3) : Bool := decide (p.1 < q.1 ∨ (p.1 = q.1 ∧ (p.2.1 < q.2.1 ∨ (p.2.1 = q.2.1 ∧ p.2.2 ≤ q.2.2))))
theorem lt3_iff (x y z x' y' z' : Int) : PySem.W.dataLt (.tuple [.int x, .int y, .int z]) (.tuple [.int x', .int y', .int z']) = decide (x < x' ∨ (x = x' ∧ (y < y' ∨ (y = y' ∧ z < z')))) := by
  rw [PySem.W.dataLt_tuple, PySem.W.dataLt_cons (by simp [PySem.W.alike]), PySem.W.dataLt_cons (by simp [PySem.W.alike]), PySem.W.dataLt_cons (by simp [PySem.W.alike]), PySem.W.dataLt_int, PySem.W.dataLt_int, PySem.W.dataLt_int]
  have e : PyProof.Rows.lexLt itemOrd (PySem.W.keyToksAll []) (PySem.W.keyToksAll []) = false := lex_irrefl _
  rw [e]
  simp only [PyData.eqv, beq_iff_eq]
  by_cases h1 : x = x' <;> by_cases h2 : y = y' <;> by_cases h3 : z = z' <;> simp [h1, h2, h3]
theorem dataLe3 : PySem.W.dataLe false enc3 = fun p q => le3 p.2 q.2 := by
  funext p q
  obtain ⟨a, x, y, z⟩ := p
  obtain ⟨b, x', y', z'⟩ := q
  show (!PySem.W.dataLt (.tuple [.int x', .int y', .int z']) (.tuple [.int x, .int y, .int z])) = le3 (x, y, z) (x', y', z')
  rw [lt3_iff]
  unfold le3
  by_cases h : x' < x ∨ (x' = x ∧ (y' < y ∨ (y' = y ∧ z' < z)))
  · have h' : ¬ (x < x' ∨ (x = x' ∧ (y < y' ∨ (y = y' ∧ z ≤ z')))) := by omega
    simp [h, h']
  · have h' : x < x' ∨ (x = x' ∧ (y < y' ∨ (y = y' ∧ z ≤ z'))) := by omega
    simp [h, h']
def sort3 (bs : List (Addr × I3)) : List (Addr × I3) := bs.mergeSort fun p q => le3 p.2 q.2
def refs (bs : List (Addr × I3)) : List V := bs.map fun b => V.ref b.1
/-- the tuples stand -/
def Trips (H : Hp) (bs : List (Addr × I3)) : Prop := ∀ b ∈ bs, H b.1 = some (.tup [.int b.2.1, .int b.2.2.1, .int b.2.2.2])
def rSort3 (K : PySem.W.Frag) : List V → Hp → VK → Prop := fun vs H Q => ∃ (a : Addr) (bs : List (Addr × I3)), vs = [V.ref a] ∧ SqL K H a (refs bs) ∧ Trips H bs ∧ ∀ p, H p = none → Q (.ref p) (upd H p (.lst (refs (sort3 bs))))
theorem each_refs {R : Value → Addr × I3 → Prop} : ∀ {bs : List (Addr × I3)} {us : List Value}, Vals (refs bs) us → (∀ b ∈ bs, R (.ref b.1) b) → PySem.W.EachIs R us bs
  | [], us, r, _ => by cases r; exact .nil
  | b :: bs, us, r, h => by
    cases r with
    | cons r1 r2 =>
      cases r1
      exact .cons (h b List.mem_cons_self) (each_refs r2 fun c hc => h c (List.mem_cons_of_mem _ hc))
theorem vals_each : ∀ {bs : List (Addr × I3)} {us : List Value}, PySem.W.EachIs (fun v (b : Addr × I3) => v = Value.ref b.1) us bs → Vals (refs bs) us
  | _, _, .nil => .nil
  | _, _, .cons h t => .cons h (vals_each t)
theorem cr_sort3 (hu : X.A.units + 64 < cLine) : CallR X (.builtin "sorted") (rSort3 X.K) := by
  intro pins s σ H vs us Q I r h
  obtain ⟨a, bs, rfl, hs, hb, q⟩ := h
  obtain ⟨its, rv, hl, hz⟩ := I.list hs
  obtain ⟨u, rfl, ru⟩ := vals1 r
  obtain rfl : u = Value.ref a := ru
  have hz2 : bs.length ≤ sizeLine := by
    have e : (refs bs).length = bs.length := List.length_map _
    rw [← e]
    exact hz
  have er : PySem.W.EachIs (fun v b => ∃ as, Reads s.heap v (enc3 b) as) its bs := each_refs rv fun b m => by
    have d : Dp X.K H (.ref b.1) (enc3 b) := .tup (SqT.of (hb b m)) (.cons (.int _) (.cons (.int _) (.cons (.int _) .nil)))
    exact Dp.reads I _ _ _ d rfl
  refine PySem.W.sorted_data (R := fun v (b : Addr × I3) => v = Value.ref b.1) hl.isList (each_refs rv fun _ _ => rfl) er (PySem.W.AllAlike.of fun b b' => by simp [enc3, PySem.W.alike, PySem.W.alikeAll]) (PySem.W.Sortable.tuples fun b => ⟨_, _, rfl⟩) hz2
    (fun b _ => ?_) fun out h1 h2 => ?_
  · have e : (enc3 b).depth ≤ 4 := by simp [enc3, PyData.depth, PyData.depthAll]
    omega
  · rw [dataLe3] at h2
    have h3 := vals_each h2
    obtain ⟨ep, he'⟩ := PyProof.Rows.sortedAll_at s.heap its out.toArray
    have hlen : (refs (sort3 bs)).length ≤ sizeLine := by
      have e : (refs (sort3 bs)).length = bs.length := (List.length_map _).trans (List.length_mergeSort _)
      rw [e]
      exact hz2
    exact ⟨.ref _, upd H (s.heap.objs.size + 1) (.lst (refs (sort3 bs))), I.laid (t' := s.toks) (fun _ _ => PyProof.Rows.sortedAll_old) (Nat.le_succ _) ⟨hlen, out, ep, h3, he'⟩, rfl, q _ (I.hok.fresh (Nat.le_succ _))⟩
end
end K98
set_option Elab.async false
set_option linter.all false
set_option maxRecDepth 100000
set_option maxHeartbeats 4000000
/-! what a for walks: zip of a text and a list; the items of a dict whose keys are tuples -/
namespace K98
open PySem PySem.Spec PyProof.Rows L2

/-! ### zip(text, list) -/
def Itzs (x : Str) (b : Addr) : It :=
  ⟨fun i H => ∃ (ys : List V) (y : V) (c : Nat), H b = some (.lst ys) ∧ ys[i]? = some y ∧ x.cps[i]? = some c,
    fun i H v H' => ∃ (P : Addr) (c : Nat) (y : V), v = .ref P ∧ H P = none ∧ H' = upd H P (.tup [.str ⟨#[c]⟩, y]) ∧ x.cps[i]? = some c ∧ ∀ ys, H b = some (.lst ys) → ys[i]? = some y,
    fun i H => ∃ ys : List V, H b = some (.lst ys) ∧ i ≤ x.cps.size ∧ i ≤ ys.length ∧ (i = x.cps.size ∨ i = ys.length)⟩
theorem offs (N : Nat) : N + 2 ≠ N + 4 ∧ N + 3 ≠ N + 4 ∧ N + 2 ≠ N + 3 ∧ N + 2 ≠ N ∧ N + 2 ≠ N + 1 ∧ N ≠ N + 4 ∧ N + 1 ≠ N + 4 := by omega
theorem below4 {N S : Nat} (h : N + 4 < S) : N + 2 < S ∧ N + 3 < S ∧ N < S ∧ N + 1 < S := by omega
theorem apart1 {b N : Nat} (h : b < N) : b ≠ N + 1 := by omega
theorem draws_text {prog : Program} {w : World} {A : Around} (hh : A.handled = none) (it : Addr) (x : Str) (t : Tok) :
    Draws prog w A it [it] x.cps.size (fun i v => ∃ c u, x.cps[i]? = some c ∧ v = .str ⟨#[c]⟩ u) (fun i h => h.IsStrIter it (strIterType x) x t i) := by
  unfold strIterType
  split
  · exact Draws.strAscii hh it x t
  · exact Draws.strWide hh it x t
theorem turn_zipS {P : Program} {w : World} {K : PySem.W.Frag} {elts : List Expr} {kk : Nat} {tpos : Pos} {x : Str} {t : Tok} {b N : Addr} (hb : b < N) :
    Turn P w K (.Tuple elts kk tpos) (Itzs x b) [N + 4, N + 2, N + 3, N, N + 1] (N + 4)
      (fun i h => IsZip h (N + 4) (N + 2) (N + 3) .none ∧ IsTupOf2 h (N + 2) (.ref N) (.ref (N + 1)) ∧ (∃ a1 a2, IsTupOf2 h (N + 3) a1 a2) ∧ h.IsStrIter N (strIterType x) x t i ∧ h.IsListIter (N + 1) b i) where
  mem := by simp
  obj := fun i h st c hc => by
    obtain ⟨hz, hTI, ⟨a1, a2, hTO⟩, ⟨o1, e1, _, d1⟩, ⟨o2, e2, _, d2⟩⟩ := st
    simp only [List.mem_cons, List.not_mem_nil, or_false] at hc
    rcases hc with rfl | rfl | rfl | rfl | rfl
    · exact ⟨_, hz, fun v q => nomatch q⟩
    · exact ⟨_, hTI, fun v q => nomatch q⟩
    · exact ⟨_, hTO, fun v q => nomatch q⟩
    · exact ⟨o1, e1, fun v q => by rw [d1] at q; cases q⟩
    · exact ⟨o2, e2, fun v q => by rw [d2] at q; cases q⟩
  keep := fun i h h' st k => by
    obtain ⟨hz, hTI, ⟨a1, a2, hTO⟩, ⟨o1, e1, r1⟩, h2⟩ := st
    exact ⟨k _ (by simp) _ hz, k _ (by simp) _ hTI, ⟨a1, a2, k _ (by simp) _ hTO⟩, ⟨o1, k _ (by simp) _ e1, r1⟩, h2.at fun o q => k _ (by simp) o q⟩
  item := by
    intro X hP hw hK hc i pins s σ H E I hf st hg
    subst hP hw hK
    obtain ⟨hz, hTI, ⟨a1, a2, hTO⟩, h1, h2⟩ := st
    obtain ⟨ys, y, c, hl, hy, hx⟩ := hg
    obtain ⟨zl, its, n, rv, ho⟩ := I.hok b _ hl
    obtain ⟨u, hu, ru⟩ := rv.get hy
    have hlist : s.heap.IsList b its.toArray := ⟨_, ho, rfl, n, rfl⟩
    have hi1 : i < x.cps.size := (Array.getElem?_eq_some_iff.mp hx).1
    have hi2 : i < its.toArray.size := by
      have q := (List.getElem?_eq_some_iff.mp hu).1
      simpa using q
    have hA : X.A.in1.handled = none := I.ok.hd hc
    have hzl : N + 4 < s.heap.objs.size := Heap.lt_size hz
    refine wpAny_pyNext_zipD2_item (zip_sep2 (N := N) (fp1 := []) (fp2 := [b]) (fun _ m => absurd m (by simp)) (fun d m => by rw [List.mem_singleton.mp m]; exact hb))
      (draws_text (prog := X.prog) (w := X.w) hA N x t) (Draws.list (prog := X.prog) (w := X.w) hA (N + 1) b (apart1 hb) its.toArray) hz hTI hTO h1 ⟨h2, hlist⟩ hi1 hi2 fun x1 x2 h' tk p1 p2 z' hTO' h1' h2' hT hsz hk => ?_
    obtain ⟨c', u', hc', rfl⟩ := p1
    have ec : c' = c := by rw [hx] at hc'; exact (Option.some.inj hc').symm
    subst ec
    have eu : u = x2 := by
      have q : its.toArray[i]? = some u := by simpa using hu
      rw [q] at p2
      exact Option.some.inj p2
    subst eu
    refine ⟨_, rfl, wpAny_letOwnedTupleGo_zip (s := { s with heap := h', toks := tk }) z' fun h'' z'' sb => ?_⟩
    have hT2 : h''.get? s.heap.objs.size = some { cls := .type "tuple", data := .seq #[.str ⟨#[c']⟩ u', u] } := (sb.2 _ (Nat.ne_of_gt hzl)).trans hT
    have new : ObjOk X.prog X.w (upd H s.heap.objs.size (.tup [.str ⟨#[c']⟩, y])) h'' s.heap.objs.size (.tup [.str ⟨#[c']⟩, y]) :=
      ⟨by show 2 ≤ sizeLine; decide, [.str ⟨#[c']⟩ u', u], .cons ⟨_, rfl⟩ (.cons ru .nil), ⟨_, hT2, rfl, _, rfl⟩⟩
    have I1 : Inv X pins σ (upd H s.heap.objs.size (.tup [.str ⟨#[c']⟩, y])) { s with heap := h'', toks := tk } := by
      refine I.turnedNew (ch := [N + 4, N + 2, N + 3, N, N + 1]) (fun d o hd q => ?_) hf (Nat.le_refl _) new
      simp only [List.mem_cons, List.not_mem_nil, or_false, not_or] at hd
      exact (sb.2 d hd.1).trans (hk d o hd.1 hd.2.2.1 hd.2.2.2.1 hd.2.2.2.2 q)
    obtain ⟨n42, n34, n23, n20, n21, n04, n14⟩ := offs N
    refine ⟨.ref s.heap.objs.size, _, I1, rfl, ⟨_, c', y, rfl, I.hok.fresh (Nat.le_refl _), rfl, hx, fun ls hq => ?_⟩, ⟨z'', ?_, ⟨.str ⟨#[c']⟩ u', u, ?_⟩, ?_, ?_⟩, fun d hd => ?_⟩
    · rw [hl] at hq
      cases hq
      exact hy
    · exact (sb.2 _ n42).trans (hk _ _ n42 n23 n20 n21 hTI)
    · exact (sb.2 _ n34).trans hTO'
    · obtain ⟨o, e, r⟩ := h1'
      exact ⟨o, (sb.2 _ n04).trans e, r⟩
    · exact h2'.1.at fun o q => (sb.2 _ n14).trans q
    · have hlt : d < s.heap.objs.size := by
        simp only [List.mem_cons, List.not_mem_nil, or_false] at hd
        obtain ⟨l2, l3, l0, l1⟩ := below4 hzl
        rcases hd with rfl | rfl | rfl | rfl | rfl
        · exact hzl
        · exact l2
        · exact l3
        · exact l0
        · exact l1
      rw [upd_ne (Nat.ne_of_lt hlt)]
      exact (hf d hd).1
  done := by
    intro X hP hw hK hc i pins s σ H E I hf st hg
    subst hP hw hK
    obtain ⟨hz, hTI, ⟨a1, a2, hTO⟩, h1, h2⟩ := st
    obtain ⟨ys, hl, hi1, hi2, hend⟩ := hg
    obtain ⟨zl, its, n, rv, ho⟩ := I.hok b _ hl
    have hlist : s.heap.IsList b its.toArray := ⟨_, ho, rfl, n, rfl⟩
    have hA : X.A.in1.handled = none := I.ok.hd hc
    have ez : its.toArray.size = ys.length := by rw [List.size_toArray]; exact rv.length.symm
    refine wpAny_pyNext_zipD2_end (zip_sep2 (N := N) (fp1 := []) (fp2 := [b]) (fun _ m => absurd m (by simp)) (fun d m => by rw [List.mem_singleton.mp m]; exact hb))
      (draws_text (prog := X.prog) (w := X.w) hA N x t) (Draws.list (prog := X.prog) (w := X.w) hA (N + 1) b (apart1 hb) its.toArray) hz hTI hTO h1 ⟨h2, hlist⟩ hi1 (by rw [ez]; exact hi2) (by rw [ez]; exact hend) fun h' tk hk => ⟨rfl, ?_⟩
    refine I.turnedL (ch := [N + 4, N + 2, N + 3, N, N + 1]) (fun d o hd q => ?_) hf
    simp only [List.mem_cons, List.not_mem_nil, or_false, not_or] at hd
    exact hk d o hd.1 hd.2.2.1 hd.2.2.2.1 hd.2.2.2.2 q
  self := fun A i s Q E st h => wpAny_pyIter_zip st.1 h
def iZipS (ta : TA) : TI := fun σ H R => ta σ H fun vs H1 => ∃ (x : Str) (b : Addr) (ys : List V), vs = [.str x, .ref b] ∧ H1 b = some (.lst ys) ∧ R (Itzs x b) H1
theorem pi_zipS {X : Cx} {e e2 : Expr} {ta : TA} {p pos tpos : Pos} {elts : List Expr} {kk : Nat} (hg : Gl X "zip") (hm : X.mg "zip" = none) (ha : PA X [e, e2] ta)
    (hs : starEach [e, e2] X.env = (false, eval e X.env) :: starEach [e2] X.env := by rfl) (hpl : (backTo pos (starEach [e2] X.env)).any (·.1) = false := by rfl) :
    PI X (.Tuple elts kk tpos) (.Call (.Name "zip" p) [e, e2] [] pos) (iZipS ta) := by
  refine ⟨fun pins s σ H R I h => ?_⟩
  refine Call_ (ld_blt I hg hm PyProof.Rows.boot_zip (PyProof.Rows.callWith_type1 (thn (ha.run pos pins s σ H _ I h) fun us s1 ⟨vs, H1, I1, r1, q1⟩ => ?_) hs hpl))
  obtain ⟨x, b, ys, ex, hl, q⟩ := q1
  subst ex
  obtain ⟨u1, u2, rfl, ⟨t, rfl⟩, r2⟩ := vals2 r1
  obtain rfl : u2 = Value.ref b := r2
  obtain ⟨zl, its, n, rv, ho⟩ := I1.hok b _ hl
  have hlist : s1.heap.IsList b its.toArray := ⟨_, ho, rfl, n, rfl⟩
  have lb : b < s1.heap.objs.size := Heap.lt_size ho
  refine zip_begins2 (begins_text x t) (begins_list b its.toArray) trivial hlist fun h' hz hTI hTO h1 h2 hsz hk => wpAny_pyIter_zip hz ?_
  have I2 : Inv X pins σ H1 { s1 with heap := h' } := I1.kept (t' := s1.toks) hk
  refine ⟨s1.heap.objs.size + 4, _, _, _, H1, rfl, I2, turn_zipS (t := t) lb, ⟨hz, hTI, ⟨_, _, hTO⟩, ⟨_, h1, rfl, rfl⟩, ⟨_, h2, rfl, rfl⟩⟩, fun c hcm => ?_, q⟩
  simp only [List.mem_cons, List.not_mem_nil, or_false] at hcm
  have hle : s1.heap.objs.size ≤ c := by
    rcases hcm with rfl | rfl | rfl | rfl | rfl
    · exact Nat.le_add_right _ _
    · exact Nat.le_add_right _ _
    · exact Nat.le_add_right _ _
    · exact Nat.le_refl _
    · exact Nat.le_add_right _ _
  exact I1.fpOk hle (I1.hok.fresh hle)
theorem walk_zipS {x : Str} {b : Addr} {ys : List V} {n : Nat} (h1 : n = x.cps.size) (h2 : n = ys.length) : Walk (Itzs x b) n (fun H => H b = some (.lst ys))
    (fun i H v H' => ∃ (P : Addr) (c : Nat) (y : V), v = .ref P ∧ H P = none ∧ H' = upd H P (.tup [.str ⟨#[c]⟩, y]) ∧ x.cps[i]? = some c ∧ ys[i]? = some y) := by
  refine ⟨fun i H hi q => ⟨ys, ys[i]'(by omega), x.cps[i]'(by omega), q, by simp, by simp⟩, fun H q => ⟨ys, q, by omega, by omega, .inl h1⟩, fun i H v H' hi q y => ?_⟩
  obtain ⟨P, c, z, e1, e2, e3, e4, e5⟩ := y
  exact ⟨P, c, z, e1, e2, e3, e4, e5 ys q⟩

/-! ### d.items(), the keys tuples; the dict is locked -/
def Itit (d : Addr) (o : Obj) (kvs : List (List Key × V)) : It :=
  ⟨fun i H => H d = some (.frz o (.dT kvs)) ∧ i < kvs.length,
    fun i H x H' => ∃ (P q : Addr) (k : List Key) (v : V), kvs[i]? = some (k, v) ∧ x = .ref P ∧ H P = none ∧ H q = some (.tup (k.map kV)) ∧ H' = upd H P (.tup [.ref q, v]),
    fun i H => H d = some (.frz o (.dT kvs)) ∧ kvs.length ≤ i⟩
theorem pr_at {α β : Type} {R : α → β → Prop} : ∀ {xs : List α} {ys : List β}, Paired R xs ys → ∀ {i : Nat} {x : α}, xs[i]? = some x → ∃ y, ys[i]? = some y ∧ R x y
  | _, _, .nil, i, x, h => by simp at h
  | _, _, .cons r t, 0, x, h => by
    simp only [List.getElem?_cons_zero, Option.some.injEq] at h
    subst h
    exact ⟨_, by simp, r⟩
  | _, _, .cons r t, i + 1, x, h => by
    simp only [List.getElem?_cons_succ] at h
    obtain ⟨y, e, q⟩ := pr_at t h
    exact ⟨y, by simpa using e, q⟩
/-- what a locked dict with tuple keys is, entry by entry -/
theorem frz_dT {X : Cx} {pins : List (Addr × Obj)} {σ : L2.St} {H : Hp} {s : Shared} {d : Addr} {o : Obj} {kvs : List (List Key × V)} (I : Inv X pins σ H s) (h : H d = some (.frz o (.dT kvs))) :
    (d == sysModules) = false ∧ ∃ (es : Array DictEntry) (ep : Nat), s.heap.DictRaw d es ep ∧ o.data = .dict es ep ∧ es.size = kvs.length ∧
      ∀ (i : Nat) (hi : i < es.size) (k : List Key) (v : V), kvs[i]? = some (k, v) → ∃ q : Addr, es[i].key = .ref q ∧ H q = some (.tup (k.map kV)) ∧ RelV v es[i].val := by
  obtain ⟨ho', zl, sm, xs, pr, o', es, ep, ho, hx, hdt, he, _⟩ := I.hok d _ h
  have eo : o = o' := by
    rw [ho] at ho'
    exact (Option.some.inj ho').symm
  subst eo
  have l1 : es.size = xs.length := size_of_entries he
  have l2 : kvs.length = xs.length := Paired.length pr
  refine ⟨sm, es, ep, ⟨o, ho, hx, hdt⟩, hdt, by omega, fun i hi k v e => ?_⟩
  obtain ⟨b, hb, e1, e2, e3⟩ := pr_at pr e
  have q := entry_at he i
  rw [hb, Array.getElem?_eq_getElem hi] at q
  have q2 := Option.some.inj q
  exact ⟨b.2.1, by rw [q2] <;> rfl, e2, by rw [q2]; exact e3⟩
theorem turn_itemsT {P : Program} {w : World} {K : PySem.W.Frag} {d : Addr} {o : Obj} {es : Array DictEntry} {ep : Nat} {kvs : List (List Key × V)} {elts : List Expr} {kk : Nat} {tpos : Pos} (it : Addr) (hod : o.data = .dict es ep) :
    Turn P w K (.Tuple elts kk tpos) (Itit d o kvs) [it] it (fun i h => ∃ ok ov, IsItemIter h it d i es.size ep ok ov) where
  mem := by simp
  obj := fun i h st b hb => by
    obtain ⟨ok, ov, e⟩ := st
    rw [List.mem_singleton.mp hb]
    exact ⟨_, e, fun v z => nomatch z⟩
  keep := fun i h h' st k => let ⟨ok, ov, e⟩ := st; ⟨ok, ov, k it (by simp) _ e⟩
  item := by
    intro X hP hw hK hc i pins s σ H E I hf st hg
    subst hP hw hK
    obtain ⟨hd, hi⟩ := hg
    obtain ⟨sm, es', ep', raw, hdt, hsz, ent⟩ := frz_dT I hd
    obtain ⟨e1, e2⟩ := dict_ep hod hdt
    subst e1 e2
    obtain ⟨ok, ov, he⟩ := st
    have hie : i < es'.size := by rw [hsz]; exact hi
    obtain ⟨k, v, hkv⟩ : ∃ k v, kvs[i]? = some (k, v) := ⟨kvs[i].1, kvs[i].2, List.getElem?_eq_getElem hi⟩
    obtain ⟨q, hk, hq, rv⟩ := ent i hie k v hkv
    have hlt : it < s.heap.objs.size := Heap.lt_size he
    refine wpAny_pyNext_items_item_raw he raw hie fun h' ho hT hz hkp => ?_
    rw [hk] at ho hT
    refine ⟨_, rfl, wpAny_letOwnedTupleGo_items (s := { s with heap := h' }) ho fun h'' he' sb => ?_⟩
    have hT2 : h''.get? s.heap.objs.size = some { cls := .type "tuple", data := .seq #[.ref q, es'[i].val] } := (sb.2 _ (Nat.ne_of_gt hlt)).trans hT
    have new : ObjOk X.prog X.w (upd H s.heap.objs.size (.tup [.ref q, v])) h'' s.heap.objs.size (.tup [.ref q, v]) :=
      ⟨by show 2 ≤ sizeLine; decide, [.ref q, es'[i].val], .cons rfl (.cons rv .nil), ⟨_, hT2, rfl, _, rfl⟩⟩
    have I1 : Inv X pins σ (upd H s.heap.objs.size (.tup [.ref q, v])) { s with heap := h'' } :=
      I.turnedNew (t' := s.toks) (ch := [it]) (fun b ob hb e => (sb.2 b (fun z => hb (by rw [z]; simp))).trans (hkp b ob (fun z => hb (by rw [z]; simp)) e)) hf (Nat.le_refl _) new
    refine ⟨.ref s.heap.objs.size, _, I1, rfl, ⟨_, q, k, v, hkv, rfl, I.hok.fresh (Nat.le_refl _), hq, rfl⟩, ⟨_, _, he'⟩, fun b hb => ?_⟩
    rw [List.mem_singleton.mp hb, upd_ne (Nat.ne_of_lt hlt)]
    exact (hf it (by simp)).1
  done := by
    intro X hP hw hK hc i pins s σ H E I hf st hg
    subst hP hw hK
    obtain ⟨hd, hi⟩ := hg
    obtain ⟨f0, f1, f2, f3, f4, f5⟩ := hf it (by simp)
    obtain ⟨sm, es', ep', raw, hdt, hsz, ent⟩ := frz_dT I hd
    obtain ⟨e1, e2⟩ := dict_ep hod hdt
    subst e1 e2
    obtain ⟨ok, ov, he⟩ := st
    exact wpAny_pyNext_items_end_raw (I.ok.hd hc) he raw (by rw [hsz]; exact hi) fun h' eb => ⟨rfl, I.turned (t' := s.toks) (fun b o hb e => eb b o hb e) f0 f1 f3 f4 f5⟩
  self := fun A i s Q E st h => let ⟨_, _, e⟩ := st; wpAny_pyIter_itemiter e h
def iItemsT (td : TE) : TI := fun σ H R => td σ H fun x H1 => ∃ d o kvs, x = .ref d ∧ H1 d = some (.frz o (.dT kvs)) ∧ R (Itit d o kvs) H1
theorem pi_itemsT {X : Cx} {e : Expr} {td : TE} {apos cpos tpos : Pos} {elts : List Expr} {kk : Nat} (he : PE X e td) (hbase : attributeBase e "items" X.env (eval e X.env) = eval e X.env := by rfl) (hline : (apos.endLine == cpos.line) = true := by rfl) :
    PI X (.Tuple elts kk tpos) (.Call (.Attribute e "items" apos) [] [] cpos) (iItemsT td) := by
  refine ⟨fun pins s σ H R I h => ?_⟩
  refine wpAny_Call_method (T := "dict") (id := "dict.items") hbase rfl hline F.plainAttrs_dict F.slot_dict_items F.type_dict_items (thn (he.run pins s σ H _ I h) fun u s1 ⟨x, H1, I1, rx, d, o, kvs, ex, hd, q⟩ => ?_)
  subst ex
  obtain rfl : u = Value.ref d := rx
  obtain ⟨sm, es, ep, raw, hdt, hsz, ent⟩ := frz_dT I1 hd
  obtain ⟨od, hod, hxd, hdd⟩ := id raw
  have I2 : Inv X pins σ H1 { s1 with heap := s1.heap.push { cls := .type "dict_items", data := .fields #[.ref d] } } := I1.kept (t' := s1.toks) fun b ob q => Heap.get?_push_of_some _ q
  have raw2 : (s1.heap.push { cls := .type "dict_items", data := .fields #[.ref d] }).DictRaw d es ep := raw.at fun o e => Heap.get?_push_of_some _ e
  refine ⟨raw.typeIs, (fun a e => by cases e; exact ⟨od, hod, hxd.2.1⟩), ?_⟩
  have fin : wpAny (model X.prog X.w) X.A (pyIter (.ref s1.heap.objs.size)) (PIE X pins σ (.Tuple elts kk tpos) R) X.xe { s1 with heap := s1.heap.push { cls := .type "dict_items", data := .fields #[.ref d] } } :=
    wpAny_pyIter_items_raw (d := d) ⟨_, Heap.get?_push_size _ rfl, rfl, rfl⟩ raw2 (pi_one (tk := s1.toks) I2 _ (turn_itemsT _ hdt) ⟨.none, .none, Heap.get?_push_size _ rfl⟩ q)
  show wpAny _ _ (callWith cpos (.builtin "dict.items") [.ref d] [] []) _ X.xe s1
  exact method_meetsIn F.slot_dict_items F.entry_dict_items rfl (PySem.evalArgs_none ⟨rfl, raw.typeIs, F.args_dict_items_1 _, _, meets_dict_items_raw d sm, ⟨es, ep, raw⟩, fin⟩)
theorem walk_itemsT {d : Addr} {o : Obj} {kvs : List (List Key × V)} : Walk (Itit d o kvs) kvs.length (fun H => H d = some (.frz o (.dT kvs)))
    (fun i H x H' => ∃ (P q : Addr) (k : List Key) (v : V), kvs[i]? = some (k, v) ∧ x = .ref P ∧ H P = none ∧ H q = some (.tup (k.map kV)) ∧ H' = upd H P (.tup [.ref q, v])) :=
  ⟨fun _ _ hi q => ⟨q, hi⟩, fun _ q => ⟨q, Nat.le_refl _⟩, fun _ _ _ _ _ _ y => y⟩
end K98
set_option Elab.async false
set_option linter.all false
set_option maxRecDepth 100000
set_option maxHeartbeats 4000000
/-! data: what the program's objects stand for; heaps; how a def is told -/
namespace K98
open PySem PySem.Spec PyProof.Rows L2 SX

/-! ### heaps -/
/-- a heap without some objects -/
def Off (bad : List Addr) (H : Hp) : Hp := fun a => if a ∈ bad then none else H a
theorem off_le {bad : List Addr} {H : Hp} : Same (Off bad H) H := fun a o h => by
  unfold Off at h
  split at h
  · cases h
  · exact h
theorem off_same {bad : List Addr} {H H' : Hp} (s : Same H H') : Same (Off bad H) (Off bad H') := fun a o h => by
  unfold Off at h ⊢
  split at h
  · cases h
  · rename_i q
    rw [if_neg q]
    exact s _ _ h
theorem off_upd {bad : List Addr} {H : Hp} {a : Addr} {o : HO} (h : a ∈ bad) : Off bad (upd H a o) = Off bad H := by
  funext b
  unfold Off
  split
  · rfl
  · rename_i q
    exact upd_ne fun e => q (by rw [e]; exact h)
theorem off_at {bad : List Addr} {H : Hp} {a : Addr} {o : HO} (h : H a = some o) (n : a ∉ bad) : Off bad H a = some o := by
  unfold Off
  rw [if_neg n]
  exact h
theorem off_in {bad : List Addr} {H : Hp} {a : Addr} (h : a ∈ bad) : Off bad H a = none := if_pos h
/-- what stood ahead of the bad ones stands -/
theorem same_off {bad : List Addr} {G H : Hp} (s : Same G H) (n : ∀ a ∈ bad, G a = none) : Same G (Off bad H) := fun a o h => off_at (s _ _ h) fun q => by
  rw [n a q] at h
  cases h
theorem same_new {H : Hp} {p : Addr} (h : H p = none) (o : HO) : Same H (upd H p o) := fun b u q => by
  rw [upd_ne (ne_of_none q h)]
  exact q
/-- an object that G does not know may change -/
theorem same_mut {G H : Hp} {p : Addr} (s : Same G H) (h : G p = none) (o : HO) : Same G (upd H p o) := fun b u q => by
  rw [upd_ne (ne_of_none q h)]
  exact s _ _ q
theorem same_new2 {H : Hp} {x dx : Addr} (h : H x = none) (h' : H dx = none) (o u : HO) : Same H (upd (upd H dx u) x o) := same_mut (same_new h' u) h o

/-! ### an instance -/
theorem lt_put1 {f : Str} {v : V} : (putF f v []).length < 1000 := Nat.lt_of_le_of_lt (length_putF f v []) (by decide)
theorem lt_put2 {f g : Str} {v u : V} : (putF f v (putF g u [])).length < 1000 := Nat.lt_of_le_of_lt (length_putF f v _) (Nat.lt_of_le_of_lt (Nat.succ_le_succ (length_putF g u [])) (by decide))
theorem lt_put3 {f g h : Str} {v u z : V} : (putF f v (putF g u (putF h z []))).length < 1000 := Nat.lt_of_le_of_lt (length_putF f v _) (Nat.lt_of_le_of_lt (Nat.succ_le_succ (length_putF g u _)) (Nat.lt_of_le_of_lt (Nat.succ_le_succ (Nat.succ_le_succ (length_putF h z []))) (by decide)))
theorem lt_fl {n : Nat} {l : List (Str × V)} (h : l.length = n) (h2 : n ≤ 4 := by decide) : l.length < 1000 := by omega
def Ins (K : PySem.W.Frag) (H : Hp) (v : V) (x : Str) (fs : List (Str × V)) : Prop := ∃ a dx, v = .ref a ∧ H a = some (.ins (He.ga K x) dx fs)
theorem Ins.mono {K : PySem.W.Frag} {H H' : Hp} {v : V} {x : Str} {fs : List (Str × V)} (s : Same H H') (h : Ins K H v x fs) : Ins K H' v x fs := let ⟨a, dx, e, q⟩ := h; ⟨a, dx, e, s _ _ q⟩

/-! ### tests -/
inductive Tst where
  | yes
  | named (i : Nat)
  | nott (t : Tst)
def Tst.holds : Tst → Nat → Bool
  | .yes, _ => true
  | .named i, s => s.testBit i
  | .nott t, s => !t.holds s
def Tst.depth : Tst → Nat
  | .yes => 1
  | .named _ => 1
  | .nott t => t.depth + 1
def TstAt (K : PySem.W.Frag) (H : Hp) : Tst → V → Prop
  | .yes, v => Ins K H v "Yes" fl_Yes
  | .named i, v => i < 4 ∧ Ins K H v "Named" (fl_Named (.str (S [97 + i])))
  | .nott t, v => ∃ u, Ins K H v "Not" (fl_Not u) ∧ TstAt K H t u
theorem TstAt.mono {K : PySem.W.Frag} {H H' : Hp} (s : Same H H') : ∀ {t : Tst} {v : V}, TstAt K H t v → TstAt K H' t v
  | .yes, _, h => Ins.mono s h
  | .named _, _, h => ⟨h.1, h.2.mono s⟩
  | .nott _, _, h => let ⟨u, a, b⟩ := h; ⟨u, a.mono s, TstAt.mono s b⟩

/-! ### programs -/
inductive Stp where
  | skip
  | deed (c : Nat)
  | row (a b : Stp)
  | loop (t : Tst) (b : Stp)
def StpAt (K : PySem.W.Frag) (H : Hp) : Stp → V → Prop
  | .skip, v => Ins K H v "Skip" fl_Skip
  | .deed c, v => Ins K H v "Deed" (fl_Deed (.str (S [c])))
  | .row a b, v => ∃ x y, Ins K H v "Row" (fl_Row x y) ∧ StpAt K H a x ∧ StpAt K H b y
  | .loop t b, v => ∃ x y, Ins K H v "Loop" (fl_Loop x y) ∧ TstAt K H t x ∧ StpAt K H b y
theorem StpAt.mono {K : PySem.W.Frag} {H H' : Hp} (s : Same H H') : ∀ {p : Stp} {v : V}, StpAt K H p v → StpAt K H' p v
  | .skip, _, h => Ins.mono s h
  | .deed _, _, h => Ins.mono s h
  | .row _ _, _, h => let ⟨x, y, a, b, c⟩ := h; ⟨x, y, a.mono s, StpAt.mono s b, StpAt.mono s c⟩
  | .loop _ _, _, h => let ⟨x, y, a, b, c⟩ := h; ⟨x, y, a.mono s, b.mono s, StpAt.mono s c⟩
def Stp.depth : Stp → Nat
  | .skip => 1
  | .deed _ => 1
  | .row a b => max a.depth b.depth + 1
  | .loop _ b => b.depth + 1
/-- its tests are no deeper than three -/
def Stp.tests : Stp → Bool
  | .skip => true
  | .deed _ => true
  | .row a b => a.tests && b.tests
  | .loop t b => decide (t.depth ≤ 3) && b.tests
inductive Fst where
  | done
  | hung
  | deed (c : Nat) (l : Stp)
def Fst.what : Fst → Str
  | .done => "done"
  | .hung => "hung"
  | .deed c _ => S [c]
def LeftAt (K : PySem.W.Frag) (H : Hp) : Fst → V → Prop
  | .done, v => v = .non
  | .hung, v => v = .non
  | .deed _ l, v => StpAt K H l v
theorem LeftAt.mono {K : PySem.W.Frag} {H H' : Hp} (s : Same H H') : ∀ {f : Fst} {v : V}, LeftAt K H f v → LeftAt K H' f v
  | .done, _, h => h
  | .hung, _, h => h
  | .deed _ _, _, h => StpAt.mono s h
def Stp.first : Stp → Nat → Fst
  | .skip, _ => .done
  | .deed c, _ => .deed c .skip
  | .row a b, s => match a.first s with
    | .done => b.first s
    | .hung => .hung
    | .deed c l => .deed c (.row l b)
  | .loop t b, s => if t.holds s = true then (match b.first s with
    | .done => .hung
    | .hung => .hung
    | .deed c l => .deed c (.row l (.loop t b))) else .done
def Stp.letters : Stp → List Nat
  | .skip => []
  | .deed c => [c]
  | .row a b => a.letters ++ b.letters
  | .loop _ b => b.letters
/-- the i-th of the signs -/
def sg (i : Nat) : Nat := if i < 10 then 48 + i else 55 + i
def Stp.num : Stp → Nat → Stp
  | .skip, _ => .skip
  | .deed _, k => .deed (sg k)
  | .row a b, k => .row (a.num k) (b.num (k + a.letters.length))
  | .loop t b, k => .loop t (b.num k)
def Stp.left : Stp → Nat → Stp
  | .skip, _ => .skip
  | .deed _, _ => .skip
  | .row a b, k => if a.letters.length < k then b.left (k - a.letters.length) else .row (a.left k) b
  | .loop t b, k => .row (b.left k) (.loop t b)

/-! ### how a def is told -/
section
variable {P : Program} {w : World} {K : PySem.W.Frag} {mg : Str → Option Value} {base : Heap}
theorem cal_of {x : Str} {st : Stmt} {f : Addr} {N ps : List Str} {k : Nat} {sp : Sp} (d : Fn K x x st ps f) (hm : mg x = some (.ref f)) (S : FnScope N ps (defScope st)) (len : ∀ vs H Q E, sp vs H Q E → vs.length = ps.length)
    (hbody : ∀ (fd : FuncData) (cdv : Value) (A : Around) (outer : List Env) (s : Shared) (H : Hp) (vs : List V) (Q : VK) (E : XK), Room k (A.deeper (envOfC x (defScope st) s.heap.objs.size f cdv)) → sp vs H Q E →
      ∃ t, PSs (cxOf L2.CX0 P w K mg base N x (defScope st) f cdv A outer s H E).nox (defBody st) t ∧ t { nx := fun _ H' => Q .non H', rt := Q } (start N vs) H) : C8.Cal P w K mg base (k + 1) x sp [] := by
  obtain ⟨fd, F, b⟩ := d.ex
  exact ⟨f, fd, ps, [], F.ok S len (hbody fd), hm, F.kp, b, .nil⟩
theorem met_of {m qual : Str} {C : Addr} {st : Stmt} {f : Addr} {N ps : List Str} {k : Nat} {sp : Sp} (c : Cls K C) (me : Meth K C m f) (d : Fn K m qual st ps f) (S : FnScope N ps (defScope st)) (len : ∀ vs H Q E, sp vs H Q E → vs.length = ps.length)
    (hbody : ∀ (fd : FuncData) (cdv : Value) (A : Around) (outer : List Env) (s : Shared) (H : Hp) (vs : List V) (Q : VK) (E : XK), Room k (A.deeper (envOfC qual (defScope st) s.heap.objs.size f cdv)) → sp vs H Q E →
      ∃ t, PSs (cxOf L2.CX0 P w K mg base N qual (defScope st) f cdv A outer s H E).nox (defBody st) t ∧ t { nx := fun _ H' => Q .non H', rt := Q } (start N vs) H) : C8.Met P w K mg base (k + 1) C m sp [] := by
  obtain ⟨fd, F, b⟩ := d.ex
  exact ⟨f, fd, ps, [], c, me, F.ok S len (hbody fd), b, .nil⟩
theorem mak_of {x qual : Str} {C : Addr} {st : Stmt} {f : Addr} {N ps : List Str} {k : Nat} {sp : Sp} (M : Mk K C f) (hm : mg x = some (.ref C)) (d : Fn K "__init__" qual st ps f) (S : FnScope N ps (defScope st)) (len : ∀ vs H Q E, sp vs H Q E → vs.length = ps.length)
    (hbody : ∀ (fd : FuncData) (cdv : Value) (A : Around) (outer : List Env) (s : Shared) (H : Hp) (vs : List V) (Q : VK) (E : XK), Room k (A.deeper (envOfC qual (defScope st) s.heap.objs.size f cdv)) → sp vs H Q E →
      ∃ t, PSs (cxOf L2.CX0 P w K mg base N qual (defScope st) f cdv A outer s H E).nox (defBody st) t ∧ t { nx := fun _ H' => Q .non H', rt := Q } (start N vs) H) : C8.Mak P w K mg base (k + 1) x C sp [] := by
  obtain ⟨fd, F, b⟩ := d.ex
  exact ⟨f, fd, ps, [], M, F.ok S len (hbody fd), hm, b, .nil⟩
theorem fn_none {f : Addr} {fd : FuncData} {ps : List Str} {k : Nat} {sp : Sp} (no : ∀ vs H Q E, ¬ sp vs H Q E) : FnOk P w K mg base L2.CX0 k f fd ps sp :=
  ⟨fun vs H Q E h => absurd h (no vs H Q E), fun A outer s H args us vs Q E _ _ _ _ h => absurd h (no vs H Q E)⟩
theorem met_none {m qual : Str} {C : Addr} {st : Stmt} {f : Addr} {ps : List Str} {k : Nat} {sp : Sp} (c : Cls K C) (me : Meth K C m f) (d : Fn K m qual st ps f) (no : ∀ vs H Q E, ¬ sp vs H Q E) : C8.Met P w K mg base k C m sp [] := by
  obtain ⟨fd, F, b⟩ := d.ex
  exact ⟨f, fd, ps, [], c, me, fn_none no, b, .nil⟩
theorem cal_none {x : Str} {st : Stmt} {f : Addr} {ps : List Str} {k : Nat} {sp : Sp} (d : Fn K x x st ps f) (hm : mg x = some (.ref f)) (no : ∀ vs H Q E, ¬ sp vs H Q E) : C8.Cal P w K mg base k x sp [] := by
  obtain ⟨fd, F, b⟩ := d.ex
  exact ⟨f, fd, ps, [], fn_none no, hm, F.kp, b, .nil⟩
end

theorem rel_int (i : Int) (t : Tok) : L2.RelV (.int i) (.int i t) := ⟨t, rfl⟩
theorem rel_ref (a : Addr) : L2.RelV (.ref a) (.ref a) := rfl
theorem rel_str (x : Str) (t : Tok) : L2.RelV (.str x) (.str x t) := ⟨t, rfl⟩

/-! ### masks -/
theorem and_nat (a b : Nat) : Builtin.bitAnd (a : Int) (b : Int) = ((a &&& b : Nat) : Int) := by
  unfold Builtin.bitAnd
  rw [decide_eq_true (Int.natCast_nonneg a), decide_eq_true (Int.natCast_nonneg b)]
  rfl
theorem or_nat (a b : Nat) : Builtin.bitOr (a : Int) (b : Int) = ((a ||| b : Nat) : Int) := by
  unfold Builtin.bitOr Builtin.bitAnd Builtin.bitNot
  rw [decide_eq_false (show ¬ (0 : Int) ≤ -(a : Int) - 1 by omega), decide_eq_false (show ¬ (0 : Int) ≤ -(b : Int) - 1 by omega)]
  have e1 : (-(-(a : Int) - 1) - 1).toNat = a := by omega
  have e2 : (-(-(b : Int) - 1) - 1).toNat = b := by omega
  show -(-(((-(-(a : Int) - 1) - 1).toNat ||| (-(-(b : Int) - 1) - 1).toNat : Nat) : Int) - 1) - 1 = _
  rw [e1, e2]
  omega
theorem bit1 (m s : Nat) : decide (V.int (Builtin.bitAnd ((m : Int) / 2 ^ ((s : Int)).toNat) 1) = V.int 1) = m.testBit s := by
  have e : ((m : Int) / 2 ^ ((s : Int)).toNat) = ((m / 2 ^ s : Nat) : Int) := by
    rw [Int.toNat_natCast, Int.natCast_ediv, Int.natCast_pow]
    rfl
  have e2 : ((m / 2 ^ s : Nat) : Int) % 2 = ((m / 2 ^ s % 2 : Nat) : Int) := by omega
  rw [e, PyProof.Rows.bitAnd_m1, e2]
  rw [Nat.testBit_eq_decide_div_mod_eq]
  by_cases h : m / 2 ^ s % 2 = 1
  · rw [h, decide_eq_true rfl]
    exact decide_eq_true rfl
  · rw [decide_eq_false h]
    refine decide_eq_false fun q => h ?_
    have q2 := V.int.inj q
    exact Int.ofNat.inj q2
def setsOf (m : Nat) : List Nat := (List.range 16).filter fun s => m.testBit s
theorem setsOf_lt {m s : Nat} (h : s ∈ setsOf m) : s < 16 := List.mem_range.mp (List.mem_filter.mp h).1
theorem setsOf_len (m : Nat) : (setsOf m).length ≤ 16 := Nat.le_trans (List.length_filter_le _ _) (by simp)
end K98
set_option Elab.async false
set_option linter.all false
set_option maxRecDepth 100000
set_option maxHeartbeats 4000000
/-! settings_of, the tests -/
namespace K98
open PySem PySem.Spec PyProof.Rows L2 SX
section
variable {P : Program} {w : World} {K : PySem.W.Frag} {mg : Str → Option Value} {base : Heap}
def vset (l : List Nat) : List V := l.map fun s => V.int (s : Nat)
def spSettings : Sp := fun vs H Q _ => ∃ m : Nat, vs = [.int m] ∧ ∀ p H', Same H H' → H p = none → H' p = some (.lst (vset (setsOf m))) → Q (.ref p) H'
def setsTo (m i : Nat) : List Nat := (List.range i).filter fun s => m.testBit s
theorem setsTo_succ (m i : Nat) : setsTo m (i + 1) = if m.testBit i = true then setsTo m i ++ [i] else setsTo m i := by
  unfold setsTo
  rw [List.range_succ, List.filter_append]
  by_cases h : m.testBit i = true
  · rw [if_pos h, List.filter_cons, if_pos h]
    rfl
  · rw [if_neg h, List.filter_cons, if_neg h, List.filter_nil, List.append_nil]
theorem setsTo_len (m i : Nat) : (setsTo m i).length ≤ i := Nat.le_trans (List.length_filter_le _ _) (by simp)
theorem sc_settings_of : FnScope ["mask", "setting"] ["mask"] (defScope st_settings_of) := ⟨rfl, rfl, rfl, by decide +kernel, rfl, by decide +kernel, by decide +kernel⟩
theorem c_settings_of (t : T K mg) : C8.Cal P w K mg base 1 "settings_of" spSettings [] := by
  refine cal_of t.d_settings_of t.g_settings_of sc_settings_of (fun vs H Q E h => ?_) (fun fd cdv A outer s H vs Q E hr h => ?_)
  · obtain ⟨m, rfl, _⟩ := h
    rfl
  obtain ⟨m, rfl, q⟩ := h
  obtain ⟨tS, hS⟩ := t.i_SETTINGS
  refine ⟨_, pss_one (ps_ret (pe_lc (own := [("setting", 1)]) (g := gName 1) (by rfl) sc_settings_of.nd (pi_range1 rfl t.f_range (pa_cons (pe_glob rfl hS (rel_int _ _)) pa_nil))
    (blkOk_by (own := [("setting", 1)]) (N := ["mask", "setting"]) (sc := defScope st_settings_of) (by decide +kernel)) (fun _ _ _ _ _ => pg_name (i := 1) sc_settings_of.nd rfl (Or.inl rfl))
    (fun _ _ _ _ _ => pts_one (pt_cmpR op_eq (pe_op op_and (pe_op op_shr (pv 0) (pv 1)) pe_int) pe_int (nomark _))) (fun _ _ _ _ _ => pv 1))), ?_⟩
  refine ⟨16, rfl, by decide, by decide, fun D hD => ?_⟩
  refine lc_range (lo := 0) (n := 16) (fun i H' => Same H H' ∧ H' D = some (.lst (vset (setsTo m i)))) ⟨same_new hD _, upd_same⟩ ?_ ?_
  · rintro i H' hi ⟨s1, e1⟩
    refine ⟨rfl, _, rfl, _, rfl, _, _, rfl, rfl, (by show (0 : Int) ≤ 0 + (i : Int); omega), _, _, rfl, rfl, rfl, _, rfl, ?_⟩
    have e0 : (0 : Int) + (i : Int) = (i : Int) := by omega
    rw [e0, bit1]
    refine ite2 (fun c => ?_) (fun c => ?_)
    · refine ⟨_, rfl, _, e1, Nat.lt_of_le_of_lt (Nat.le_trans (Nat.le_of_eq (List.length_map _)) (setsTo_len m i)) (Nat.lt_of_lt_of_le hi (by decide)), same_mut s1 hD _, ?_⟩
      rw [upd_same, setsTo_succ, if_pos c]
      show _ = some (HO.lst (vset (setsTo m i ++ [i])))
      unfold vset
      rw [List.map_append]
      rfl
    · refine ⟨s1, ?_⟩
      rw [setsTo_succ, if_neg c]
      exact e1
  · rintro H' ⟨s1, e1⟩
    exact q D H' s1 hD e1

/-! ### tests -/
inductive TK where
  | yes | named | nott
def TK.cls : TK → Str
  | .yes => "Yes"
  | .named => "Named"
  | .nott => "Not"
def Tst.kind : Tst → TK
  | .yes => .yes
  | .named _ => .named
  | .nott _ => .nott
def spHolds (K : PySem.W.Frag) (kd : TK) (k : Nat) : Sp := fun vs H Q _ => ∃ (v : V) (s : Nat) (t : Tst), vs = [v, .int s] ∧ s < 16 ∧ t.kind = kd ∧ TstAt K H t v ∧ t.depth ≤ k ∧ Q (.bl (t.holds s)) H
theorem holds_pos (t : Tst) : 1 ≤ t.depth := by cases t <;> simp [Tst.depth]
theorem holds_no {kd : TK} : ∀ vs H Q E, ¬ spHolds K kd 0 vs H Q E := fun vs H Q E h => by
  obtain ⟨v, s, t, _, _, _, _, hd, _⟩ := h
  have := holds_pos t
  omega
theorem at_holds {H : Hp} {t : Tst} {u : V} (h : TstAt K H t u) : ∃ a dx fs, u = .ref a ∧ H a = some (.ins (He.ga K t.kind.cls) dx fs) ∧ fs.lookup ("holds" : Str) = none := by
  cases t with
  | yes => obtain ⟨a, dx, e, q⟩ := h; exact ⟨a, dx, _, e, q, lk_Yes_holds⟩
  | named i => obtain ⟨_, a, dx, e, q⟩ := h; exact ⟨a, dx, _, e, q, lk_Named_holds⟩
  | nott t => obtain ⟨_, ⟨a, dx, e, q⟩, _⟩ := h; exact ⟨a, dx, _, e, q, lk_Not_holds⟩
theorem sc_Yes_holds : FnScope ["self", "setting"] ["self", "setting"] (defScope st_Yes_holds) := ⟨rfl, rfl, rfl, by decide +kernel, rfl, by decide +kernel, by decide +kernel⟩
theorem sc_Named_holds : FnScope ["self", "setting"] ["self", "setting"] (defScope st_Named_holds) := ⟨rfl, rfl, rfl, by decide +kernel, rfl, by decide +kernel, by decide +kernel⟩
theorem sc_Not_holds : FnScope ["self", "setting"] ["self", "setting"] (defScope st_Not_holds) := ⟨rfl, rfl, rfl, by decide +kernel, rfl, by decide +kernel, by decide +kernel⟩
theorem holds_len {kd : TK} {k : Nat} (vs : List V) (H : Hp) (Q : VK) (E : XK) (h : spHolds K kd k vs H Q E) : vs.length = (["self", "setting"] : List Str).length := by
  obtain ⟨v, s, t, rfl, _⟩ := h
  rfl
theorem find_letter : ∀ i : Fin 4, Txt.find ("abcd" : Str) (S [97 + i.val]) = (i.val : Int) := by decide +kernel
theorem m_holds (t : T K mg) : ∀ (k : Nat) (kd : TK), C8.Met P w K mg base k (He.ga K kd.cls) "holds" (spHolds K kd k) []
  | 0, .yes => met_none t.c_Yes t.m_Yes_holds t.d_Yes_holds holds_no
  | 0, .named => met_none t.c_Named t.m_Named_holds t.d_Named_holds holds_no
  | 0, .nott => met_none t.c_Not t.m_Not_holds t.d_Not_holds holds_no
  | k + 1, .yes => by
    refine met_of t.c_Yes t.m_Yes_holds t.d_Yes_holds sc_Yes_holds holds_len (fun fd cdv A outer s H vs Q E hr h => ?_)
    obtain ⟨v, s', u, rfl, hs, hk, hu, hd, q⟩ := h
    refine ⟨_, pss_one (ps_ret pe_bl), ?_⟩
    cases u with
    | yes => exact q
    | named i => cases hk
    | nott t => cases hk
  | k + 1, .named => by
    refine met_of t.c_Named t.m_Named_holds t.d_Named_holds sc_Named_holds holds_len (fun fd cdv A outer s H vs Q E hr h => ?_)
    obtain ⟨v, s', u, rfl, hs, hk, hu, hd, q⟩ := h
    obtain ⟨tL, hL⟩ := t.s_LETTERS
    refine ⟨_, pss_one (ps_ret (pe_cmpR op_eq (pe_op op_and (pe_op op_shr (pv 1) (pe_m1 PySem.F.slot_str_find PySem.F.type_str_find mt_find (pe_glob rfl hL (rel_str _ _)) (pe_fld (pv 0) rfl))) pe_int) pe_int (nomark _))), ?_⟩
    cases u with
    | yes => cases hk
    | nott t => cases hk
    | named i =>
      obtain ⟨hi, a, dx, rfl, ha⟩ := hu
      refine ⟨_, rfl, ⟨_, rfl⟩, _, rfl, a, _, dx, _, _, rfl, ha, t.c_Named, t.n_Named_name, lk_Named_name, ?_⟩
      refine ⟨_, _, rfl, rfl, ?_⟩
      have e := find_letter ⟨i, hi⟩
      rw [show Txt.find ("abcd" : Str) (S [97 + i]) = (i : Int) from e]
      refine ⟨_, _, rfl, rfl, Int.natCast_nonneg _, _, _, rfl, rfl, rfl, ?_⟩
      rw [bit1]
      exact q
  | k + 1, .nott => by
    have ih := m_holds t k
    refine met_of t.c_Not t.m_Not_holds t.d_Not_holds sc_Not_holds holds_len (fun fd cdv A outer s H vs Q E hr h => ?_)
    obtain ⟨v, s', u, rfl, hs, hk, hu, hd, q⟩ := h
    refine ⟨_, pss_one (ps_ret (pe_not (pe_any fun kd => C8.pe_mt (ih kd) hr (Nat.le_refl _) (pe_fld (pv 0) rfl) (pa_cons (pv 1) pa_nil)))), ?_⟩
    cases u with
    | yes => cases hk
    | named i => cases hk
    | nott z =>
      obtain ⟨y, ⟨a, dx, rfl, ha⟩, hz⟩ := hu
      obtain ⟨b, db, fs, rfl, hb, hl⟩ := at_holds hz
      refine ⟨z.kind, _, rfl, a, _, dx, _, _, rfl, ha, t.c_Not, t.n_Not_inner, lk_Not_inner, b, db, fs, rfl, hb, hl, _, rfl, _, s', z, rfl, hs, rfl, hz, ?_, _, rfl, ?_⟩
      · simp only [Tst.depth] at hd
        omega
      · exact q
end
end K98
set_option Elab.async false
set_option linter.all false
set_option maxRecDepth 100000
set_option maxHeartbeats 4000000
/-! __init__s that keep their arguments (printed by gen_inits.py) -/
namespace K98
open PySem PySem.Spec PyProof.Rows L2 SX
section
variable {P : Program} {w : World} {K : PySem.W.Frag} {mg : Str → Option Value} {base : Heap}
def spIni1 (K : PySem.W.Frag) (C : Str) (fl : V → List (Str × V)) : Sp := fun vs H Q _ => ∃ (x dx : Addr) (v : V), vs = [.ref x, v] ∧ H x = some (.ins (He.ga K C) dx []) ∧ Q .non (upd H x (.ins (He.ga K C) dx (fl v)))
def spIni2 (K : PySem.W.Frag) (C : Str) (fl : V → V → List (Str × V)) : Sp := fun vs H Q _ => ∃ (x dx : Addr) (u v : V), vs = [.ref x, u, v] ∧ H x = some (.ins (He.ga K C) dx []) ∧ Q .non (upd H x (.ins (He.ga K C) dx (fl u v)))
/-- a new instance -/
def NewI (K : PySem.W.Frag) (H H' : Hp) (r : V) (C : Str) (fs : List (Str × V)) : Prop := ∃ a dx, r = .ref a ∧ H a = none ∧ H' a = some (.ins (He.ga K C) dx fs)
theorem NewI.ins {H H' : Hp} {r : V} {C : Str} {fs : List (Str × V)} (h : NewI K H H' r C fs) : Ins K H' r C fs := let ⟨a, dx, e, _, q⟩ := h; ⟨a, dx, e, q⟩
theorem use_ini1 {C : Str} {fl : V → List (Str × V)} {H : Hp} {v : V} {Qv : VK} {E : XK} {x dx : Addr} (hx : H x = none) (hd : H dx = none) (h : ∀ H', Same H H' → NewI K H H' (.ref x) C (fl v) → Qv .non H') :
    spIni1 K C fl (.ref x :: ([v] ++ [])) (upd (upd H dx (.own x)) x (.ins (He.ga K C) dx [])) Qv E := by
  refine ⟨x, dx, v, rfl, upd_same, ?_⟩
  rw [upd_upd]
  exact h _ (same_new2 hx hd _ _) ⟨x, dx, rfl, hx, upd_same⟩
theorem use_ini2 {C : Str} {fl : V → V → List (Str × V)} {H : Hp} {u v : V} {Qv : VK} {E : XK} {x dx : Addr} (hx : H x = none) (hd : H dx = none) (h : ∀ H', Same H H' → NewI K H H' (.ref x) C (fl u v) → Qv .non H') :
    spIni2 K C fl (.ref x :: ([u, v] ++ [])) (upd (upd H dx (.own x)) x (.ins (He.ga K C) dx [])) Qv E := by
  refine ⟨x, dx, u, v, rfl, upd_same, ?_⟩
  rw [upd_upd]
  exact h _ (same_new2 hx hd _ _) ⟨x, dx, rfl, hx, upd_same⟩
theorem sc_Named_init : FnScope ["self", "name"] ["self", "name"] (defScope st_Named_init) := ⟨rfl, rfl, rfl, by decide +kernel, rfl, by decide +kernel, by decide +kernel⟩
theorem k_Named (t : T K mg) : C8.Mak P w K mg base 1 "Named" (He.ga K "Named") (spIni1 K "Named" fl_Named) [] := by
  refine mak_of t.mk_Named t.gc_Named t.d_Named_init sc_Named_init (fun vs H Q E h => ?_) (fun fd cdv A outer s H vs Q E hr h => ?_)
  · obtain ⟨x, dx, v, rfl, _⟩ := h
    rfl
  obtain ⟨x, dx, v, rfl, hx, q⟩ := h
  refine ⟨_, pss_one (ps_fld (pv 0) (pv 1) rfl), ?_⟩
  refine ⟨_, rfl, _, rfl, x, _, dx, _, rfl, hx, t.c_Named, t.n_Named_name, (by first | decide | exact lt_put1 | exact lt_put2 | exact lt_put3 | exact lt_fl rfl), ?_⟩
  show Q .non (upd H x (.ins (He.ga K "Named") dx (putF "name" v [])))
  rw [put_Named]
  exact q
theorem sc_Not_init : FnScope ["self", "inner"] ["self", "inner"] (defScope st_Not_init) := ⟨rfl, rfl, rfl, by decide +kernel, rfl, by decide +kernel, by decide +kernel⟩
theorem k_Not (t : T K mg) : C8.Mak P w K mg base 1 "Not" (He.ga K "Not") (spIni1 K "Not" fl_Not) [] := by
  refine mak_of t.mk_Not t.gc_Not t.d_Not_init sc_Not_init (fun vs H Q E h => ?_) (fun fd cdv A outer s H vs Q E hr h => ?_)
  · obtain ⟨x, dx, v, rfl, _⟩ := h
    rfl
  obtain ⟨x, dx, v, rfl, hx, q⟩ := h
  refine ⟨_, pss_one (ps_fld (pv 0) (pv 1) rfl), ?_⟩
  refine ⟨_, rfl, _, rfl, x, _, dx, _, rfl, hx, t.c_Not, t.n_Not_inner, (by first | decide | exact lt_put1 | exact lt_put2 | exact lt_put3 | exact lt_fl rfl), ?_⟩
  show Q .non (upd H x (.ins (He.ga K "Not") dx (putF "inner" v [])))
  rw [put_Not]
  exact q
theorem sc_Deed_init : FnScope ["self", "name"] ["self", "name"] (defScope st_Deed_init) := ⟨rfl, rfl, rfl, by decide +kernel, rfl, by decide +kernel, by decide +kernel⟩
theorem k_Deed (t : T K mg) : C8.Mak P w K mg base 1 "Deed" (He.ga K "Deed") (spIni1 K "Deed" fl_Deed) [] := by
  refine mak_of t.mk_Deed t.gc_Deed t.d_Deed_init sc_Deed_init (fun vs H Q E h => ?_) (fun fd cdv A outer s H vs Q E hr h => ?_)
  · obtain ⟨x, dx, v, rfl, _⟩ := h
    rfl
  obtain ⟨x, dx, v, rfl, hx, q⟩ := h
  refine ⟨_, pss_one (ps_fld (pv 0) (pv 1) rfl), ?_⟩
  refine ⟨_, rfl, _, rfl, x, _, dx, _, rfl, hx, t.c_Deed, t.n_Deed_name, (by first | decide | exact lt_put1 | exact lt_put2 | exact lt_put3 | exact lt_fl rfl), ?_⟩
  show Q .non (upd H x (.ins (He.ga K "Deed") dx (putF "name" v [])))
  rw [put_Deed]
  exact q
theorem sc_Row_init : FnScope ["self", "head", "tail"] ["self", "head", "tail"] (defScope st_Row_init) := ⟨rfl, rfl, rfl, by decide +kernel, rfl, by decide +kernel, by decide +kernel⟩
theorem k_Row (t : T K mg) : C8.Mak P w K mg base 1 "Row" (He.ga K "Row") (spIni2 K "Row" fl_Row) [] := by
  refine mak_of t.mk_Row t.gc_Row t.d_Row_init sc_Row_init (fun vs H Q E h => ?_) (fun fd cdv A outer s H vs Q E hr h => ?_)
  · obtain ⟨x, dx, u, v, rfl, _⟩ := h
    rfl
  obtain ⟨x, dx, u, v, rfl, hx, q⟩ := h
  refine ⟨_, pss_cons (ps_fld (pv 0) (pv 1) rfl) (pss_one (ps_fld (pv 0) (pv 2) rfl)), ?_⟩
  refine ⟨_, rfl, _, rfl, x, _, dx, _, rfl, hx, t.c_Row, t.n_Row_head, (by first | decide | exact lt_put1 | exact lt_put2 | exact lt_put3 | exact lt_fl rfl), ?_⟩
  refine ⟨_, rfl, _, rfl, x, _, dx, _, rfl, upd_same, t.c_Row, t.n_Row_tail, (by first | decide | exact lt_put1 | exact lt_put2 | exact lt_put3 | exact lt_fl rfl), ?_⟩
  rw [upd_upd]
  show Q .non (upd H x (.ins (He.ga K "Row") dx (putF "tail" v (putF "head" u []))))
  rw [put_Row]
  exact q
theorem sc_Loop_init : FnScope ["self", "test", "body"] ["self", "test", "body"] (defScope st_Loop_init) := ⟨rfl, rfl, rfl, by decide +kernel, rfl, by decide +kernel, by decide +kernel⟩
theorem k_Loop (t : T K mg) : C8.Mak P w K mg base 1 "Loop" (He.ga K "Loop") (spIni2 K "Loop" fl_Loop) [] := by
  refine mak_of t.mk_Loop t.gc_Loop t.d_Loop_init sc_Loop_init (fun vs H Q E h => ?_) (fun fd cdv A outer s H vs Q E hr h => ?_)
  · obtain ⟨x, dx, u, v, rfl, _⟩ := h
    rfl
  obtain ⟨x, dx, u, v, rfl, hx, q⟩ := h
  refine ⟨_, pss_cons (ps_fld (pv 0) (pv 1) rfl) (pss_one (ps_fld (pv 0) (pv 2) rfl)), ?_⟩
  refine ⟨_, rfl, _, rfl, x, _, dx, _, rfl, hx, t.c_Loop, t.n_Loop_test, (by first | decide | exact lt_put1 | exact lt_put2 | exact lt_put3 | exact lt_fl rfl), ?_⟩
  refine ⟨_, rfl, _, rfl, x, _, dx, _, rfl, upd_same, t.c_Loop, t.n_Loop_body, (by first | decide | exact lt_put1 | exact lt_put2 | exact lt_put3 | exact lt_fl rfl), ?_⟩
  rw [upd_upd]
  show Q .non (upd H x (.ins (He.ga K "Loop") dx (putF "body" v (putF "test" u []))))
  rw [put_Loop]
  exact q
end
end K98
set_option Elab.async false
set_option linter.all false
set_option maxRecDepth 100000
set_option maxHeartbeats 4000000
/-! programs: first, letters -/
namespace K98
open PySem PySem.Spec PyProof.Rows L2 SX
section
variable {P : Program} {w : World} {K : PySem.W.Frag} {mg : Str → Option Value} {base : Heap}
inductive SK where
  | skip | deed | row | loop
def SK.cls : SK → Str
  | .skip => "Skip"
  | .deed => "Deed"
  | .row => "Row"
  | .loop => "Loop"
def Stp.kind : Stp → SK
  | .skip => .skip
  | .deed _ => .deed
  | .row _ _ => .row
  | .loop _ _ => .loop
def FstAt (K : PySem.W.Frag) (H : Hp) (f : Fst) (r : V) : Prop := ∃ a lv, r = .ref a ∧ H a = some (.tup [.str f.what, lv]) ∧ LeftAt K H f lv
def spFirst (K : PySem.W.Frag) (kd : SK) (k : Nat) : Sp := fun vs H Q _ => ∃ (v : V) (s : Nat) (p : Stp), vs = [v, .int s] ∧ s < 16 ∧ p.kind = kd ∧ StpAt K H p v ∧ p.tests = true ∧ p.depth ≤ k ∧ ∀ r H', Same H H' → FstAt K H' (p.first s) r → Q r H'
def spLetters (K : PySem.W.Frag) (kd : SK) (k : Nat) : Sp := fun vs H Q _ => ∃ (v : V) (p : Stp), vs = [v] ∧ p.kind = kd ∧ StpAt K H p v ∧ p.depth ≤ k ∧ p.letters.length ≤ 100 ∧ Q (.str (S p.letters)) H
theorem depth_pos (p : Stp) : 1 ≤ p.depth := by cases p <;> simp [Stp.depth]
theorem first_no {kd : SK} : ∀ vs H Q E, ¬ spFirst K kd 0 vs H Q E := fun vs H Q E h => by
  obtain ⟨v, s, p, _, _, _, _, _, hd, _⟩ := h
  have := depth_pos p
  omega
theorem letters_no {kd : SK} : ∀ vs H Q E, ¬ spLetters K kd 0 vs H Q E := fun vs H Q E h => by
  obtain ⟨v, p, _, _, _, hd, _⟩ := h
  have := depth_pos p
  omega
theorem first_len {kd : SK} {k : Nat} (vs : List V) (H : Hp) (Q : VK) (E : XK) (h : spFirst K kd k vs H Q E) : vs.length = (["self", "setting"] : List Str).length := by
  obtain ⟨v, s, p, rfl, _⟩ := h
  rfl
theorem letters_len {kd : SK} {k : Nat} (vs : List V) (H : Hp) (Q : VK) (E : XK) (h : spLetters K kd k vs H Q E) : vs.length = (["self"] : List Str).length := by
  obtain ⟨v, p, rfl, _⟩ := h
  rfl
theorem at_stp {H : Hp} {p : Stp} {u : V} (h : StpAt K H p u) : ∃ a dx fs, u = .ref a ∧ H a = some (.ins (He.ga K p.kind.cls) dx fs) ∧ fs.lookup ("first" : Str) = none ∧ fs.lookup ("letters" : Str) = none := by
  cases p with
  | skip => obtain ⟨a, dx, e, q⟩ := h; exact ⟨a, dx, _, e, q, lk_Skip_first, lk_Skip_letters⟩
  | deed c => obtain ⟨a, dx, e, q⟩ := h; exact ⟨a, dx, _, e, q, lk_Deed_first, lk_Deed_letters⟩
  | row x y => obtain ⟨_, _, ⟨a, dx, e, q⟩, _⟩ := h; exact ⟨a, dx, _, e, q, lk_Row_first, lk_Row_letters⟩
  | loop x y => obtain ⟨_, _, ⟨a, dx, e, q⟩, _⟩ := h; exact ⟨a, dx, _, e, q, lk_Loop_first, lk_Loop_letters⟩
theorem fst_ne {c : Nat} : ¬ V.str (S [c]) = V.str "done" := fun h => by
  have e : (S [c]).length = ("done" : Str).length := congrArg Str.length (V.str.inj h)
  have e1 : ("done" : Str).length = 4 := by decide +kernel
  rw [S_len, e1] at e
  exact absurd e (by simp)
theorem hung_ne : ¬ V.str "hung" = V.str "done" := fun h => absurd (V.str.inj h) (by decide +kernel)
theorem sc_Step_first : FnScope ["self", "setting"] ["self", "setting"] (defScope st_Step_first) := ⟨rfl, rfl, rfl, by decide +kernel, rfl, by decide +kernel, by decide +kernel⟩
theorem sc_Deed_first : FnScope ["self", "setting"] ["self", "setting"] (defScope st_Deed_first) := ⟨rfl, rfl, rfl, by decide +kernel, rfl, by decide +kernel, by decide +kernel⟩
theorem sc_Row_first : FnScope ["self", "setting", "what", "left"] ["self", "setting"] (defScope st_Row_first) := ⟨rfl, rfl, rfl, by decide +kernel, rfl, by decide +kernel, by decide +kernel⟩
theorem sc_Loop_first : FnScope ["self", "setting", "what", "left"] ["self", "setting"] (defScope st_Loop_first) := ⟨rfl, rfl, rfl, by decide +kernel, rfl, by decide +kernel, by decide +kernel⟩
theorem sc_Step_letters : FnScope ["self"] ["self"] (defScope st_Step_letters) := ⟨rfl, rfl, rfl, by decide +kernel, rfl, by decide +kernel, by decide +kernel⟩
theorem sc_Deed_letters : FnScope ["self"] ["self"] (defScope st_Deed_letters) := ⟨rfl, rfl, rfl, by decide +kernel, rfl, by decide +kernel, by decide +kernel⟩
theorem sc_Row_letters : FnScope ["self"] ["self"] (defScope st_Row_letters) := ⟨rfl, rfl, rfl, by decide +kernel, rfl, by decide +kernel, by decide +kernel⟩
theorem sc_Loop_letters : FnScope ["self"] ["self"] (defScope st_Loop_letters) := ⟨rfl, rfl, rfl, by decide +kernel, rfl, by decide +kernel, by decide +kernel⟩
theorem d_Skip_first (t : T K mg) : Fn K "first" "Step.first" st_Step_first ["self", "setting"] (He.ma K (He.ga K "Skip") "first") := by
  rw [t.same_Skip_first]
  exact t.d_Step_first
theorem d_Skip_letters (t : T K mg) : Fn K "letters" "Step.letters" st_Step_letters ["self"] (He.ma K (He.ga K "Skip") "letters") := by
  rw [t.same_Skip_letters]
  exact t.d_Step_letters
theorem m_first (t : T K mg) : ∀ (k : Nat) (kd : SK), C8.Met P w K mg base (k + 3) (He.ga K kd.cls) "first" (spFirst K kd k) []
  | 0, .skip => met_none t.c_Skip t.m_Skip_first (d_Skip_first t) first_no
  | 0, .deed => met_none t.c_Deed t.m_Deed_first t.d_Deed_first first_no
  | 0, .row => met_none t.c_Row t.m_Row_first t.d_Row_first first_no
  | 0, .loop => met_none t.c_Loop t.m_Loop_first t.d_Loop_first first_no
  | k + 1, .skip => by
    refine met_of (k := k + 3) t.c_Skip t.m_Skip_first (d_Skip_first t) sc_Step_first first_len (fun fd cdv A outer s H vs Q E hr h => ?_)
    obtain ⟨v, s', p, rfl, hs, hk, hp, ht, hd, q⟩ := h
    refine ⟨_, pss_one (ps_ret (pe_tup (pa_cons pe_str (pa_cons pe_non pa_nil)))), ?_⟩
    cases p with
    | skip => exact ⟨by show 2 ≤ sizeLine; decide, fun a ha => q _ _ (same_new ha _) ⟨a, _, rfl, upd_same, rfl⟩⟩
    | deed c => cases hk
    | row x y => cases hk
    | loop x y => cases hk
  | k + 1, .deed => by
    refine met_of (k := k + 3) t.c_Deed t.m_Deed_first t.d_Deed_first sc_Deed_first first_len (fun fd cdv A outer s H vs Q E hr h => ?_)
    obtain ⟨v, s', p, rfl, hs, hk, hp, ht, hd, q⟩ := h
    refine ⟨_, pss_one (ps_ret (pe_tup (pa_cons (pe_fld (pv 0) rfl) (pa_cons (pe_new0 t.noi_Skip.made t.noi_Skip.ini t.k_Skip rfl t.gc_Skip) pa_nil)))), ?_⟩
    cases p with
    | skip => cases hk
    | row x y => cases hk
    | loop x y => cases hk
    | deed c =>
      obtain ⟨a, dx, rfl, ha⟩ := hp
      refine ⟨_, rfl, a, _, dx, _, _, rfl, ha, t.c_Deed, t.n_Deed_name, lk_Deed_name, fun x d hx hd ne => ?_⟩
      refine ⟨by show 2 ≤ sizeLine; decide, fun b hb => ?_⟩
      have s1 := same_new2 hx hd (.ins (He.ga K "Skip") d []) (.own x)
      have s2 := same_new hb (.tup [.str (S [c]), .ref x])
      exact q _ _ (s1.trans s2) ⟨b, _, rfl, upd_same, ⟨x, d, rfl, s2 _ _ upd_same⟩⟩
  | k + 1, .row => by
    have ih := m_first t k
    refine met_of (k := k + 3) t.c_Row t.m_Row_first t.d_Row_first sc_Row_first first_len (fun fd cdv A outer s H vs Q E hr h => ?_)
    obtain ⟨v, s', p, rfl, hs, hk, hp, ht, hd, q⟩ := h
    refine ⟨_, pss_cons (ps_asg (pe_any fun kd => C8.pe_mt (ih kd) hr (Nat.le_refl _) (pe_fld (pv 0) rfl) (pa_cons (pv 1) pa_nil)) (pg_tup (by rfl) (pgs_cons (pg_name (i := 2) sc_Row_first.nd rfl (.inl rfl)) (pgs_cons (pg_name (i := 3) sc_Row_first.nd rfl (.inl rfl)) pgs_nil))))
      (pss_cons (ps_if (pt_cmpR op_eq (pv 2) pe_str (nomark _)) (pss_one (ps_ret (pe_any fun kd => C8.pe_mt (ih kd) hr (Nat.le_refl _) (pe_fld (pv 0) rfl) (pa_cons (pv 1) pa_nil)))) pss_nil)
      (pss_cons (ps_if (pt_cmp (pc_isN (pv 3))) (pss_one (ps_ret (pe_tup (pa_cons (pv 2) (pa_cons pe_non pa_nil))))) pss_nil)
      (pss_one (ps_ret (pe_tup (pa_cons (pv 2) (pa_cons (C8.pe_mk (k_Row t) hr (by omega) rfl (pa_cons (pv 3) (pa_cons (pe_fld (pv 0) rfl) pa_nil))) pa_nil))))))), ?_⟩
    cases p with
    | skip => cases hk
    | deed c => cases hk
    | loop x y => cases hk
    | row a b =>
      obtain ⟨x, y, ⟨r, dr, rfl, hR⟩, hA, hB⟩ := hp
      simp only [Stp.tests, Bool.and_eq_true] at ht
      simp only [Stp.depth] at hd
      obtain ⟨xa, dxa, fsa, rfl, hxa, la, _⟩ := at_stp hA
      obtain ⟨ya, dya, fsb, rfl, hya, lb, _⟩ := at_stp hB
      refine ⟨a.kind, _, rfl, r, _, dr, _, _, rfl, hR, t.c_Row, t.n_Row_head, lk_Row_head, xa, dxa, fsa, rfl, hxa, la, _, rfl, _, s', a, rfl, hs, rfl, hA, ht.1, by omega, fun r1 H1 s1 f1 => ?_⟩
      obtain ⟨ta, lv, rfl, hta, hL⟩ := f1
      have hR1 := s1 _ _ hR
      refine ⟨ta, _, rfl, SqT.of hta, rfl, _, _, rfl, _, _, rfl, rfl, ?_⟩
      refine ⟨_, rfl, rfl, _, rfl, ?_⟩
      have ef : (Stp.row a b).first s' = (match a.first s' with | .done => b.first s' | .hung => .hung | .deed c l => .deed c (.row l b)) := rfl
      rw [ef] at q
      cases e : a.first s' with
      | done =>
        rw [e] at q hL
        refine iteT ?_
        refine ⟨b.kind, _, rfl, r, _, dr, _, _, rfl, hR1, t.c_Row, t.n_Row_tail, lk_Row_tail, ya, dya, fsb, rfl, s1 _ _ hya, lb, _, rfl, _, s', b, rfl, hs, rfl, hB.mono s1, ht.2, by omega, fun r2 H2 s2 f2 => ?_⟩
        exact q _ _ (s1.trans s2) f2
      | hung =>
        rw [e] at q hL
        obtain rfl : lv = .non := hL
        rw [show (Fst.what .hung) = ("hung" : Str) from rfl, decide_eq_false hung_ne]
        refine iteF ?_
        refine ⟨_, rfl, _, rfl, iteT ?_⟩
        refine ⟨_, rfl, (by show 2 ≤ sizeLine; decide), fun b hb => ?_⟩
        exact q _ _ (s1.trans (same_new hb _)) ⟨b, _, rfl, upd_same, rfl⟩
      | deed c l =>
        rw [e] at q hL
        obtain ⟨la', dla, fsl, rfl, hla, _, _⟩ := at_stp hL
        rw [show (Fst.what (.deed c l)) = S [c] from rfl, decide_eq_false fst_ne]
        refine iteF ?_
        refine ⟨_, rfl, _, rfl, iteF ?_⟩
        refine ⟨_, rfl, _, rfl, _, rfl, r, _, dr, _, _, rfl, hR1, t.c_Row, t.n_Row_tail, lk_Row_tail, fun x9 d9 hx9 hd9 ne9 => use_ini2 hx9 hd9 fun H2 s2 n2 => ⟨rfl, ?_⟩⟩
        refine ⟨by show 2 ≤ sizeLine; decide, fun b' hb => ?_⟩
        have s3 := same_new hb (.tup [.str (S [c]), .ref x9])
        exact q _ _ ((s1.trans s2).trans s3) ⟨b', _, rfl, upd_same, ⟨_, _, n2.ins.mono s3, (StpAt.mono s2 hL).mono s3, ((hB.mono s1).mono s2).mono s3⟩⟩
  | k + 1, .loop => by
    have ih := m_first t k
    have hh := m_holds (P := P) (w := w) (base := base) t 3
    refine met_of (k := k + 3) t.c_Loop t.m_Loop_first t.d_Loop_first sc_Loop_first first_len (fun fd cdv A outer s H vs Q E hr h => ?_)
    obtain ⟨v, s', p, rfl, hs, hk, hp, ht, hd, q⟩ := h
    refine ⟨_, pss_cons (ps_if (pt_not (pt_val (pe_any fun kd => C8.pe_mt (hh kd) hr (by omega) (pe_fld (pv 0) rfl) (pa_cons (pv 1) pa_nil)))) (pss_one (ps_ret (pe_tup (pa_cons pe_str (pa_cons pe_non pa_nil))))) pss_nil)
      (pss_cons (ps_asg (pe_any fun kd => C8.pe_mt (ih kd) hr (Nat.le_refl _) (pe_fld (pv 0) rfl) (pa_cons (pv 1) pa_nil)) (pg_tup (by rfl) (pgs_cons (pg_name (i := 2) sc_Loop_first.nd rfl (.inl rfl)) (pgs_cons (pg_name (i := 3) sc_Loop_first.nd rfl (.inl rfl)) pgs_nil))))
      (pss_cons (ps_if (pt_cmpR op_eq (pv 2) pe_str (nomark _)) (pss_one (ps_ret (pe_tup (pa_cons pe_str (pa_cons pe_non pa_nil))))) pss_nil)
      (pss_cons (ps_if (pt_cmp (pc_isN (pv 3))) (pss_one (ps_ret (pe_tup (pa_cons (pv 2) (pa_cons pe_non pa_nil))))) pss_nil)
      (pss_one (ps_ret (pe_tup (pa_cons (pv 2) (pa_cons (C8.pe_mk (k_Row t) hr (by omega) rfl (pa_cons (pv 3) (pa_cons (pv 0) pa_nil))) pa_nil)))))))), ?_⟩
    cases p with
    | skip => cases hk
    | deed c => cases hk
    | row x y => cases hk
    | loop z b =>
      obtain ⟨x, y, ⟨r, dr, rfl, hR⟩, hZ, hB⟩ := hp
      simp only [Stp.tests, Bool.and_eq_true, decide_eq_true_eq] at ht
      simp only [Stp.depth] at hd
      obtain ⟨xa, dxa, fsa, rfl, hxa, la⟩ := at_holds hZ
      obtain ⟨ya, dya, fsb, rfl, hya, lb, _⟩ := at_stp hB
      refine ⟨z.kind, _, rfl, r, _, dr, _, _, rfl, hR, t.c_Loop, t.n_Loop_test, lk_Loop_test, xa, dxa, fsa, rfl, hxa, la, _, rfl, _, s', z, rfl, hs, rfl, hZ, ht.1, _, rfl, ?_⟩
      have ef : (Stp.loop z b).first s' = (if z.holds s' = true then (match b.first s' with | .done => .hung | .hung => .hung | .deed c l => .deed c (.row l (.loop z b))) else .done) := rfl
      rw [ef] at q
      cases ez : z.holds s' with
      | false =>
        rw [ez, if_neg Bool.false_ne_true] at q
        refine iteT ?_
        exact ⟨by show 2 ≤ sizeLine; decide, fun a ha => q _ _ (same_new ha _) ⟨a, _, rfl, upd_same, rfl⟩⟩
      | true =>
        rw [ez, if_pos rfl] at q
        refine iteF ?_
        refine ⟨b.kind, _, rfl, r, _, dr, _, _, rfl, hR, t.c_Loop, t.n_Loop_body, lk_Loop_body, ya, dya, fsb, rfl, hya, lb, _, rfl, _, s', b, rfl, hs, rfl, hB, ht.2, by omega, fun r1 H1 s1 f1 => ?_⟩
        obtain ⟨ta, lv, rfl, hta, hL⟩ := f1
        refine ⟨ta, _, rfl, SqT.of hta, rfl, _, _, rfl, _, _, rfl, rfl, ?_⟩
        refine ⟨_, rfl, rfl, _, rfl, ?_⟩
        cases e : b.first s' with
        | done =>
          rw [e] at q hL
          refine iteT ?_
          exact ⟨by show 2 ≤ sizeLine; decide, fun a ha => q _ _ (s1.trans (same_new ha _)) ⟨a, _, rfl, upd_same, rfl⟩⟩
        | hung =>
          rw [e] at q hL
          obtain rfl : lv = .non := hL
          rw [show (Fst.what .hung) = ("hung" : Str) from rfl, decide_eq_false hung_ne]
          refine iteF ?_
          refine ⟨_, rfl, _, rfl, iteT ?_⟩
          refine ⟨_, rfl, (by show 2 ≤ sizeLine; decide), fun b hb => ?_⟩
          exact q _ _ (s1.trans (same_new hb _)) ⟨b, _, rfl, upd_same, rfl⟩
        | deed c l =>
          rw [e] at q hL
          obtain ⟨la', dla, fsl, rfl, hla, _, _⟩ := at_stp hL
          rw [show (Fst.what (.deed c l)) = S [c] from rfl, decide_eq_false fst_ne]
          refine iteF ?_
          refine ⟨_, rfl, _, rfl, iteF ?_⟩
          refine ⟨_, rfl, _, rfl, _, rfl, fun x9 d9 hx9 hd9 ne9 => use_ini2 hx9 hd9 fun H2 s2 n2 => ⟨rfl, ?_⟩⟩
          refine ⟨by show 2 ≤ sizeLine; decide, fun b' hb => ?_⟩
          have s3 := same_new hb (.tup [.str (S [c]), .ref x9])
          have s13 := (s1.trans s2).trans s3
          exact q _ _ s13 ⟨b', _, rfl, upd_same, ⟨_, _, n2.ins.mono s3, (StpAt.mono s2 hL).mono s3, _, _, ⟨r, dr, rfl, s13 _ _ hR⟩, hZ.mono s13, hB.mono s13⟩⟩
end
end K98
set_option Elab.async false
set_option linter.all false
set_option maxRecDepth 100000
set_option maxHeartbeats 4000000
/-! programs: letters, numbered, left_behind -/
namespace K98
open PySem PySem.Spec PyProof.Rows L2 SX
section
variable {P : Program} {w : World} {K : PySem.W.Frag} {mg : Str → Option Value} {base : Heap}
theorem S_nil : ("" : Str) = S [] := by decide +kernel
theorem sz_of {n : Nat} (h : n ≤ 1000) : n ≤ sizeLine := Nat.le_of_lt (small1000 h)
theorem m_letters (t : T K mg) : ∀ (k : Nat) (kd : SK), C8.Met P w K mg base k (He.ga K kd.cls) "letters" (spLetters K kd k) []
  | 0, .skip => met_none t.c_Skip t.m_Skip_letters (d_Skip_letters t) letters_no
  | 0, .deed => met_none t.c_Deed t.m_Deed_letters t.d_Deed_letters letters_no
  | 0, .row => met_none t.c_Row t.m_Row_letters t.d_Row_letters letters_no
  | 0, .loop => met_none t.c_Loop t.m_Loop_letters t.d_Loop_letters letters_no
  | k + 1, .skip => by
    refine met_of t.c_Skip t.m_Skip_letters (d_Skip_letters t) sc_Step_letters letters_len (fun fd cdv A outer s H vs Q E hr h => ?_)
    obtain ⟨v, p, rfl, hk, hp, hd, hl, q⟩ := h
    refine ⟨_, pss_one (ps_ret pe_str), ?_⟩
    cases p with
    | skip =>
      show Q (.str ("" : Str)) H
      rw [S_nil]
      exact q
    | deed c => cases hk
    | row x y => cases hk
    | loop x y => cases hk
  | k + 1, .deed => by
    refine met_of t.c_Deed t.m_Deed_letters t.d_Deed_letters sc_Deed_letters letters_len (fun fd cdv A outer s H vs Q E hr h => ?_)
    obtain ⟨v, p, rfl, hk, hp, hd, hl, q⟩ := h
    refine ⟨_, pss_one (ps_ret (pe_fld (pv 0) rfl)), ?_⟩
    cases p with
    | skip => cases hk
    | row x y => cases hk
    | loop x y => cases hk
    | deed c =>
      obtain ⟨a, dx, rfl, ha⟩ := hp
      exact ⟨_, rfl, a, _, dx, _, _, rfl, ha, t.c_Deed, t.n_Deed_name, lk_Deed_name, q⟩
  | k + 1, .row => by
    have ih := m_letters t k
    refine met_of t.c_Row t.m_Row_letters t.d_Row_letters sc_Row_letters letters_len (fun fd cdv A outer s H vs Q E hr h => ?_)
    obtain ⟨v, p, rfl, hk, hp, hd, hl, q⟩ := h
    refine ⟨_, pss_one (ps_ret (pe_op op_add_str (pe_any fun kd => C8.pe_mt0 (ih kd) hr (Nat.le_refl _) (pe_fld (pv 0) rfl)) (pe_any fun kd => C8.pe_mt0 (ih kd) hr (Nat.le_refl _) (pe_fld (pv 0) rfl)))), ?_⟩
    cases p with
    | skip => cases hk
    | deed c => cases hk
    | loop x y => cases hk
    | row a b =>
      obtain ⟨x, y, ⟨r, dr, rfl, hR⟩, hA, hB⟩ := hp
      simp only [Stp.depth] at hd
      have el : (Stp.row a b).letters = a.letters ++ b.letters := rfl
      rw [el, List.length_append] at hl
      obtain ⟨xa, dxa, fsa, rfl, hxa, _, la⟩ := at_stp hA
      obtain ⟨ya, dya, fsb, rfl, hya, _, lb⟩ := at_stp hB
      refine ⟨a.kind, _, rfl, r, _, dr, _, _, rfl, hR, t.c_Row, t.n_Row_head, lk_Row_head, xa, dxa, fsa, rfl, hxa, la, _, a, rfl, rfl, hA, by omega, by omega, ?_⟩
      refine ⟨b.kind, _, rfl, r, _, dr, _, _, rfl, hR, t.c_Row, t.n_Row_tail, lk_Row_tail, ya, dya, fsb, rfl, hya, lb, _, b, rfl, rfl, hB, by omega, by omega, ?_⟩
      refine ⟨_, _, rfl, rfl, sz_of (by rw [S_len, S_len]; omega), ?_⟩
      rw [S_cat]
      exact q
  | k + 1, .loop => by
    have ih := m_letters t k
    refine met_of t.c_Loop t.m_Loop_letters t.d_Loop_letters sc_Loop_letters letters_len (fun fd cdv A outer s H vs Q E hr h => ?_)
    obtain ⟨v, p, rfl, hk, hp, hd, hl, q⟩ := h
    refine ⟨_, pss_one (ps_ret (pe_any fun kd => C8.pe_mt0 (ih kd) hr (Nat.le_refl _) (pe_fld (pv 0) rfl))), ?_⟩
    cases p with
    | skip => cases hk
    | deed c => cases hk
    | row x y => cases hk
    | loop z b =>
      obtain ⟨x, y, ⟨r, dr, rfl, hR⟩, hZ, hB⟩ := hp
      simp only [Stp.depth] at hd
      obtain ⟨ya, dya, fsb, rfl, hya, _, lb⟩ := at_stp hB
      exact ⟨b.kind, _, rfl, r, _, dr, _, _, rfl, hR, t.c_Loop, t.n_Loop_body, lk_Loop_body, ya, dya, fsb, rfl, hya, lb, _, b, rfl, rfl, hB, by omega, hl, q⟩
/-! ### isinstance -/
def SK.isDeed : SK → Bool
  | .deed => true
  | _ => false
def SK.isRow : SK → Bool
  | .row => true
  | _ => false
def SK.isLoop : SK → Bool
  | .loop => true
  | _ => false
theorem isi_deed (t : T K mg) : ∀ kd : SK, PySem.W.kitOne K (.ref (He.ga K kd.cls)) (.ref (He.ga K "Deed")) = some kd.isDeed
  | .skip => t.isi_Skip_Deed.eq
  | .deed => t.isi_Deed_Deed.eq
  | .row => t.isi_Row_Deed.eq
  | .loop => t.isi_Loop_Deed.eq
theorem isi_row (t : T K mg) : ∀ kd : SK, PySem.W.kitOne K (.ref (He.ga K kd.cls)) (.ref (He.ga K "Row")) = some kd.isRow
  | .skip => t.isi_Skip_Row.eq
  | .deed => t.isi_Deed_Row.eq
  | .row => t.isi_Row_Row.eq
  | .loop => t.isi_Loop_Row.eq
theorem isi_loop (t : T K mg) : ∀ kd : SK, PySem.W.kitOne K (.ref (He.ga K kd.cls)) (.ref (He.ga K "Loop")) = some kd.isLoop
  | .skip => t.isi_Skip_Loop.eq
  | .deed => t.isi_Deed_Loop.eq
  | .row => t.isi_Row_Loop.eq
  | .loop => t.isi_Loop_Loop.eq
theorem isi_choice (t : T K mg) : ∀ kd : SK, PySem.W.kitOne K (.ref (He.ga K kd.cls)) (.ref (He.ga K "Choice")) = some false
  | .skip => t.isi_Skip_Choice.eq
  | .deed => t.isi_Deed_Choice.eq
  | .row => t.isi_Row_Choice.eq
  | .loop => t.isi_Loop_Choice.eq
theorem ty_own {x : Str} {H : Hp} {a dx : Addr} {fs : List (Str × V)} (t : T K mg) (c : Cls K (He.ga K x)) (o : OwnF K x) (h : H a = some (.ins (He.ga K x) dx fs)) : TyX K H (.ref a) (.ref (He.ga K x)) :=
  .base (.ins h c o.cl t.all.get t.all.tk o.mro)
theorem ty_stp (t : T K mg) {H : Hp} {p : Stp} {v : V} (h : StpAt K H p v) : TyX K H v (.ref (He.ga K p.kind.cls)) := by
  cases p with
  | skip => obtain ⟨a, dx, rfl, q⟩ := h; exact ty_own t t.c_Skip t.own_Skip q
  | deed c => obtain ⟨a, dx, rfl, q⟩ := h; exact ty_own t t.c_Deed t.own_Deed q
  | row x y => obtain ⟨_, _, ⟨a, dx, rfl, q⟩, _⟩ := h; exact ty_own t t.c_Row t.own_Row q
  | loop x y => obtain ⟨_, _, ⟨a, dx, rfl, q⟩, _⟩ := h; exact ty_own t t.c_Loop t.own_Loop q
theorem boot_isi : bootBuiltins "isinstance" = some (.builtin "isinstance") := by decide +kernel
/-! ### numbered -/
theorem signs_at : ∀ i : Fin 12, atI ("0123456789AB" : Str).cps.toList (i.val : Int) = some (sg i.val) := by decide +kernel
theorem signs_len : ("0123456789AB" : Str).length ≤ sizeLine := by decide +kernel
def spNum (K : PySem.W.Frag) (k : Nat) : Sp := fun vs H Q _ => ∃ (v : V) (n : Nat) (p : Stp), vs = [v, .int n] ∧ StpAt K H p v ∧ p.depth ≤ k ∧ n + p.letters.length ≤ 12 ∧ ∀ r H', Same H H' → StpAt K H' (p.num n) r → Q r H'
theorem sc_numbered : FnScope ["step", "at", "later"] ["step", "at"] (defScope st_numbered) := ⟨rfl, rfl, rfl, by decide +kernel, rfl, by decide +kernel, by decide +kernel⟩
theorem c_numbered (t : T K mg) : ∀ k : Nat, C8.Cal P w K mg base (k + 2) "numbered" (spNum K k) []
  | 0 => cal_none t.d_numbered t.g_numbered fun vs H Q E h => by
    obtain ⟨v, n, p, _, _, hd, _⟩ := h
    have := depth_pos p
    omega
  | k + 1 => by
    have ih := c_numbered t k
    have il := m_letters (P := P) (w := w) (base := base) t k
    refine cal_of (k := k + 2) t.d_numbered t.g_numbered sc_numbered (fun vs H Q E h => ?_) (fun fd cdv A outer s H vs Q E hr h => ?_)
    · obtain ⟨v, n, p, rfl, _⟩ := h
      rfl
    obtain ⟨v, n, p, rfl, hp, hd, hn, q⟩ := h
    obtain ⟨tS, hS⟩ := t.s_SIGNS
    have r0 : ∀ j, j ≤ k + 2 → j ≤ k + 2 := fun _ z => z
    refine ⟨_, pss_cons (ps_if (pt_val (pe_callB call_isi rfl t.f_isinstance boot_isi (pa_cons (pv 0) (pa_cons (pe_glob rfl t.gc_Deed (rel_ref _)) pa_nil)))) (pss_one (ps_ret (C8.pe_mk (k_Deed t) hr (by omega) rfl (pa_cons (pe_ix ix_str (pe_glob rfl hS (rel_str _ _)) (pv 1) (fun _ _ => rfl)) pa_nil)))) pss_nil)
      (pss_cons (ps_if (pt_val (pe_callB call_isi rfl t.f_isinstance boot_isi (pa_cons (pv 0) (pa_cons (pe_glob rfl t.gc_Row (rel_ref _)) pa_nil))))
        (pss_one (ps_ret (C8.pe_mk (k_Row t) hr (by omega) rfl (pa_cons (C8.pe_c ih hr (Nat.le_refl _) rfl (pa_cons (pe_fld (pv 0) rfl) (pa_cons (pv 1) pa_nil)))
          (pa_cons (C8.pe_c ih hr (Nat.le_refl _) rfl (pa_cons (pe_fld (pv 0) rfl) (pa_cons (pe_op op_add (pv 1) (pe_callB call_len_str rfl t.f_len PySem.boot_len (pa_cons (pe_any fun kd => C8.pe_mt0 (il kd) hr (by omega) (pe_fld (pv 0) rfl)) pa_nil))) pa_nil))) pa_nil))))) pss_nil)
      (pss_cons (ps_if (pt_val (pe_callB call_isi rfl t.f_isinstance boot_isi (pa_cons (pv 0) (pa_cons (pe_glob rfl t.gc_Choice (rel_ref _)) pa_nil)))) pss_never pss_nil)
      (pss_cons (ps_if (pt_val (pe_callB call_isi rfl t.f_isinstance boot_isi (pa_cons (pv 0) (pa_cons (pe_glob rfl t.gc_Loop (rel_ref _)) pa_nil))))
        (pss_one (ps_ret (C8.pe_mk (k_Loop t) hr (by omega) rfl (pa_cons (pe_fld (pv 0) rfl) (pa_cons (C8.pe_c ih hr (Nat.le_refl _) rfl (pa_cons (pe_fld (pv 0) rfl) (pa_cons (pv 1) pa_nil))) pa_nil))))) pss_nil)
      (pss_one (ps_ret (pv 0)))))), ?_⟩
    have ty := ty_stp t hp
    refine ⟨_, rfl, _, _, _, _, _, rfl, .own _, ty, isi_deed t p.kind, _, rfl, ?_⟩
    cases p with
    | skip =>
      refine iteF ?_
      refine ⟨_, rfl, _, _, _, _, _, rfl, .own _, ty, isi_row t _, _, rfl, iteF ?_⟩
      refine ⟨_, rfl, _, _, _, _, _, rfl, .own _, ty, isi_choice t _, _, rfl, iteF ?_⟩
      refine ⟨_, rfl, _, _, _, _, _, rfl, .own _, ty, isi_loop t _, _, rfl, iteF ?_⟩
      exact ⟨_, rfl, q _ _ (Same.refl H) hp⟩
    | deed c =>
      refine iteT ?_
      have hn' : n < 12 := by
        have e : (Stp.deed c).letters.length = 1 := rfl
        omega
      refine ⟨_, rfl, _, _, _, rfl, rfl, signs_len, signs_at ⟨n, hn'⟩, fun x9 d9 hx9 hd9 ne9 => use_ini1 hx9 hd9 fun H2 s2 n2 => ⟨rfl, ?_⟩⟩
      exact q _ _ s2 n2.ins
    | row a b =>
      obtain ⟨x, y, ⟨r, dr, rfl, hR⟩, hA, hB⟩ := hp
      simp only [Stp.depth] at hd
      have el : (Stp.row a b).letters = a.letters ++ b.letters := rfl
      rw [el, List.length_append] at hn
      refine iteF ?_
      refine ⟨_, rfl, _, _, _, _, _, rfl, .own _, ty, isi_row t _, _, rfl, iteT ?_⟩
      refine ⟨_, rfl, r, _, dr, _, _, rfl, hR, t.c_Row, t.n_Row_head, lk_Row_head, _, rfl, _, n, a, rfl, hA, by omega, by omega, fun r1 H1 s1 f1 => ?_⟩
      have hR1 := s1 _ _ hR
      obtain ⟨xa, dxa, fsa, rfl, hxa, _, la⟩ := at_stp (hA.mono s1)
      refine ⟨_, rfl, r, _, dr, _, _, rfl, hR1, t.c_Row, t.n_Row_tail, lk_Row_tail, _, rfl, a.kind, _, rfl, r, _, dr, _, _, rfl, hR1, t.c_Row, t.n_Row_head, lk_Row_head, xa, dxa, fsa, rfl, hxa, la, _, a, rfl, rfl, hA.mono s1, by omega, by omega, ?_⟩
      refine ⟨_, rfl, sz_of (by rw [S_len]; omega), _, _, rfl, rfl, ?_⟩
      rw [S_len]
      refine ⟨_, n + a.letters.length, b, rfl, hB.mono s1, by omega, by omega, fun r2 H2 s2 f2 => ?_⟩
      refine fun x9 d9 hx9 hd9 ne9 => use_ini2 hx9 hd9 fun H3 s3 n3 => ⟨rfl, ?_⟩
      exact q _ _ ((s1.trans s2).trans s3) ⟨_, _, n3.ins, (f1.mono s2).mono s3, f2.mono s3⟩
    | loop z b =>
      obtain ⟨x, y, ⟨r, dr, rfl, hR⟩, hZ, hB⟩ := hp
      simp only [Stp.depth] at hd
      refine iteF ?_
      refine ⟨_, rfl, _, _, _, _, _, rfl, .own _, ty, isi_row t _, _, rfl, iteF ?_⟩
      refine ⟨_, rfl, _, _, _, _, _, rfl, .own _, ty, isi_choice t _, _, rfl, iteF ?_⟩
      refine ⟨_, rfl, _, _, _, _, _, rfl, .own _, ty, isi_loop t _, _, rfl, iteT ?_⟩
      refine ⟨_, rfl, r, _, dr, _, _, rfl, hR, t.c_Loop, t.n_Loop_test, lk_Loop_test, _, rfl, r, _, dr, _, _, rfl, hR, t.c_Loop, t.n_Loop_body, lk_Loop_body, _, rfl, _, n, b, rfl, hB, by omega, hn, fun r1 H1 s1 f1 => ?_⟩
      refine fun x9 d9 hx9 hd9 ne9 => use_ini2 hx9 hd9 fun H3 s3 n3 => ⟨rfl, ?_⟩
      exact q _ _ (s1.trans s3) ⟨_, _, n3.ins, (hZ.mono s1).mono s3, f1.mono s3⟩
/-! ### left_behind -/
def spLeft (K : PySem.W.Frag) (k : Nat) : Sp := fun vs H Q _ => ∃ (v : V) (n : Nat) (p : Stp), vs = [v, .int n] ∧ StpAt K H p v ∧ p.depth ≤ k ∧ 1 ≤ n ∧ n ≤ p.letters.length ∧ p.letters.length ≤ 12 ∧ ∀ r H', Same H H' → StpAt K H' (p.left n) r → Q r H'
theorem sc_left_behind : FnScope ["step", "k", "many"] ["step", "k"] (defScope st_left_behind) := ⟨rfl, rfl, rfl, by decide +kernel, rfl, by decide +kernel, by decide +kernel⟩
theorem c_left_behind (t : T K mg) : ∀ k : Nat, C8.Cal P w K mg base (k + 5) "left_behind" (spLeft K k) []
  | 0 => cal_none t.d_left_behind t.g_left_behind fun vs H Q E h => by
    obtain ⟨v, n, p, _, _, hd, _⟩ := h
    have := depth_pos p
    omega
  | k + 1 => by
    have ih := c_left_behind t k
    have il := m_letters (P := P) (w := w) (base := base) t k
    have i1 := m_first (P := P) (w := w) (base := base) t 1 .deed
    refine cal_of (k := k + 5) t.d_left_behind t.g_left_behind sc_left_behind (fun vs H Q E h => ?_) (fun fd cdv A outer s H vs Q E hr h => ?_)
    · obtain ⟨v, n, p, rfl, _⟩ := h
      rfl
    obtain ⟨v, n, p, rfl, hp, hd, h1, hn, h12, q⟩ := h
    refine ⟨_, pss_cons (ps_if (pt_val (pe_callB call_isi rfl t.f_isinstance boot_isi (pa_cons (pv 0) (pa_cons (pe_glob rfl t.gc_Row (rel_ref _)) pa_nil))))
        (pss_cons (ps_set (i := 2) sc_left_behind.nd rfl (.inl rfl) (pe_callB call_len_str rfl t.f_len PySem.boot_len (pa_cons (pe_any fun kd => C8.pe_mt0 (il kd) hr (by omega) (pe_fld (pv 0) rfl)) pa_nil)))
        (pss_cons (ps_if (pt_cmpR op_gt (pv 1) (pv 2) (nomark _)) (pss_one (ps_ret (C8.pe_c ih hr (Nat.le_refl _) rfl (pa_cons (pe_fld (pv 0) rfl) (pa_cons (pe_op op_sub (pv 1) (pv 2)) pa_nil))))) pss_nil)
        (pss_one (ps_ret (C8.pe_mk (k_Row t) hr (by omega) rfl (pa_cons (C8.pe_c ih hr (Nat.le_refl _) rfl (pa_cons (pe_fld (pv 0) rfl) (pa_cons (pv 1) pa_nil))) (pa_cons (pe_fld (pv 0) rfl) pa_nil))))))) pss_nil)
      (pss_cons (ps_if (pt_val (pe_callB call_isi rfl t.f_isinstance boot_isi (pa_cons (pv 0) (pa_cons (pe_glob rfl t.gc_Choice (rel_ref _)) pa_nil)))) pss_never pss_nil)
      (pss_cons (ps_if (pt_val (pe_callB call_isi rfl t.f_isinstance boot_isi (pa_cons (pv 0) (pa_cons (pe_glob rfl t.gc_Loop (rel_ref _)) pa_nil))))
        (pss_one (ps_ret (C8.pe_mk (k_Row t) hr (by omega) rfl (pa_cons (C8.pe_c ih hr (Nat.le_refl _) rfl (pa_cons (pe_fld (pv 0) rfl) (pa_cons (pv 1) pa_nil))) (pa_cons (pv 0) pa_nil))))) pss_nil)
      (pss_one (ps_ret (pe_ix ix_tup (C8.pe_mt i1 hr (by omega) (pv 0) (pa_cons pe_int pa_nil)) pe_int (fun _ _ => rfl)))))), ?_⟩
    have ty := ty_stp t hp
    refine ⟨_, rfl, _, _, _, _, _, rfl, .own _, ty, isi_row t p.kind, _, rfl, ?_⟩
    cases p with
    | skip =>
      have e : (Stp.skip).letters.length = 0 := rfl
      omega
    | deed c =>
      refine iteF ?_
      refine ⟨_, rfl, _, _, _, _, _, rfl, .own _, ty, isi_choice t _, _, rfl, iteF ?_⟩
      refine ⟨_, rfl, _, _, _, _, _, rfl, .own _, ty, isi_loop t _, _, rfl, iteF ?_⟩
      obtain ⟨xa, dxa, fsa, rfl, hxa, la, _⟩ := at_stp hp
      refine ⟨_, rfl, xa, dxa, fsa, rfl, hxa, la, _, 0, .deed c, rfl, by decide, rfl, hp, rfl, Nat.le_refl _, fun r1 H1 s1 f1 => ?_⟩
      obtain ⟨ta, lv, rfl, hta, hL⟩ := f1
      refine ⟨ta, _, _, _, rfl, rfl, SqT.of hta, rfl, ?_⟩
      exact q _ _ s1 hL
    | row a b =>
      obtain ⟨x, y, ⟨r, dr, rfl, hR⟩, hA, hB⟩ := hp
      simp only [Stp.depth] at hd
      have el : (Stp.row a b).letters = a.letters ++ b.letters := rfl
      rw [el, List.length_append] at hn h12
      have ef : (Stp.row a b).left n = if a.letters.length < n then b.left (n - a.letters.length) else .row (a.left n) b := rfl
      rw [ef] at q
      obtain ⟨xa, dxa, fsa, rfl, hxa, _, la⟩ := at_stp hA
      refine iteT ?_
      refine ⟨a.kind, _, rfl, r, _, dr, _, _, rfl, hR, t.c_Row, t.n_Row_head, lk_Row_head, xa, dxa, fsa, rfl, hxa, la, _, a, rfl, rfl, hA, by omega, by omega, ?_⟩
      refine ⟨_, rfl, sz_of (by rw [S_len]; omega), ?_⟩
      rw [S_len]
      refine ⟨_, rfl, _, rfl, _, _, rfl, rfl, _, rfl, ?_⟩
      refine ite2 (fun c => ?_) (fun c => ?_)
      · have c' : ((a.letters.length : Nat) : Int) < (n : Int) := of_decide_eq_true c
        rw [if_pos (by omega)] at q
        refine ⟨_, rfl, r, _, dr, _, _, rfl, hR, t.c_Row, t.n_Row_tail, lk_Row_tail, _, rfl, _, rfl, _, _, rfl, rfl, _, n - a.letters.length, b, ?_, hB, by omega, by omega, by omega, by omega, fun r1 H1 s1 f1 => q _ _ s1 f1⟩
        have e : (n : Int) - (a.letters.length : Int) = ((n - a.letters.length : Nat) : Int) := by omega
        exact congrArg (fun i => [y, V.int i]) e
      · have c' : ¬ ((a.letters.length : Nat) : Int) < (n : Int) := of_decide_eq_false (Bool.eq_false_iff.mpr c)
        rw [if_neg (by omega)] at q
        refine ⟨_, rfl, r, _, dr, _, _, rfl, hR, t.c_Row, t.n_Row_head, lk_Row_head, _, rfl, _, n, a, rfl, hA, by omega, by omega, by omega, by omega, fun r1 H1 s1 f1 => ?_⟩
        have hR1 := s1 _ _ hR
        refine ⟨_, rfl, r, _, dr, _, _, rfl, hR1, t.c_Row, t.n_Row_tail, lk_Row_tail, fun x9 d9 hx9 hd9 ne9 => use_ini2 hx9 hd9 fun H3 s3 n3 => ⟨rfl, ?_⟩⟩
        exact q _ _ (s1.trans s3) ⟨_, _, n3.ins, f1.mono s3, (hB.mono s1).mono s3⟩
    | loop z b =>
      have hp0 := hp
      obtain ⟨x, y, ⟨r, dr, rfl, hR⟩, hZ, hB⟩ := hp
      simp only [Stp.depth] at hd
      refine iteF ?_
      refine ⟨_, rfl, _, _, _, _, _, rfl, .own _, ty, isi_choice t _, _, rfl, iteF ?_⟩
      refine ⟨_, rfl, _, _, _, _, _, rfl, .own _, ty, isi_loop t _, _, rfl, iteT ?_⟩
      refine ⟨_, rfl, r, _, dr, _, _, rfl, hR, t.c_Loop, t.n_Loop_body, lk_Loop_body, _, rfl, _, n, b, rfl, hB, by omega, h1, hn, h12, fun r1 H1 s1 f1 => ?_⟩
      refine ⟨_, rfl, fun x9 d9 hx9 hd9 ne9 => use_ini2 hx9 hd9 fun H3 s3 n3 => ⟨rfl, ?_⟩⟩
      exact q _ _ (s1.trans s3) ⟨_, _, n3.ins, f1.mono s3, (hp0.mono s1).mono s3⟩
end
end K98
set_option Elab.async false
set_option linter.all false
set_option maxRecDepth 100000
set_option maxHeartbeats 4000000
/-! Rooms -/
namespace K98
open PySem PySem.Spec PyProof.Rows L2 SX
section
variable {P : Program} {w : World} {K : PySem.W.Frag} {mg : Str → Option Value} {base : Heap}
/-! ### the doors of all rooms, as lists of lists of pairs -/
def CellsAt (H : Hp) (cs : List V) (n : Nat) (g : Nat → Str × Nat) : Prop := ∀ s, s < n → ∃ c, cs[s]? = some (.ref c) ∧ H c = some (.tup [.str (g s).1, .int (g s).2])
def RowAt (H : Hp) (a : Addr) (g : Nat → Str × Nat) : Prop := ∃ cs, H a = some (.lst cs) ∧ cs.length = 16 ∧ CellsAt H cs 16 g
def RowsAt (H : Hp) (rs : List V) (n : Nat) (f : Nat → Nat → Str × Nat) : Prop := ∀ r, r < n → ∃ a, rs[r]? = some (.ref a) ∧ RowAt H a (f r)
def DoorAt (H : Hp) (v : V) (n : Nat) (f : Nat → Nat → Str × Nat) : Prop := ∃ a rs, v = .ref a ∧ H a = some (.lst rs) ∧ rs.length = n ∧ RowsAt H rs n f
theorem CellsAt.mono {H H' : Hp} {cs : List V} {n : Nat} {g : Nat → Str × Nat} (e : Same H H') (h : CellsAt H cs n g) : CellsAt H' cs n g := fun s hs => let ⟨c, a, b⟩ := h s hs; ⟨c, a, e _ _ b⟩
theorem RowAt.mono {H H' : Hp} {a : Addr} {g : Nat → Str × Nat} (e : Same H H') (h : RowAt H a g) : RowAt H' a g := let ⟨cs, x, y, z⟩ := h; ⟨cs, e _ _ x, y, z.mono e⟩
theorem RowsAt.mono {H H' : Hp} {rs : List V} {n : Nat} {f : Nat → Nat → Str × Nat} (e : Same H H') (h : RowsAt H rs n f) : RowsAt H' rs n f := fun r hr => let ⟨a, x, y⟩ := h r hr; ⟨a, x, y.mono e⟩
theorem DoorAt.mono {H H' : Hp} {v : V} {n : Nat} {f : Nat → Nat → Str × Nat} (e : Same H H') (h : DoorAt H v n f) : DoorAt H' v n f := let ⟨a, rs, x, y, z, q⟩ := h; ⟨a, rs, x, e _ _ y, z, q.mono e⟩
theorem app_at {cs : List V} {n : Nat} (h : cs.length = n) (v : V) : (cs ++ [v])[n]? = some v := by
  rw [← h]
  exact List.getElem?_concat_length
theorem app_lt {cs : List V} {s : Nat} (h : s < cs.length) (v : V) : (cs ++ [v])[s]? = cs[s]? := List.getElem?_append_left h
theorem CellsAt.snoc {H : Hp} {cs : List V} {n : Nat} {g : Nat → Str × Nat} {c : Addr} (h : CellsAt H cs n g) (l : cs.length = n) (hc : H c = some (.tup [.str (g n).1, .int (g n).2])) : CellsAt H (cs ++ [.ref c]) (n + 1) g := fun s hs => by
  by_cases e : s < n
  · obtain ⟨d, a, b⟩ := h s e
    exact ⟨d, by rw [app_lt (by omega)]; exact a, b⟩
  · obtain rfl : s = n := by omega
    exact ⟨c, app_at l _, hc⟩
theorem RowsAt.snoc {H : Hp} {rs : List V} {n : Nat} {f : Nat → Nat → Str × Nat} {a : Addr} (h : RowsAt H rs n f) (l : rs.length = n) (ha : RowAt H a (f n)) : RowsAt H (rs ++ [.ref a]) (n + 1) f := fun r hr => by
  by_cases e : r < n
  · obtain ⟨d, x, y⟩ := h r e
    exact ⟨d, by rw [app_lt (by omega)]; exact x, y⟩
  · obtain rfl : r = n := by omega
    exact ⟨a, app_at l _, ha⟩
/-! ### bounds -/
theorem num_depth : ∀ (p : Stp) (k : Nat), (p.num k).depth = p.depth
  | .skip, _ => rfl
  | .deed _, _ => rfl
  | .row a b, k => by simp only [Stp.num, Stp.depth, num_depth a, num_depth b]
  | .loop _ b, k => by simp only [Stp.num, Stp.depth, num_depth b]
theorem num_tests : ∀ (p : Stp) (k : Nat), (p.num k).tests = p.tests
  | .skip, _ => rfl
  | .deed _, _ => rfl
  | .row a b, k => by simp only [Stp.num, Stp.tests, num_tests a, num_tests b]
  | .loop _ b, k => by simp only [Stp.num, Stp.tests, num_tests b]
theorem num_letters : ∀ (p : Stp) (k : Nat), (p.num k).letters.length = p.letters.length
  | .skip, _ => rfl
  | .deed _, _ => rfl
  | .row a b, k => by simp only [Stp.num, Stp.letters, List.length_append, num_letters a, num_letters b]
  | .loop _ b, k => by simp only [Stp.num, Stp.letters, num_letters b]
theorem left_depth : ∀ (p : Stp) (k : Nat), (p.left k).depth ≤ p.depth + 1
  | .skip, _ => by simp [Stp.left, Stp.depth]
  | .deed _, _ => by simp [Stp.left, Stp.depth]
  | .row a b, k => by
    have h1 := left_depth a k
    have h2 := left_depth b (k - a.letters.length)
    simp only [Stp.left]
    split
    · simp only [Stp.depth]
      omega
    · simp only [Stp.depth]
      omega
  | .loop t b, k => by
    have h1 := left_depth b k
    simp only [Stp.left, Stp.depth]
    omega
theorem left_tests : ∀ (p : Stp) (k : Nat), p.tests = true → (p.left k).tests = true
  | .skip, _, _ => rfl
  | .deed _, _, _ => rfl
  | .row a b, k, h => by
    simp only [Stp.tests, Bool.and_eq_true] at h
    have h1 := left_tests a k h.1
    have h2 := left_tests b (k - a.letters.length) h.2
    simp only [Stp.left]
    split
    · exact h2
    · simp only [Stp.tests, Bool.and_eq_true]
      exact ⟨h1, h.2⟩
  | .loop t b, k, h => by
    have h0 := h
    simp only [Stp.tests, Bool.and_eq_true] at h
    have h1 := left_tests b k h.2
    simp only [Stp.left]
    show ((b.left k).tests && (Stp.loop t b).tests) = true
    rw [h1, h0]
    rfl
/-! ### programs beside an object that is none -/
theorem tst_off {H : Hp} {x : Addr} {f : Str} (hx : ∀ C dx fs, H x = some (.ins C dx fs) → ∃ u, fs.lookup f = some u) (h0 : fl_Yes.lookup f = none) (h1 : ∀ a, (fl_Named a).lookup f = none) (h2 : ∀ a, (fl_Not a).lookup f = none) :
    ∀ {t : Tst} {v : V}, TstAt K H t v → TstAt K (Off [x] H) t v := by
  have key : ∀ {v : V} {c : Str} {fs : List (Str × V)}, fs.lookup f = none → Ins K H v c fs → Ins K (Off [x] H) v c fs := fun {v c fs} l i => by
    obtain ⟨a, dx, e, q⟩ := i
    refine ⟨a, dx, e, off_at q fun m => ?_⟩
    rw [List.mem_singleton.mp m] at q
    obtain ⟨u, hu⟩ := hx _ _ _ q
    rw [l] at hu
    cases hu
  intro t
  induction t with
  | yes => intro v h; exact key h0 h
  | named i => intro v h; exact ⟨h.1, key (h1 _) h.2⟩
  | nott t ih => intro v h; obtain ⟨u, a, b⟩ := h; exact ⟨u, key (h2 _) a, ih b⟩
theorem stp_off {H : Hp} {x : Addr} {f : Str} (hx : ∀ C dx fs, H x = some (.ins C dx fs) → ∃ u, fs.lookup f = some u) (h0 : fl_Yes.lookup f = none) (h1 : ∀ a, (fl_Named a).lookup f = none) (h2 : ∀ a, (fl_Not a).lookup f = none)
    (h3 : ∀ a b, (fl_Row a b).lookup f = none) (h4 : ∀ a b, (fl_Loop a b).lookup f = none) :
    ∀ {p : Stp} {v : V}, StpAt K H p v → StpAt K (Off [x] H) p v := by
  have key : ∀ {v : V} {c : Str} {fs : List (Str × V)}, fs.lookup f = none → Ins K H v c fs → Ins K (Off [x] H) v c fs := fun {v c fs} l i => by
    obtain ⟨a, dx, e, q⟩ := i
    refine ⟨a, dx, e, off_at q fun m => ?_⟩
    rw [List.mem_singleton.mp m] at q
    obtain ⟨u, hu⟩ := hx _ _ _ q
    rw [l] at hu
    cases hu
  intro p
  induction p with
  | skip => intro v h; exact key h0 h
  | deed c => intro v h; exact key (h1 _) h
  | row a b iha ihb => intro v h; obtain ⟨y, z, i, j, k⟩ := h; exact ⟨y, z, key (h3 _ _) i, iha j, ihb k⟩
  | loop t b ih => intro v h; obtain ⟨y, z, i, j, k⟩ := h; exact ⟨y, z, key (h4 _ _) i, tst_off hx h0 h1 h2 j, ih k⟩
theorem ns_name : (("step" : Str) == "name") = false := by decide +kernel
theorem ns_inner : (("step" : Str) == "inner") = false := by decide +kernel
theorem ns_head : (("step" : Str) == "head") = false := by decide +kernel
theorem ns_tail : (("step" : Str) == "tail") = false := by decide +kernel
theorem ns_test : (("step" : Str) == "test") = false := by decide +kernel
theorem ns_body : (("step" : Str) == "body") = false := by decide +kernel
theorem stp_off_step {H : Hp} {x : Addr} (hx : ∀ C dx fs, H x = some (.ins C dx fs) → ∃ u, fs.lookup ("step" : Str) = some u) {p : Stp} {v : V} (h : StpAt K H p v) : StpAt K (Off [x] H) p v :=
  stp_off hx rfl (fun _ => (lk2 ns_name).trans rfl) (fun _ => (lk2 ns_inner).trans rfl) (fun _ _ => (lk2 ns_head).trans ((lk2 ns_tail).trans rfl)) (fun _ _ => (lk2 ns_test).trans ((lk2 ns_body).trans rfl)) h
/-! ### Rooms -/
def Stp.room (p : Stp) (r : Nat) : Stp := if r = 0 then p.num 0 else (p.num 0).left r
/-- f tells the doors of p's rooms -/
def Doors (p : Stp) (f : Nat → Nat → Str × Nat) : Prop := ∀ r s, r ≤ p.letters.length → s < 16 → match (p.room r).first s with
  | .deed c _ => ∃ j c', j < 12 ∧ c = sg j ∧ p.letters[j]? = some c' ∧ f r s = (S [c'], j + 1)
  | .done => f r s = (("done" : Str), 0)
  | .hung => f r s = (("hung" : Str), 0)
def spRooms (K : PySem.W.Frag) : Sp := fun vs H Q _ => ∃ (x dx : Addr) (v : V) (G : Hp) (p : Stp) (f : Nat → Nat → Str × Nat), vs = [.ref x, v] ∧ H x = some (.ins (He.ga K "Rooms") dx []) ∧ Same G H ∧ G x = none ∧
  StpAt K G p v ∧ p.tests = true ∧ p.depth ≤ 13 ∧ p.letters.length ≤ 12 ∧ Doors p f ∧
  ∀ H' d, Same G H' → H' x = some (.ins (He.ga K "Rooms") dx (fl_Rooms v d)) → DoorAt H' d (p.letters.length + 1) f → Q .non H'
theorem occ_at : ∀ i : Fin 12, Builtin.Str.occurrences ("0123456789AB" : Str) (S [sg i.val]) 0 ("0123456789AB" : Str).length 1 = [i.val] := by decide +kernel
theorem len_done : ("done" : Str).length = 4 := by decide +kernel
theorem len_hung : ("hung" : Str).length = 4 := by decide +kernel
theorem ex_at_rooms {r x : V} : (([("step", r)] : List (Str × V)).lookup ("step" : Str)) = some r := lk1
theorem sc_Rooms_init : FnScope ["self", "step", "letters", "marked", "room", "left", "row", "setting", "what", "place"] ["self", "step"] (defScope st_Rooms_init) := ⟨rfl, rfl, rfl, by decide +kernel, rfl, by decide +kernel, by decide +kernel⟩
theorem k_Rooms (t : T K mg) : C8.Mak P w K mg base 19 "Rooms" (He.ga K "Rooms") (spRooms K) [] := by
  have hl := m_letters (P := P) (w := w) (base := base) t 13
  have hn := c_numbered (P := P) (w := w) (base := base) t 13
  have hb := c_left_behind (P := P) (w := w) (base := base) t 13
  have hf := m_first (P := P) (w := w) (base := base) t 14
  refine mak_of (k := 18) t.mk_Rooms t.gc_Rooms t.d_Rooms_init sc_Rooms_init (fun vs H Q E h => ?_) (fun fd cdv A outer s H vs Q E hr h => ?_)
  · obtain ⟨x, dx, v, G, p, f, rfl, _⟩ := h
    rfl
  obtain ⟨x, dx, v, G, p, f, rfl, hx, sG, Gx, hp, ht, hd, h12, hF, q⟩ := h
  obtain ⟨tS, hS⟩ := t.s_SIGNS
  have nd := sc_Rooms_init.nd
  refine ⟨_, pss_cons (ps_fld (pv 0) (pv 1) rfl)
    (pss_cons (ps_set (i := 2) nd rfl (.inl rfl) (pe_any fun kd => C8.pe_mt0 (hl kd) hr (by omega) (pv 1)))
    (pss_cons (ps_set (i := 3) nd rfl (.inl rfl) (C8.pe_c hn hr (by omega) rfl (pa_cons (pv 1) (pa_cons pe_int pa_nil))))
    (pss_cons (ps_fld (pv 0) (pe_lst pa_nil) rfl)
    (pss_one (ps_for PassesOwn.never rfl (pi_range1 rfl t.f_range (pa_cons (pe_op op_add (pe_callB call_len_str rfl t.f_len PySem.boot_len (pa_cons (pv 2) pa_nil)) pe_int) pa_nil)) (pg_name (i := 4) nd rfl (.inl rfl))
      (pss_cons (ps_set (i := 5) nd rfl (.inl rfl) (pv 3))
      (C8.pss_cut (ps_if (pt_cmpR op_gt (pv 4) pe_int (nomark _)) (pss_one (ps_set (i := 5) nd rfl (.inl rfl) (C8.pe_c hb hr (by omega) rfl (pa_cons (pv 3) (pa_cons (pv 4) pa_nil))))) pss_nil)
      (pss_cons (ps_set (i := 6) nd rfl (.inl rfl) (pe_lst pa_nil))
      (pss_cons (ps_for PassesOwn.never rfl (pi_range1 rfl t.f_range (pa_cons pe_int pa_nil)) (pg_name (i := 7) nd rfl (.inl rfl))
        (pss_cons (ps_set (i := 8) nd rfl (.inl rfl) (pe_ix ix_tup (pe_any fun kd => C8.pe_mt (hf kd) hr (by omega) (pv 5) (pa_cons (pv 7) pa_nil)) pe_int (fun _ _ => rfl)))
        (pss_one (ps_if (pt_cmpR op_eq (pe_callB call_len_str rfl t.f_len PySem.boot_len (pa_cons (pv 8) pa_nil)) pe_int (nomark _))
          (pss_cons (ps_set (i := 9) nd rfl (.inl rfl) (pe_m1 PySem.F.slot_str_index PySem.F.type_str_index mt_sindex (pe_glob rfl hS (rel_str _ _)) (pv 8)))
          (pss_one (ps_expr (pe_bm PySem.F.plainAttrs_list PySem.F.slot_list_append PySem.F.type_list_append mt_append (pv 6) (pa_cons (pe_tup (pa_cons (pe_ix ix_str (pv 2) (pv 9) (fun _ _ => rfl)) (pa_cons (pe_op op_add (pv 9) pe_int) pa_nil))) pa_nil)))))
          (pss_one (ps_expr (pe_bm PySem.F.plainAttrs_list PySem.F.slot_list_append PySem.F.type_list_append mt_append (pv 6) (pa_cons (pe_tup (pa_cons (pv 8) (pa_cons pe_int pa_nil))) pa_nil))))))))
      (pss_one (ps_expr (pe_bm PySem.F.plainAttrs_list PySem.F.slot_list_append PySem.F.type_list_append mt_append (pe_fld (pv 0) rfl) (pa_cons (pv 6) pa_nil))))))))))))), ?_⟩
  -- self.step = step
  refine ⟨_, rfl, _, rfl, x, _, dx, _, rfl, hx, t.c_Rooms, t.n_Rooms_step, (by first | decide | exact lt_put1 | exact lt_put2 | exact lt_put3 | exact lt_fl rfl), ?_⟩
  have sG1 : Same G (upd H x (.ins (He.ga K "Rooms") dx (putF "step" v []))) := same_mut sG Gx _
  -- letters = step.letters()
  obtain ⟨xa, dxa, fsa, rfl, hxa, _, la⟩ := at_stp (hp.mono sG1)
  refine ⟨p.kind, _, rfl, xa, dxa, fsa, rfl, hxa, la, _, p, rfl, rfl, hp.mono sG1, hd, by omega, ?_⟩
  -- marked = numbered(step, 0)
  refine ⟨_, rfl, _, 0, p, rfl, hp.mono sG1, hd, by omega, fun mk H3 s3 hmk => ?_⟩
  have hx3 : H3 x = some (.ins (He.ga K "Rooms") dx (putF "step" (.ref xa) [])) := s3 _ _ upd_same
  have hmk2 : StpAt K (Off [x] H3) (p.num 0) mk := stp_off_step (fun C d fs e => by
    rw [hx3] at e
    cases e
    exact ⟨_, lk1⟩) hmk
  have sG3 : Same G (Off [x] H3) := same_off (sG1.trans s3) fun a m => by
    rw [List.mem_singleton.mp m]
    exact Gx
  -- self.doors = []
  refine ⟨Nat.zero_le _, fun dl hdl => ?_⟩
  have nx : x ≠ dl := ne_of_none hx3 hdl
  have hx4 : (upd H3 dl (.lst [])) x = some (.ins (He.ga K "Rooms") dx (putF "step" (.ref xa) [])) := by
    rw [upd_ne nx]
    exact hx3
  refine ⟨_, rfl, x, _, dx, _, rfl, hx4, t.c_Rooms, t.n_Rooms_doors, (by first | decide | exact lt_put1 | exact lt_put2 | exact lt_put3 | exact lt_fl rfl), ?_⟩
  have g3x : Off [x] H3 x = none := off_in (List.mem_singleton.mpr rfl)
  have g3d : Off [x] H3 dl = none := by
    unfold Off
    split
    · rfl
    · exact hdl
  generalize hG3 : Off [x] H3 = G3 at hmk2 sG3 g3x g3d
  have s34 : Same G3 (upd (upd H3 dl (.lst [])) x (.ins (He.ga K "Rooms") dx (putF "doors" (.ref dl) (putF "step" (.ref xa) [])))) := by
    refine same_mut ?_ g3x _
    rw [← hG3]
    exact off_le.trans (same_new hdl _)
  -- for room in range(len(letters) + 1)
  refine ⟨_, rfl, _, rfl, sz_of (by rw [S_len]; omega), _, _, rfl, rfl, _, rfl, (by rw [S_len]; omega), (by rw [S_len]; omega), ?_⟩
  have en : (((S p.letters).length : Nat) : Int) + 1 = ((p.letters.length + 1 : Nat) : Int) := by
    rw [S_len]
    rfl
  rw [en, Int.toNat_natCast]
  refine for_range (lo := 0) (n := p.letters.length + 1) (fun i σ H' => ∃ (v4 v5 v6 v7 v8 v9 : Option V) (rs : List V), σ = [some (.ref x), some (.ref xa), some (.str (S p.letters)), some mk, v4, v5, v6, v7, v8, v9] ∧ Same G3 H' ∧
      H' x = some (.ins (He.ga K "Rooms") dx (fl_Rooms (.ref xa) (.ref dl))) ∧ H' dl = some (.lst rs) ∧ rs.length = i ∧ RowsAt (Off [x, dl] H') rs i f)
    ⟨none, none, none, none, none, none, [], rfl, s34, by rw [upd_same, put_Rooms], by rw [upd_ne nx.symm, upd_same], rfl, fun r hr => absurd hr (Nat.not_lt_zero _)⟩ ?_ ?_
  · rintro i σ H' hi ⟨v4, v5, v6, v7, v8, v9, rs, rfl, s4, hx', hdl', hrs, hR⟩
    -- left = marked; if room > 0: left = left_behind(marked, room)
    refine ⟨_, rfl, ?_⟩
    refine ⟨fun σ' H1 => ∃ lv, σ' = [some (.ref x), some (.ref xa), some (.str (S p.letters)), some mk, some (.int (0 + (i : Int))), some lv, v6, v7, v8, v9] ∧ Same H' H1 ∧ StpAt K H1 (p.room i) lv, ?_, ?_⟩
    · refine ⟨_, rfl, _, _, rfl, rfl, _, rfl, ?_⟩
      refine ite2 (fun c => ?_) (fun c => ?_)
      · have c' : (0 : Int) < 0 + (i : Int) := of_decide_eq_true c
        refine ⟨_, rfl, _, rfl, mk, i, p.num 0, ?_, hmk2.mono s4, by rw [num_depth]; exact hd, by omega, by rw [num_letters]; omega, by rw [num_letters]; exact h12, fun r1 H1 s1 f1 => ?_⟩
        · have e0 : (0 : Int) + (i : Int) = (i : Int) := by omega
          exact congrArg (fun z => [mk, V.int z]) e0
        · refine ⟨r1, rfl, s1, ?_⟩
          have e : p.room i = (p.num 0).left i := by
            unfold Stp.room
            rw [if_neg (by omega)]
          rw [e]
          exact f1
      · have c' : ¬ (0 : Int) < 0 + (i : Int) := of_decide_eq_false (Bool.eq_false_iff.mpr c)
        refine ⟨mk, rfl, Same.refl _, ?_⟩
        have e : p.room i = p.num 0 := by
          unfold Stp.room
          rw [if_pos (by omega)]
        rw [e]
        exact hmk2.mono s4
    · rintro σ' H1 ⟨lv, rfl, s1, hlv⟩
      -- row = []
      refine ⟨Nat.zero_le _, fun rl hrl => ?_⟩
      have lt : (p.room i).tests = true := by
        unfold Stp.room
        split
        · rw [num_tests]
          exact ht
        · exact left_tests _ _ (by rw [num_tests]; exact ht)
      have ld : (p.room i).depth ≤ 14 := by
        unfold Stp.room
        split
        · rw [num_depth]
          omega
        · have e := left_depth (p.num 0) i
          rw [num_depth] at e
          omega
      -- for setting in range(16)
      refine ⟨16, rfl, by decide, by decide, ?_⟩
      refine for_range (lo := 0) (n := 16) (fun j σ2 H2 => ∃ (w7 w8 w9 : Option V) (cs : List V), σ2 = [some (.ref x), some (.ref xa), some (.str (S p.letters)), some mk, some (.int (0 + (i : Int))), some lv, some (.ref rl), w7, w8, w9] ∧ Same H1 H2 ∧
          H2 rl = some (.lst cs) ∧ cs.length = j ∧ CellsAt (Off [rl] H2) cs j (f i))
        ⟨v7, v8, v9, [], rfl, same_new hrl _, upd_same, rfl, fun s hs => absurd hs (Nat.not_lt_zero _)⟩ ?_ ?_
      · rintro j σ2 H2 hj ⟨w7, w8, w9, cs, rfl, s2, hrl2, hcs, hC⟩
        -- what = left.first(setting)[0]
        obtain ⟨la', dla, fsl, rfl, hla, lf, _⟩ := at_stp (hlv.mono s2)
        refine ⟨(p.room i).kind, _, rfl, la', dla, fsl, rfl, hla, lf, _, rfl, _, j, p.room i, ?_, hj, rfl, hlv.mono s2, lt, ld, fun r3 H3' s3' f3 => ?_⟩
        · have e0 : (0 : Int) + (j : Int) = (j : Int) := by omega
          exact congrArg (fun z => [V.ref la', V.int z]) e0
        obtain ⟨ta, lw, rfl, hta, hL⟩ := f3
        refine ⟨ta, _, _, _, rfl, rfl, SqT.of hta, rfl, ?_⟩
        have hF' := hF i j (by omega) hj
        have hrl3 := s3' _ _ hrl2
        refine ⟨_, rfl, ?_⟩
        have fin : ∀ (o : HO) (c : Addr) (σ3 : L2.St), o = .tup [.str (f i j).1, .int (f i j).2] → H3' c = none → (∃ u8 u9, σ3 = [some (.ref x), some (.ref xa), some (.str (S p.letters)), some mk, some (.int (0 + (i : Int))), some (.ref la'), some (.ref rl), some (.int (0 + (j : Int))), u8, u9]) →
            ∃ (w7 w8 w9 : Option V) (cs' : List V), σ3 = [some (.ref x), some (.ref xa), some (.str (S p.letters)), some mk, some (.int (0 + (i : Int))), some (.ref la'), some (.ref rl), w7, w8, w9] ∧ Same H1 (upd (upd H3' c o) rl (.lst (cs ++ [.ref c]))) ∧
              (upd (upd H3' c o) rl (.lst (cs ++ [.ref c]))) rl = some (.lst cs') ∧ cs'.length = j + 1 ∧ CellsAt (Off [rl] (upd (upd H3' c o) rl (.lst (cs ++ [.ref c])))) cs' (j + 1) (f i) := by
          intro o c σ3 eo hc ⟨u8, u9, eσ⟩
          have nc : c ≠ rl := fun e => by
            rw [e, hrl3] at hc
            cases hc
          refine ⟨_, u8, u9, cs ++ [.ref c], eσ, same_mut ((s2.trans s3').trans (same_new hc _)) hrl _, upd_same, by rw [List.length_append, hcs]; rfl, ?_⟩
          rw [off_upd (List.mem_singleton.mpr rfl)]
          refine CellsAt.snoc (hC.mono (off_same (s3'.trans (same_new hc _)))) hcs ?_
          refine off_at ?_ (fun m => nc (List.mem_singleton.mp m))
          rw [upd_same, eo]
        have lcs : cs.length < sizeLine := Nat.lt_of_le_of_lt (by rw [hcs]; exact Nat.le_of_lt hj) (by decide)
        cases e : (p.room i).first j with
        | deed c l =>
          rw [e] at hF'
          obtain ⟨n, c', hn', rfl, hc', ef⟩ := hF'
          have e1 : (Fst.what (.deed (sg n) l)) = S [sg n] := rfl
          rw [e1]
          refine ⟨_, rfl, sz_of (by rw [S_len]; simp), rfl, _, rfl, ?_⟩
          rw [S_len]
          refine iteT ?_
          refine ⟨⟨_, rfl⟩, _, rfl, _, _, _, _, rfl, rfl, occ_at ⟨n, hn'⟩, ?_⟩
          refine ⟨_, rfl, .inl ⟨rfl, _, SqL.of hrl3⟩, _, rfl, _, rfl, _, _, _, rfl, rfl, sz_of (by rw [S_len]; omega), atI_nat hc', _, rfl, _, _, rfl, rfl, (by show 2 ≤ sizeLine; decide), fun c9 hc9 => ?_⟩
          refine ⟨rl, cs, _, rfl, rfl, ?_, lcs, ?_⟩
          · rw [upd_ne (fun e => by rw [← e, hrl3] at hc9; cases hc9)]
            exact hrl3
          · refine fin _ _ _ ?_ hc9 ⟨_, _, rfl⟩
            rw [ef]
            rfl
        | done =>
          rw [e] at hF'
          have e1 : (Fst.what .done) = ("done" : Str) := rfl
          rw [e1]
          refine ⟨_, rfl, sz_of (by rw [len_done]; decide), rfl, _, rfl, ?_⟩
          rw [len_done]
          refine iteF ?_
          refine ⟨_, rfl, .inl ⟨rfl, _, SqL.of hrl3⟩, _, rfl, (by show 2 ≤ sizeLine; decide), fun c9 hc9 => ?_⟩
          refine ⟨rl, cs, _, rfl, rfl, ?_, lcs, ?_⟩
          · rw [upd_ne (fun e => by rw [← e, hrl3] at hc9; cases hc9)]
            exact hrl3
          · refine fin _ _ _ ?_ hc9 ⟨_, _, rfl⟩
            rw [hF']
            rfl
        | hung =>
          rw [e] at hF'
          have e1 : (Fst.what .hung) = ("hung" : Str) := rfl
          rw [e1]
          refine ⟨_, rfl, sz_of (by rw [len_hung]; decide), rfl, _, rfl, ?_⟩
          rw [len_hung]
          refine iteF ?_
          refine ⟨_, rfl, .inl ⟨rfl, _, SqL.of hrl3⟩, _, rfl, (by show 2 ≤ sizeLine; decide), fun c9 hc9 => ?_⟩
          refine ⟨rl, cs, _, rfl, rfl, ?_, lcs, ?_⟩
          · rw [upd_ne (fun e => by rw [← e, hrl3] at hc9; cases hc9)]
            exact hrl3
          · refine fin _ _ _ ?_ hc9 ⟨_, _, rfl⟩
            rw [hF']
            rfl
      · -- self.doors.append(row)
        rintro σ2 H2 ⟨w7, w8, w9, cs, rfl, s2, hrl2, hcs, hC⟩
        have hx2 := s2 _ _ (s1 _ _ hx')
        have hd2 := s2 _ _ (s1 _ _ hdl')
        refine ⟨_, rfl, x, _, dx, _, _, rfl, hx2, t.c_Rooms, t.n_Rooms_doors, lk_Rooms_doors, .inl ⟨rfl, _, SqL.of hd2⟩, _, rfl, dl, rs, _, rfl, rfl, hd2, Nat.lt_of_le_of_lt (by rw [hrs]; omega : rs.length ≤ 13) (by decide), ?_⟩
        have nrx : rl ≠ x := ne_of hrl2 hx2 (by intro z; cases z)
        have nrd : rl ≠ dl := fun e => by
          have z := s1 _ _ hdl'
          rw [← e, hrl] at z
          cases z
        refine ⟨_, _, _, _, _, _, rs ++ [.ref rl], rfl, same_mut ((s4.trans s1).trans s2) g3d _, by rw [upd_ne nx]; exact hx2, upd_same, by rw [List.length_append, hrs]; rfl, ?_⟩
        rw [off_upd (by simp)]
        refine RowsAt.snoc (hR.mono (off_same (s1.trans s2))) hrs ?_
        have nm : rl ∉ [x, dl] := by
          simp only [List.mem_cons, List.not_mem_nil, or_false, not_or]
          exact ⟨nrx, nrd⟩
        refine ⟨cs, off_at hrl2 nm, hcs, fun s hs => ?_⟩
        obtain ⟨c, h1, h2⟩ := hC s hs
        have h3 := off_le _ _ h2
        refine ⟨c, h1, off_at h3 ?_⟩
        simp only [List.mem_cons, List.not_mem_nil, or_false, not_or]
        exact ⟨ne_of h3 hx2 (by intro z; cases z), ne_of h3 hd2 (by intro z; cases z)⟩
  · rintro σ H' ⟨v4, v5, v6, v7, v8, v9, rs, rfl, s4, hx', hdl', hrs, hR⟩
    exact q H' _ (sG3.trans s4) hx' ⟨dl, rs, rfl, hdl', hrs, hR.mono off_le⟩
end
end K98
set_option Elab.async false
set_option linter.all false
set_option maxRecDepth 100000
set_option maxHeartbeats 4000000
/-! a dict display with a tuple key; masks, sayings -/
namespace K98
open PySem PySem.Spec PyProof.Rows L2 SX
/-! ### {k: v}, k a tuple -/
def tDispT (tk tv : TE) : TE := fun σ H Q => ∀ p, H p = none → tk σ (upd H p (.dT [])) fun x H1 => tv σ H1 fun y H2 => ∃ b k, x = .ref b ∧ H2 p = some (.dT []) ∧ H2 b = some (.tup (k.map kV)) ∧ Q (.ref p) (upd H2 p (.dT (putK [] k y)))
theorem pe_dispT {X : Cx} {pos : Pos} {k v : Expr} {tk tv : TE} (hu : X.A.units + 1 < cLine) (hk : PE X k tk) (hv : PE X v tv) : PE X (.Dict [some k] [v] pos) (tDispT tk tv) := by
  refine ⟨fun pins s σ H Q I q => ?_⟩
  have hn := I.hok.fresh (Nat.le_refl s.heap.objs.size)
  have I1 := I.laid (a := s.heap.objs.size) (o := .dT []) (h' := s.heap.push { cls := .type "dict", data := .dict #[] }) (t' := s.toks) (fun _ _ q => Heap.get?_push_of_some _ q) (Nat.le_refl _) (dt_empty s.heap I.big)
  refine wpAny_Dict_any rfl rfl (List.cons_ne_nil _ _) (by show 1 ≤ 15; decide) (thn ((pps_cons hk hv pps_nil).run pins _ σ _ (fun ps H2 => match ps with
    | [(x, y)] => ∃ b k, x = .ref b ∧ H2 s.heap.objs.size = some (.dT []) ∧ H2 b = some (.tup (k.map kV)) ∧ Q (.ref s.heap.objs.size) (upd H2 s.heap.objs.size (.dT (putK [] k y)))
    | _ => False) I1 (q _ hn)) fun ws s2 ⟨ps, H2, I2, rel, z⟩ => ?_)
  cases rel with
  | nil => cases z
  | @cons p u ps us r1 r2 =>
    cases r2 with
    | cons _ _ => cases z
    | nil =>
      obtain ⟨x, y⟩ := p
      obtain ⟨u1, u2⟩ := u
      obtain ⟨b, kk, rfl, hp, hb, z⟩ := z
      obtain ⟨rx, ry⟩ := r1
      cases (show u1 = Value.ref b from rx)
      obtain ⟨zz, hd, xs, rel, dd⟩ := dt_of I2.hok hp
      have hz : xs.length ≤ sizeLine := by rw [← Paired.length rel]; exact zz
      have hl : (putK ([] : List (List Key × V)) kk y).length ≤ sizeLine := Nat.le_trans (length_putK [] kk y) (by decide)
      show wpAny _ _ (storeAll s.heap.objs.size [(Value.ref b, u2)]) _ _ _
      unfold storeAll
      rw [List.forIn_cons]
      refine wpAny_bind (wpAny_bind (wpAny_dictSet_heap (hsz := hz) (knd := tupleKind (mixKind X.prog X.w)) (by show X.A.units < cLine; omega) (key_of I2.hok hb) dd fun h' dd' hs => wpAny_pure ?_))
      show wpAny _ _ (forIn [] PUnit.unit _) _ _ _
      rw [List.forIn_nil]
      refine wpAny_pure ⟨.ref s.heap.objs.size, _, ?_, rfl, z⟩
      obtain ⟨q, es, ep, hq, h2, h3, h4, _, h5⟩ := dd'
      refine d_write I2 (by rw [hp]; exact True.intro) hs ⟨q, hq⟩ ⟨hl, hd, _, (rel.put kk hb ry).keeps fun c ys ec => ?_, q, es, ep, hq, h2, h3, h4, h5⟩
      rw [upd_ne (ne_of ec hp (fun z => nomatch z))]
      exact ec
/-! ### ifs -/
theorem iteY {c A B : Prop} [Decidable c] (hc : c) (h : A) : if decide c = true then A else B := by
  rw [if_pos (decide_eq_true hc)]
  exact h
theorem iteNo {c A B : Prop} [Decidable c] (hc : ¬ c) (h : B) : if decide c = true then A else B := by
  rw [if_neg (by rw [decide_eq_false hc]; exact Bool.false_ne_true)]
  exact h
theorem iteNT {c A B : Prop} [Decidable c] (hc : ¬ c) (h : A) : if (!decide c) = true then A else B := by
  rw [if_pos (by rw [decide_eq_false hc]; rfl)]
  exact h
theorem tYes_to {σ : L2.St} {H : Hp} {f : Bool → Hp → Prop} (h : f true H) : tYes σ H f := h
/-! ### the masks -/
def Msk : List Nat := [0, 65535, 43690, 52428, 61680, 65280]
/-- the mask of the j-th letter -/
def mk (j : Nat) : Nat := match j with
  | 0 => 43690
  | 1 => 52428
  | 2 => 61680
  | _ => 65280
theorem mk_in (j : Nat) : mk j ∈ Msk := by
  unfold mk
  split <;> decide
theorem xor_msk {m : Nat} (h : m ∈ Msk) : Builtin.bitXor 65535 (m : Int) = ((65535 - m : Nat) : Int) := by
  have z : ∀ m ∈ Msk, Builtin.bitXor 65535 (m : Int) = ((65535 - m : Nat) : Int) := by decide +kernel
  exact z m h
def maskTo (i k : Nat) : Nat := (List.range k).foldl (fun a s => if s.testBit i = true then a ||| 2 ^ s else a) 0
theorem maskTo_succ (i k : Nat) : maskTo i (k + 1) = if k.testBit i = true then maskTo i k ||| 2 ^ k else maskTo i k := by
  unfold maskTo
  rw [List.range_succ, List.foldl_append]
  rfl
theorem maskTo_all : ∀ i : Fin 4, maskTo i.val 16 = mk i.val := by decide +kernel
theorem mk_bit : ∀ j : Fin 4, ∀ s : Fin 16, (mk j.val).testBit s.val = s.val.testBit j.val := by decide +kernel
section
variable {P : Program} {w : World} {K : PySem.W.Frag} {mg : Str → Option Value} {base : Heap}
theorem d_Named_mask (t : T K mg) : Fn K "mask" "Test.mask" st_Test_mask ["self"] (He.ma K (He.ga K "Named") "mask") := by
  rw [t.same_Named_mask]
  exact t.d_Test_mask
theorem d_Through_bars (t : T K mg) : Fn K "bars" "Saying.bars" st_Saying_bars ["self", "setting"] (He.ma K (He.ga K "Through") "bars") := by
  rw [t.same_Through_bars]
  exact t.d_Saying_bars
def spMask (K : PySem.W.Frag) : Sp := fun vs H Q _ => ∃ (v : V) (i : Nat), vs = [v] ∧ TstAt K H (.named i) v ∧ Q (.int (mk i : Nat)) H
theorem sc_Test_mask : FnScope ["self", "found", "setting"] ["self"] (defScope st_Test_mask) := ⟨rfl, rfl, rfl, by decide +kernel, rfl, by decide +kernel, by decide +kernel⟩
theorem m_mask (t : T K mg) : C8.Met P w K mg base 2 (He.ga K "Named") "mask" (spMask K) [] := by
  have ih := m_holds (P := P) (w := w) (base := base) t 1 .named
  refine met_of t.c_Named t.m_Named_mask (d_Named_mask t) sc_Test_mask (fun vs H Q E h => ?_) (fun fd cdv A outer s H vs Q E hr h => ?_)
  · obtain ⟨v, i, rfl, _⟩ := h
    rfl
  obtain ⟨v, i, rfl, hv, q⟩ := h
  obtain ⟨tS, hS⟩ := t.i_SETTINGS
  have nd := sc_Test_mask.nd
  have hi : i < 4 := hv.1
  refine ⟨_, pss_cons (ps_set (i := 1) nd rfl (.inl rfl) pe_int) (pss_cons (ps_for PassesOwn.never rfl (pi_range1 rfl t.f_range (pa_cons (pe_glob rfl hS (rel_int _ _)) pa_nil)) (pg_name (i := 2) nd rfl (.inl rfl))
    (pss_one (ps_if (pt_val (C8.pe_mt ih hr (Nat.le_refl _) (pv 0) (pa_cons (pv 2) pa_nil))) (pss_one (ps_set (i := 1) nd rfl (.inl rfl) (pe_op op_or (pv 1) (pe_op op_shl pe_int (pv 2))))) pss_nil)))
    (pss_one (ps_ret (pv 1)))), ?_⟩
  refine ⟨16, rfl, by decide, by decide, ?_⟩
  refine for_range (lo := 0) (n := 16) (fun k σ H' => H' = H ∧ ∃ u, σ = [some v, some (.int (maskTo i k : Nat)), u]) ⟨rfl, none, rfl⟩ ?_ ?_
  · rintro k σ H' hk ⟨rfl, u, rfl⟩
    obtain ⟨b, db, fs, rfl, hb, hl⟩ := at_holds hv
    refine ⟨_, rfl, b, db, fs, rfl, hb, hl, _, rfl, _, k, .named i, ?_, hk, rfl, hv, Nat.le_refl _, _, rfl, ?_⟩
    · have e0 : (0 : Int) + (k : Int) = (k : Int) := by omega
      exact congrArg (fun z => [V.ref b, V.int z]) e0
    · refine ite2 (fun c => ?_) (fun c => ?_)
      · refine ⟨_, rfl, _, rfl, _, _, rfl, rfl, ⟨by show (0 : Int) ≤ 0 + (k : Int); omega, by show (0 : Int) + (k : Int) ≤ 1000000; omega, by decide⟩, _, _, rfl, rfl, rfl, some (.int (0 + (k : Int))), ?_⟩
        have c' : k.testBit i = true := c
        rw [maskTo_succ, if_pos c']
        show [some (V.ref b), some (V.int (Builtin.bitOr (maskTo i k : Nat) (1 * 2 ^ ((0 : Int) + (k : Int)).toNat))), some (V.int (0 + (k : Int)))] = _
        have e1 : (1 : Int) * 2 ^ ((0 : Int) + (k : Int)).toNat = ((2 ^ k : Nat) : Int) := by
          have e0 : (0 : Int) + (k : Int) = (k : Int) := by omega
          rw [e0, Int.toNat_natCast, Int.one_mul, Int.natCast_pow]
          rfl
        rw [e1, or_nat]
      · refine ⟨rfl, some (.int (0 + (k : Int))), ?_⟩
        have c' : ¬ k.testBit i = true := c
        rw [maskTo_succ, if_neg c']
        rfl
  · rintro σ H' ⟨rfl, u, rfl⟩
    refine ⟨_, rfl, ?_⟩
    rw [maskTo_all ⟨i, hi⟩]
    exact q
/-! ### a saying -/
/-- nothing is said, or that the letter j goes through the deed c -/
abbrev Say := Option (Nat × Nat)
def Say.ok : Say → Prop
  | none => True
  | some (j, _) => j < 4
def lets : Say → Nat → Nat → Nat
  | none, _, _ => 65535
  | some (j, c), d, s => if d = c then (if (mk j).testBit s = true then mk j else 65535 - mk j) else 65535
def ThrAt (K : PySem.W.Frag) (H : Hp) (v : V) (j c : Nat) : Prop := ∃ tv, Ins K H v "Through" (fl_Through tv (.str (S [c])) (.int (mk j : Nat)))
theorem ThrAt.mono {H H' : Hp} {v : V} {j c : Nat} (s : Same H H') (h : ThrAt K H v j c) : ThrAt K H' v j c := let ⟨tv, a⟩ := h; ⟨tv, a.mono s⟩
def SayAt (K : PySem.W.Frag) (H : Hp) (v : V) : Say → Prop
  | none => ∃ a, v = .ref a ∧ H a = some (.lst [])
  | some (j, c) => ∃ a u, v = .ref a ∧ H a = some (.lst [u]) ∧ ThrAt K H u j c
theorem SayAt.mono {H H' : Hp} {v : V} {y : Say} (s : Same H H') (h : SayAt K H v y) : SayAt K H' v y := by
  cases y with
  | none => obtain ⟨a, e, q⟩ := h; exact ⟨a, e, s _ _ q⟩
  | some p => obtain ⟨a, u, e, q, z⟩ := h; exact ⟨a, u, e, s _ _ q, z.mono s⟩
def spBars (K : PySem.W.Frag) : Sp := fun vs H Q _ => ∃ (v u : V), vs = [v, u] ∧ Q (.bl false) H
theorem sc_Saying_bars : FnScope ["self", "setting"] ["self", "setting"] (defScope st_Saying_bars) := ⟨rfl, rfl, rfl, by decide +kernel, rfl, by decide +kernel, by decide +kernel⟩
theorem m_bars (t : T K mg) : C8.Met P w K mg base 1 (He.ga K "Through") "bars" (spBars K) [] := by
  refine met_of t.c_Through t.m_Through_bars (d_Through_bars t) sc_Saying_bars (fun vs H Q E h => ?_) (fun fd cdv A outer s H vs Q E hr h => ?_)
  · obtain ⟨v, u, rfl, _⟩ := h
    rfl
  obtain ⟨v, u, rfl, q⟩ := h
  exact ⟨_, pss_one (ps_ret pe_bl), q⟩
def spAllows (K : PySem.W.Frag) : Sp := fun vs H Q _ => ∃ (v : V) (d s j c : Nat), vs = [v, .str (S [d]), .int s] ∧ s < 16 ∧ ThrAt K H v j c ∧ Q (.int (lets (some (j, c)) d s : Nat)) H
theorem S_one {a b : Nat} : (V.str (S [a]) = V.str (S [b])) ↔ a = b := by
  constructor
  · intro h
    have h1 := V.str.inj h
    have h2 : (S [a]).cps.toList = (S [b]).cps.toList := by rw [h1]
    have h3 : [a] = [b] := h2
    exact List.head_eq_of_cons_eq h3
  · rintro rfl
    rfl
theorem sc_Through_allows : FnScope ["self", "deed", "setting"] ["self", "deed", "setting"] (defScope st_Through_allows) := ⟨rfl, rfl, rfl, by decide +kernel, rfl, by decide +kernel, by decide +kernel⟩
theorem m_allows (t : T K mg) : C8.Met P w K mg base 1 (He.ga K "Through") "allows" (spAllows K) [] := by
  refine met_of t.c_Through t.m_Through_allows t.d_Through_allows sc_Through_allows (fun vs H Q E h => ?_) (fun fd cdv A outer s H vs Q E hr h => ?_)
  · obtain ⟨v, d, s', j, c, rfl, _⟩ := h
    rfl
  obtain ⟨v, d, s', j, c, rfl, hs, ⟨tv, a, dx, rfl, ha⟩, q⟩ := h
  obtain ⟨tE, hE⟩ := t.i_EVERY
  refine ⟨_, pss_cons (ps_if (pt_cmpR op_ne (pv 1) (pe_fld (pv 0) rfl) (nomark _)) (pss_one (ps_ret (pe_glob rfl hE (rel_int _ _)))) pss_nil)
    (pss_cons (ps_if (pt_cmpR op_eq (pe_op op_and (pe_op op_shr (pe_fld (pv 0) rfl) (pv 2)) pe_int) pe_int (nomark _)) (pss_one (ps_ret (pe_fld (pv 0) rfl))) pss_nil)
    (pss_one (ps_ret (pe_op op_xor (pe_glob rfl hE (rel_int _ _)) (pe_fld (pv 0) rfl))))), ?_⟩
  refine ⟨_, rfl, _, rfl, a, _, dx, _, _, rfl, ha, t.c_Through, t.n_Through_deed, lk_Through_deed, rfl, _, rfl, ?_⟩
  have ql : lets (some (j, c)) d s' = if d = c then (if (mk j).testBit s' = true then mk j else 65535 - mk j) else 65535 := rfl
  rw [ql] at q
  by_cases e : d = c
  · rw [if_pos e] at q
    subst e
    refine iteNS rfl ?_
    refine ⟨_, rfl, a, _, dx, _, _, rfl, ha, t.c_Through, t.n_Through_start, lk_Through_start, _, rfl, _, _, rfl, rfl, Int.natCast_nonneg _, _, _, rfl, rfl, rfl, _, rfl, ?_⟩
    rw [bit1]
    refine ite2 (fun c2 => ?_) (fun c2 => ?_)
    · rw [if_pos c2] at q
      exact ⟨_, rfl, a, _, dx, _, _, rfl, ha, t.c_Through, t.n_Through_start, lk_Through_start, q⟩
    · rw [if_neg c2] at q
      refine ⟨_, rfl, a, _, dx, _, _, rfl, ha, t.c_Through, t.n_Through_start, lk_Through_start, _, _, rfl, rfl, ?_⟩
      show Q (.int (Builtin.bitXor 65535 (mk j : Nat))) H
      rw [xor_msk (mk_in j)]
      exact q
  · rw [if_neg e] at q
    exact iteNT (fun z => e (S_one.mp z)) q
def spThrough (K : PySem.W.Frag) : Sp := fun vs H Q _ => ∃ (x dx : Addr) (v : V) (G : Hp) (j c : Nat), vs = [.ref x, v, .str (S [c])] ∧ H x = some (.ins (He.ga K "Through") dx []) ∧ Same G H ∧ G x = none ∧ TstAt K G (.named j) v ∧
  ∀ H', Same G H' → ThrAt K H' (.ref x) j c → Q .non H'
theorem sc_Through_init : FnScope ["self", "test", "deed"] ["self", "test", "deed"] (defScope st_Through_init) := ⟨rfl, rfl, rfl, by decide +kernel, rfl, by decide +kernel, by decide +kernel⟩
theorem k_Through (t : T K mg) : C8.Mak P w K mg base 3 "Through" (He.ga K "Through") (spThrough K) [] := by
  have ih := m_mask (P := P) (w := w) (base := base) t
  refine mak_of (k := 2) t.mk_Through t.gc_Through t.d_Through_init sc_Through_init (fun vs H Q E h => ?_) (fun fd cdv A outer s H vs Q E hr h => ?_)
  · obtain ⟨x, dx, v, G, j, c, rfl, _⟩ := h
    rfl
  obtain ⟨x, dx, v, G, j, c, rfl, hx, sG, Gx, hv, q⟩ := h
  refine ⟨_, pss_cons (ps_fld (pv 0) (pv 1) rfl) (pss_cons (ps_fld (pv 0) (pv 2) rfl) (pss_one (ps_fld (pv 0) (C8.pe_mt0 ih hr (Nat.le_refl _) (pv 1)) rfl))), ?_⟩
  refine ⟨_, rfl, _, rfl, x, _, dx, _, rfl, hx, t.c_Through, t.n_Through_test, (by first | decide | exact lt_put1 | exact lt_put2 | exact lt_put3 | exact lt_fl rfl), ?_⟩
  refine ⟨_, rfl, _, rfl, x, _, dx, _, rfl, upd_same, t.c_Through, t.n_Through_deed, (by first | decide | exact lt_put1 | exact lt_put2 | exact lt_put3 | exact lt_fl rfl), ?_⟩
  rw [upd_upd]
  have s2 : Same G (upd H x (.ins (He.ga K "Through") dx (putF "deed" (.str (S [c])) (putF "test" v [])))) := same_mut sG Gx _
  obtain ⟨i4, a, da, rfl, ha⟩ := hv
  refine ⟨_, rfl, a, da, _, rfl, s2 _ _ ha, lk_Named_mask, _, j, rfl, ⟨i4, a, da, rfl, s2 _ _ ha⟩, ?_⟩
  refine ⟨_, rfl, x, _, dx, _, rfl, upd_same, t.c_Through, t.n_Through_start, (by first | decide | exact lt_put1 | exact lt_put2 | exact lt_put3 | exact lt_fl rfl), ?_⟩
  rw [upd_upd]
  refine q _ (same_mut sG Gx _) ⟨.ref a, x, dx, rfl, ?_⟩
  rw [upd_same]
  show some (HO.ins (He.ga K "Through") dx (putF "start" (.int (mk j : Nat)) (putF "deed" (.str (S [c])) (putF "test" (.ref a) [])))) = _
  rw [put_Through]
end
end K98
set_option Elab.async false
set_option linter.all false
set_option maxRecDepth 100000
set_option maxHeartbeats 4000000
/-! Bonds -/
namespace K98
open PySem PySem.Spec PyProof.Rows L2 SX
def Lv : List Nat := [65535, 43690, 52428, 61680, 65280, 21845, 13107, 3855, 255]
theorem lv_of {x : Nat} (h : x ∈ Lv) : 65535 &&& x = x ∧ x &&& 65535 = x ∧ x ≠ 0 := by
  have z : ∀ x ∈ Lv, 65535 &&& x = x ∧ x &&& 65535 = x ∧ x ≠ 0 := by decide +kernel
  exact z x h
theorem mk_lv (j : Nat) : mk j ∈ Lv ∧ 65535 - mk j ∈ Lv := by
  unfold mk
  split <;> decide +kernel
theorem lets_lv (y : Say) (d s : Nat) : lets y d s ∈ Lv := by
  cases y with
  | none => show 65535 ∈ Lv; decide
  | some p =>
    obtain ⟨j, c⟩ := p
    show (if d = c then (if (mk j).testBit s = true then mk j else 65535 - mk j) else 65535) ∈ Lv
    split
    · split
      · exact (mk_lv j).1
      · exact (mk_lv j).2
    · decide
def lrowTo (y : Say) (d k : Nat) : List V := (List.range k).map fun s => V.int (lets y d s : Nat)
theorem lrowTo_succ (y : Say) (d k : Nat) : lrowTo y d (k + 1) = lrowTo y d k ++ [V.int (lets y d k : Nat)] := by
  unfold lrowTo
  rw [List.range_succ, List.map_append]
  rfl
theorem lrowTo_len (y : Say) (d k : Nat) : (lrowTo y d k).length = k := by simp [lrowTo]
theorem lrowTo_at {y : Say} {d k s : Nat} (h : s < k) : (lrowTo y d k)[s]? = some (V.int (lets y d s : Nat)) := by
  simp [lrowTo, List.getElem?_map, List.getElem?_range h]
def maskAll (k : Nat) : Nat := (List.range k).foldl (fun a s => a ||| 2 ^ s) 0
theorem maskAll_succ (k : Nat) : maskAll (k + 1) = maskAll k ||| 2 ^ k := by
  unfold maskAll
  rw [List.range_succ, List.foldl_append]
  rfl
theorem maskAll_16 : maskAll 16 = 65535 := by decide +kernel
theorem deed_at : ∀ i : Fin 5, ∀ c, ("PQRST" : Str).cps[i.val]? = some c → c = 80 + i.val := by
  have z : ∀ i : Fin 5, ("PQRST" : Str).cps[i.val]? = some (80 + i.val) := by decide +kernel
  intro i c h
  rw [z i] at h
  exact (Option.some.inj h).symm
theorem at0 {xs : List V} {i : Nat} {v : V} (h : xs[i]? = some v) : atI xs ((0 : Int) + (i : Int)) = some v := by
  rw [Int.zero_add]
  exact atI_nat h
theorem deeds_size : ("PQRST" : Str).cps.size = 5 := by decide +kernel
theorem pow1 (k : Nat) : (1 : Int) * 2 ^ ((0 : Int) + (k : Int)).toNat = ((2 ^ k : Nat) : Int) := by
  have e0 : (0 : Int) + (k : Int) = (k : Int) := by omega
  rw [e0, Int.toNat_natCast, Int.one_mul, Int.natCast_pow]
  rfl
section
variable {P : Program} {w : World} {K : PySem.W.Frag} {mg : Str → Option Value} {base : Heap}
theorem SayAt.list {H : Hp} {v : V} {y : Say} (h : SayAt K H v y) : ∃ a xs, v = .ref a ∧ H a = some (.lst xs) ∧ xs.length ≤ 1 ∧ ∀ (i : Nat) (x : V), xs[i]? = some x → ∃ j c, y = some (j, c) ∧ ThrAt K H x j c := by
  cases y with
  | none =>
    obtain ⟨a, e, q⟩ := h
    exact ⟨a, [], e, q, Nat.zero_le _, fun i x hx => by simp at hx⟩
  | some p =>
    obtain ⟨a, u, e, q, z⟩ := h
    refine ⟨a, [u], e, q, Nat.le_refl _, fun i x hx => ?_⟩
    cases i with
    | zero =>
      obtain rfl : u = x := Option.some.inj hx
      exact ⟨p.1, p.2, rfl, z⟩
    | succ i => simp at hx
theorem SayAt.none_nil {H : Hp} {v : V} {y : Say} (h : SayAt K H v y) {a : Addr} {xs : List V} (e : v = .ref a) (q : H a = some (.lst xs)) (n : xs = []) : y = none := by
  cases y with
  | none => rfl
  | some p =>
    obtain ⟨b, u, e2, q2, _⟩ := h
    rw [e] at e2
    cases e2
    rw [q, n] at q2
    cases q2
def spLetBy (K : PySem.W.Frag) : Sp := fun vs H Q _ => ∃ (v u : V) (d s : Nat) (y : Say), vs = [v, u, .str (S [d]), .int s] ∧ s < 16 ∧ SayAt K H u y ∧ Q (.int (lets y d s : Nat)) H
theorem sc_Bonds_let_by : FnScope ["self", "sayings", "deed", "setting", "mask", "saying"] ["self", "sayings", "deed", "setting"] (defScope st_Bonds_let_by) := ⟨rfl, rfl, rfl, by decide +kernel, rfl, by decide +kernel, by decide +kernel⟩
theorem m_let_by (t : T K mg) : C8.Met P w K mg base 2 (He.ga K "Bonds") "let_by" (spLetBy K) [] := by
  have ih := m_allows (P := P) (w := w) (base := base) t
  refine met_of t.c_Bonds t.m_Bonds_let_by t.d_Bonds_let_by sc_Bonds_let_by (fun vs H Q E h => ?_) (fun fd cdv A outer s H vs Q E hr h => ?_)
  · obtain ⟨v, u, d, s', y, rfl, _⟩ := h
    rfl
  obtain ⟨v, u, d, s', y, rfl, hs, hy, q⟩ := h
  obtain ⟨tE, hE⟩ := t.i_EVERY
  have nd := sc_Bonds_let_by.nd
  refine ⟨_, pss_cons (ps_set (i := 4) nd rfl (.inl rfl) (pe_glob rfl hE (rel_int _ _))) (pss_cons (ps_for PassesOwn.never rfl (pi_list (pv 1)) (pg_name (i := 5) nd rfl (.inl rfl))
    (pss_one (ps_set (i := 4) nd rfl (.inl rfl) (pe_op op_and (pv 4) (C8.pe_mt ih hr (Nat.le_refl _) (pv 5) (pa_cons (pv 2) (pa_cons (pv 3) pa_nil))))))) (pss_one (ps_ret (pv 4)))), ?_⟩
  obtain ⟨a, xs, rfl, ha, hl, hx⟩ := hy.list
  refine ⟨_, rfl, a, rfl, ⟨_, SqL.of ha⟩, for_list (xs := xs) (fun i σ H' => H' = H ∧ ∃ z, σ = [some v, some (.ref a), some (.str (S [d])), some (.int s'), some (.int ((if i = 0 then 65535 else lets y d s' : Nat) : Nat)), z])
    ⟨rfl, none, rfl⟩ (fun i σ H' _ p => by rw [p.1]; exact SqL.of ha) ?_ ?_⟩
  · rintro i x σ H' hix ⟨rfl, z, rfl⟩
    obtain ⟨j, c, ey, hT⟩ := hx i x hix
    have i0 : i = 0 := by
      have z := (List.getElem?_eq_some_iff.mp hix).1
      omega
    subst i0 ey
    obtain ⟨tv, b, db, rfl, hb⟩ := hT
    refine ⟨_, rfl, _, rfl, b, db, _, rfl, hb, lk_Through_allows, _, rfl, _, rfl, _, d, s', j, c, rfl, hs, ⟨tv, b, db, rfl, hb⟩, _, _, rfl, rfl, rfl, some (.ref b), ?_⟩
    show [some v, some (.ref a), some (.str (S [d])), some (.int s'), some (.int (Builtin.bitAnd ((65535 : Nat) : Int) (lets (some (j, c)) d s' : Nat))), some (.ref b)] = _
    rw [and_nat, (lv_of (lets_lv _ _ _)).1]
    rfl
  · rintro σ H' ⟨rfl, z, rfl⟩
    refine ⟨_, rfl, ?_⟩
    by_cases e : xs.length = 0
    · rw [if_pos e]
      obtain rfl := hy.none_nil rfl ha (List.eq_nil_of_length_eq_zero e)
      exact q
    · rw [if_neg e]
      exact q
def BondsAt (K : PySem.W.Frag) (H : Hp) (v : V) (y : Say) : Prop := ∃ ld kvs, Ins K H v "Bonds" (fl_Bonds (.int 65535) (.ref ld)) ∧ H ld = some (.dK kvs) ∧ ∀ i, i < 5 → ∃ la, valV kvs (.inr (S [80 + i])) = some (.ref la) ∧ H la = some (.lst (lrowTo y (80 + i) 16))
theorem BondsAt.mono {H H' : Hp} {v : V} {y : Say} (s : Same H H') (h : BondsAt K H v y) : BondsAt K H' v y := by
  obtain ⟨ld, kvs, a, b, c⟩ := h
  refine ⟨ld, kvs, a.mono s, s _ _ b, fun i hi => ?_⟩
  obtain ⟨la, x, z⟩ := c i hi
  exact ⟨la, x, s _ _ z⟩
theorem dget_k {H : Hp} {a : Addr} {kvs : List (L2.Key × V)} {z : Str} {v : V} (e : H a = some (.dK kvs)) (h : valV kvs (.inr z) = some v) : DGet H a (.str z) (some v) := by
  have q := DGet.k (k := .inr z) e
  rw [h] at q
  exact q
def spNarrowed (K : PySem.W.Frag) : Sp := fun vs H Q _ => ∃ (v : V) (y : Say), vs = [v] ∧ BondsAt K H v y ∧ Q (.bl false) H
theorem sc_Bonds_narrowed : FnScope ["self", "left", "setting", "deed"] ["self"] (defScope st_Bonds_narrowed) := ⟨rfl, rfl, rfl, by decide +kernel, rfl, by decide +kernel, by decide +kernel⟩
theorem m_narrowed (t : T K mg) : C8.Met P w K mg base 1 (He.ga K "Bonds") "narrowed" (spNarrowed K) [] := by
  refine met_of t.c_Bonds t.m_Bonds_narrowed t.d_Bonds_narrowed sc_Bonds_narrowed (fun vs H Q E h => ?_) (fun fd cdv A outer s H vs Q E hr h => ?_)
  · obtain ⟨v, y, rfl, _⟩ := h
    rfl
  obtain ⟨v, y, rfl, ⟨ld, kvs, ⟨x, dx, rfl, hx⟩, hd, hK⟩, q⟩ := h
  obtain ⟨tD, hD⟩ := t.s_DEEDS
  have nd := sc_Bonds_narrowed.nd
  have hu := hu_of hr
  refine ⟨_, pss_cons (ps_set (i := 1) nd rfl (.inl rfl) (pe_fld (pv 0) rfl)) (pss_cons (ps_for PassesOwn.never rfl (pi_range1 rfl t.f_range (pa_cons pe_int pa_nil)) (pg_name (i := 2) nd rfl (.inl rfl))
    (pss_one (ps_for PassesOwn.never rfl (pi_str (pe_glob rfl hD (rel_str _ _))) (pg_name (i := 3) nd rfl (.inl rfl))
      (pss_one (ps_if (pt_cmpR op_eq (pe_op op_and (pe_ix ix_list (pe_dget hu (pe_fld (pv 0) rfl) (pv 3) (fun _ _ => rfl)) (pv 2) (fun _ _ => rfl)) (pv 1)) pe_int (nomark _)) pss_never pss_nil)))))
    (pss_cons (ps_if (pt_cmpR op_eq (pv 1) (pe_fld (pv 0) rfl) (nomark _)) (pss_one (ps_ret pe_bl)) pss_nil) pss_never)), ?_⟩
  refine ⟨_, rfl, x, _, dx, _, _, rfl, hx, t.c_Bonds, t.n_Bonds_kept, lk_Bonds_kept, ?_⟩
  refine ⟨16, rfl, by decide, by decide, ?_⟩
  refine for_range (lo := 0) (n := 16) (fun i σ H' => H' = H ∧ ∃ z2 z3, σ = [some (.ref x), some (.int 65535), z2, z3]) ⟨rfl, none, none, rfl⟩ ?_ ?_
  · rintro i σ H' hi ⟨rfl, z2, z3, rfl⟩
    refine ⟨_, rfl, ?_⟩
    refine for_it walk_str (fun k σ H2 => H2 = H' ∧ ∃ z3, σ = [some (.ref x), some (.int 65535), some (.int (0 + (i : Int))), z3]) ⟨rfl, _, rfl⟩ (fun _ _ _ _ _ => trivial) ?_ ?_
    · rintro k u σ H2 H3 hk ⟨rfl, z3, rfl⟩ ⟨rfl, c, hc, rfl⟩
      rw [deeds_size] at hk
      obtain rfl := deed_at ⟨k, hk⟩ c hc
      obtain ⟨la, h1, h2⟩ := hK k hk
      refine ⟨_, rfl, x, _, dx, _, _, rfl, hx, t.c_Bonds, t.n_Bonds_let, lk_Bonds_let, _, rfl, ld, .ref la, rfl, dget_k hd h1, _, rfl, la, _, _, _, rfl, rfl, SqL.of h2, at0 (lrowTo_at hi), _, rfl, _, _, rfl, rfl, rfl, _, rfl, ?_⟩
      have e1 : Builtin.bitAnd (lets y (80 + k) i : Nat) 65535 = ((lets y (80 + k) i : Nat) : Int) := by
        refine (and_nat _ 65535).trans ?_
        rw [(lv_of (lets_lv _ _ _)).2.1]
      show if decide (V.int (Builtin.bitAnd (lets y (80 + k) i : Nat) 65535) = V.int 0) = true then _ else _
      rw [e1]
      refine iteNo (fun z => ?_) ?_
      · have z2 := V.int.inj z
        exact (lv_of (lets_lv y (80 + k) i)).2.2 (Int.ofNat.inj z2)
      · exact ⟨rfl, _, rfl⟩
    · rintro σ H2 ⟨rfl, z3, rfl⟩
      exact ⟨rfl, _, _, rfl⟩
  · rintro σ H' ⟨rfl, z2, z3, rfl⟩
    refine ⟨_, rfl, _, rfl, x, _, dx, _, _, rfl, hx, t.c_Bonds, t.n_Bonds_kept, lk_Bonds_kept, rfl, _, rfl, iteY rfl ?_⟩
    exact q
end
end K98
set_option Elab.async false
set_option linter.all false
set_option maxRecDepth 100000
set_option maxHeartbeats 4000000
/-! Bonds: the making, good, ways -/
namespace K98
open PySem PySem.Spec PyProof.Rows L2 SX
section
variable {P : Program} {w : World} {K : PySem.W.Frag} {mg : Str → Option Value} {base : Heap}
theorem none_back {H H' : Hp} {a : Addr} (s : Same H H') (h : H' a = none) : H a = none := by
  cases e : H a with
  | none => rfl
  | some o =>
    rw [s _ _ e] at h
    cases h
def spGood (K : PySem.W.Frag) : Sp := fun vs H Q _ => ∃ (v : V) (y : Say), vs = [v] ∧ BondsAt K H v y ∧ Q (.int 65535) H
theorem sc_Bonds_good : FnScope ["self"] ["self"] (defScope st_Bonds_good) := ⟨rfl, rfl, rfl, by decide +kernel, rfl, by decide +kernel, by decide +kernel⟩
theorem m_good (t : T K mg) : C8.Met P w K mg base 1 (He.ga K "Bonds") "good" (spGood K) [] := by
  refine met_of t.c_Bonds t.m_Bonds_good t.d_Bonds_good sc_Bonds_good (fun vs H Q E h => ?_) (fun fd cdv A outer s H vs Q E hr h => ?_)
  · obtain ⟨v, y, rfl, _⟩ := h
    rfl
  obtain ⟨v, y, rfl, ⟨ld, kvs, ⟨x, dx, rfl, hx⟩, hd, hK⟩, q⟩ := h
  exact ⟨_, pss_one (ps_ret (pe_fld (pv 0) rfl)), _, rfl, x, _, dx, _, _, rfl, hx, t.c_Bonds, t.n_Bonds_kept, lk_Bonds_kept, q⟩
def spWays (K : PySem.W.Frag) : Sp := fun vs H Q _ => ∃ (v : V) (i s : Nat) (y : Say), vs = [v, .str (S [80 + i]), .int s] ∧ i < 5 ∧ s < 16 ∧ BondsAt K H v y ∧ Q (.int (lets y (80 + i) s : Nat)) H
theorem sc_Bonds_ways : FnScope ["self", "deed", "setting"] ["self", "deed", "setting"] (defScope st_Bonds_ways) := ⟨rfl, rfl, rfl, by decide +kernel, rfl, by decide +kernel, by decide +kernel⟩
theorem m_ways (t : T K mg) : C8.Met P w K mg base 1 (He.ga K "Bonds") "ways" (spWays K) [] := by
  refine met_of t.c_Bonds t.m_Bonds_ways t.d_Bonds_ways sc_Bonds_ways (fun vs H Q E h => ?_) (fun fd cdv A outer s H vs Q E hr h => ?_)
  · obtain ⟨v, i, s', y, rfl, _⟩ := h
    rfl
  obtain ⟨v, i, s', y, rfl, hi, hs, ⟨ld, kvs, ⟨x, dx, rfl, hx⟩, hd, hK⟩, q⟩ := h
  have hu := hu_of hr
  obtain ⟨la, h1, h2⟩ := hK i hi
  refine ⟨_, pss_one (ps_ret (pe_op op_and (pe_ix ix_list (pe_dget hu (pe_fld (pv 0) rfl) (pv 1) (fun _ _ => rfl)) (pv 2) (fun _ _ => rfl)) (pe_fld (pv 0) rfl))), ?_⟩
  refine ⟨_, rfl, x, _, dx, _, _, rfl, hx, t.c_Bonds, t.n_Bonds_let, lk_Bonds_let, _, rfl, ld, .ref la, rfl, dget_k hd h1, _, rfl, la, _, _, _, rfl, rfl, SqL.of h2, atI_nat (lrowTo_at hs), ?_⟩
  refine ⟨_, rfl, x, _, dx, _, _, rfl, hx, t.c_Bonds, t.n_Bonds_kept, lk_Bonds_kept, _, _, rfl, rfl, ?_⟩
  have e1 : Builtin.bitAnd (lets y (80 + i) s' : Nat) 65535 = ((lets y (80 + i) s' : Nat) : Int) := by
    refine (and_nat _ 65535).trans ?_
    rw [(lv_of (lets_lv _ _ _)).2.1]
  show Q (.int (Builtin.bitAnd (lets y (80 + i) s' : Nat) 65535)) H
  rw [e1]
  exact q
def spBonds (K : PySem.W.Frag) : Sp := fun vs H Q _ => ∃ (x dx : Addr) (v : V) (G : Hp) (y : Say), vs = [.ref x, v] ∧ H x = some (.ins (He.ga K "Bonds") dx []) ∧ Same G H ∧ G x = none ∧ SayAt K G v y ∧
  ∀ H', Same G H' → BondsAt K H' (.ref x) y → Q .non H'
def fk (v : V) : List (Str × V) := [("kept", v)]
theorem fk_lk {v : V} : (fk v).lookup ("kept" : Str) = some v := lk1
theorem fk_put {u v : V} : putF "kept" u (fk v) = fk u := put1
theorem fk_let {u v : V} : putF "let" u (fk v) = fl_Bonds v u := put_Bonds
theorem any_false (n : Nat) : (List.replicate n false).any id = false := by
  induction n with
  | zero => rfl
  | succ n ih => rw [List.replicate_succ, List.any_cons, ih]; rfl
theorem key_ne {i j : Nat} (h : ¬ i = j) : ¬ ((Sum.inr (S [80 + i]) : L2.Key) = Sum.inr (S [80 + j])) := fun e => h (by
  have e2 := S_one.mp (congrArg V.str (Sum.inr.inj e))
  omega)
theorem sc_Bonds_init : FnScope ["self", "sayings", "setting", "deed", "saying"] ["self", "sayings"] (defScope st_Bonds_init) := ⟨rfl, rfl, rfl, by decide +kernel, rfl, by decide +kernel, by decide +kernel⟩
theorem k_Bonds (t : T K mg) : C8.Mak P w K mg base 3 "Bonds" (He.ga K "Bonds") (spBonds K) [] := by
  have i1 := m_bars (P := P) (w := w) (base := base) t
  have i2 := m_let_by (P := P) (w := w) (base := base) t
  have i3 := m_narrowed (P := P) (w := w) (base := base) t
  refine mak_of (k := 2) t.mk_Bonds t.gc_Bonds t.d_Bonds_init sc_Bonds_init (fun vs H Q E h => ?_) (fun fd cdv A outer s H vs Q E hr h => ?_)
  · obtain ⟨x, dx, v, G, y, rfl, _⟩ := h
    rfl
  obtain ⟨x, dx, v, G, y, rfl, hx, sG, Gx, hy, q⟩ := h
  obtain ⟨tD, hD⟩ := t.s_DEEDS
  have nd := sc_Bonds_init.nd
  have hu := hu_of hr
  obtain ⟨a, xs, rfl, ha, hl, hxs⟩ := hy.list
  refine ⟨_, pss_cons (ps_fld (pv 0) pe_int rfl)
    (pss_cons (ps_for PassesOwn.never rfl (pi_range1 rfl t.f_range (pa_cons pe_int pa_nil)) (pg_name (i := 2) nd rfl (.inr rfl))
      (pss_one (ps_if (pt_not (pt_val (pe_callB (cr_any rfl) rfl t.f_any (by decide +kernel) (pa_cons (pe_lc (own := [("saying", 4)]) (g := gName 4) (tt := tYes) (by rfl) nd (pi_list (pv 1))
          (blkOk_by (own := [("saying", 4)]) (N := ["self", "sayings", "setting", "deed", "saying"]) (sc := defScope st_Bonds_init) (by decide +kernel)) (fun _ _ _ _ _ => pg_name (i := 4) nd rfl (Or.inl rfl))
          (fun _ _ _ _ _ => pts_nil) (fun _ _ _ _ _ => C8.pe_mt i1 hr (by omega) (pv 4) (pa_cons (pv 2) pa_nil))) pa_nil))))
        (pss_one (ps_fld (pv 0) (pe_op op_or (pe_fld (pv 0) rfl) (pe_op op_shl pe_int (pv 2))) rfl)) pss_nil)))
    (pss_cons (ps_fld (pv 0) pe_dnewK rfl)
    (pss_cons (ps_for PassesOwn.never rfl (pi_str (pe_glob rfl hD (rel_str _ _))) (pg_name (i := 3) nd rfl (.inr rfl))
      (pss_one (ps_dput hu (pe_fld (pv 0) rfl) (pv 3) (pe_lc (own := [("setting", 2)]) (g := gName 2) (tt := tYes) (by rfl) nd (pi_range1 rfl t.f_range (pa_cons pe_int pa_nil))
          (blkOk_by (own := [("setting", 2)]) (N := ["self", "sayings", "setting", "deed", "saying"]) (sc := defScope st_Bonds_init) (by decide +kernel)) (fun _ _ _ _ _ => pg_name (i := 2) nd rfl (Or.inl rfl))
          (fun _ _ _ _ _ => pts_nil) (fun _ _ _ _ _ => C8.pe_mt i2 hr (Nat.le_refl _) (pv 0) (pa_cons (pv 1) (pa_cons (pv 3) (pa_cons (pv 2) pa_nil))))) rfl)))
    (pss_one (ps_while PassesOwn.never (pt_val (C8.pe_mt0 i3 hr (by omega) (pv 0))) (pss_one ps_continue)))))), ?_⟩
  refine ⟨_, rfl, x, _, dx, _, rfl, hx, t.c_Bonds, t.n_Bonds_kept, (by first | decide | exact lt_put1 | exact lt_put2 | exact lt_put3 | exact lt_fl rfl), ?_⟩
  refine ⟨16, rfl, by decide, by decide, ?_⟩
  refine for_range (lo := 0) (n := 16) (fun i σ H' => Same G H' ∧ H' x = some (.ins (He.ga K "Bonds") dx (fk (.int (maskAll i : Nat)))) ∧ ∃ z2, σ = [some (.ref x), some (.ref a), z2, none, none])
    ⟨same_mut sG Gx _, upd_same, none, rfl⟩ ?_ ?_
  · rintro i σ H' hi ⟨s1, hx1, z2, rfl⟩
    refine ⟨_, rfl, a, rfl, ⟨_, SqL.of (s1 _ _ ha)⟩, fun D hD => ?_⟩
    have aD : a ≠ D := ne_of_none (s1 _ _ ha) hD
    refine lc_list (xs := xs) (fun k H2 => Same H' H2 ∧ H2 D = some (.lst ((List.replicate k false).map V.bl))) ⟨same_new hD _, upd_same⟩ (fun k H2 _ p => SqL.of (p.1 _ _ (s1 _ _ ha))) ?_ ?_
    · rintro k u H2 hk ⟨s2, e2⟩
      obtain ⟨j, c, ey, hT⟩ := hxs k u hk
      obtain ⟨tv, b, db, rfl, hb⟩ := (hT.mono s1).mono s2
      have hk1 := (List.getElem?_eq_some_iff.mp hk).1
      refine ⟨rfl, tYes_to ?_⟩
      refine iteT ?_
      refine ⟨_, rfl, b, db, _, rfl, hb, lk_Through_bars, _, rfl, _, _, rfl, _, e2, ?_, same_mut s2 hD _, ?_⟩
      · rw [List.length_map, List.length_replicate]
        exact Nat.lt_of_lt_of_le (show k < 16 by omega) (by decide)
      · rw [upd_same, List.replicate_succ', List.map_append]
        rfl
    · rintro H2 ⟨s2, e2⟩
      refine ⟨D, List.replicate xs.length false, rfl, SqL.of e2, _, rfl, ?_⟩
      rw [any_false]
      refine iteT ?_
      have hx2 := s2 _ _ hx1
      refine ⟨_, rfl, x, _, dx, _, _, rfl, hx2, t.c_Bonds, t.n_Bonds_kept, fk_lk, _, rfl, _, _, rfl, rfl, ⟨by show (0 : Int) ≤ 0 + (i : Int); omega, by show (0 : Int) + (i : Int) ≤ 1000000; omega, by decide⟩, _, _, rfl, rfl, ?_⟩
      refine ⟨_, rfl, x, _, dx, _, rfl, hx2, t.c_Bonds, t.n_Bonds_kept, by show 1 < 1000; decide, ?_⟩
      refine ⟨same_mut (s1.trans s2) Gx _, ?_, _, rfl⟩
      rw [upd_same, fk_put, pow1]
      show some (HO.ins _ dx (fk (.int (Builtin.bitOr (maskAll i : Nat) (2 ^ i : Nat))))) = _
      rw [or_nat, maskAll_succ]
  · rintro σ H' ⟨s1, hx1, z2, rfl⟩
    rw [maskAll_16] at hx1
    refine fun ld hld => ?_
    have nx : x ≠ ld := ne_of_none hx1 hld
    have hx2 : (upd H' ld (.dK [])) x = some (.ins (He.ga K "Bonds") dx (fk (.int (65535 : Nat)))) := by
      rw [upd_ne nx]
      exact hx1
    have Gld : G ld = none := none_back s1 hld
    refine ⟨_, rfl, x, _, dx, _, rfl, hx2, t.c_Bonds, t.n_Bonds_let, by show 1 < 1000; decide, ?_⟩
    rw [fk_let]
    refine ⟨_, rfl, ?_⟩
    refine for_it walk_str (fun k σ H2 => Same G H2 ∧ H2 x = some (.ins (He.ga K "Bonds") dx (fl_Bonds (.int 65535) (.ref ld))) ∧ ∃ kvs, H2 ld = some (.dK kvs) ∧ kvs.length ≤ k ∧ (∀ i, i < k → ∃ la, valV kvs (.inr (S [80 + i])) = some (.ref la) ∧ Off [x, ld] H2 la = some (.lst (lrowTo y (80 + i) 16))) ∧
        ∃ z2 z3, σ = [some (.ref x), some (.ref a), z2, z3, none])
      ⟨same_mut (same_mut s1 Gld _) Gx _, upd_same, [], by rw [upd_ne nx.symm, upd_same], Nat.le_refl _, fun i hi => absurd hi (Nat.not_lt_zero _), _, _, rfl⟩ (fun _ _ _ _ _ => trivial) ?_ ?_
    · rintro k u σ H2 H3 hk ⟨s2, hx2, kvs, hd2, hlen, hrows, z2, z3, rfl⟩ ⟨rfl, c, hc, rfl⟩
      rw [deeds_size] at hk
      obtain rfl := deed_at ⟨k, hk⟩ c hc
      refine ⟨16, rfl, by decide, by decide, fun D hDn => ?_⟩
      have nDx : D ≠ x := (ne_of_none hx2 hDn).symm
      have nDl : D ≠ ld := (ne_of_none hd2 hDn).symm
      refine lc_range (lo := 0) (n := 16) (fun j H4 => Same H3 H4 ∧ H4 D = some (.lst (lrowTo y (80 + k) j))) ⟨same_new hDn _, upd_same⟩ ?_ ?_
      · rintro j H4 hj ⟨s4, e4⟩
        refine ⟨rfl, tYes_to ?_⟩
        refine iteT ?_
        refine ⟨_, rfl, x, dx, _, rfl, s4 _ _ hx2, lk_Bonds_let_by, _, rfl, _, rfl, _, rfl, .ref x, .ref a, 80 + k, j, y, ?_, hj, hy.mono (s2.trans s4), _, e4, ?_, same_mut s4 hDn _, ?_⟩
        · have e0 : (0 : Int) + (j : Int) = (j : Int) := by omega
          exact congrArg (fun z => [V.ref x, V.ref a, V.str (S [80 + k]), V.int z]) e0
        · rw [lrowTo_len]
          exact Nat.lt_of_lt_of_le hj (by decide)
        · rw [upd_same, lrowTo_succ]
      · rintro H4 ⟨s4, e4⟩
        have hx4 := s4 _ _ hx2
        have hd4 := s4 _ _ hd2
        refine ⟨_, rfl, x, _, dx, _, _, rfl, hx4, t.c_Bonds, t.n_Bonds_let, lk_Bonds_let, _, rfl, ld, _, rfl, DPut.k (k := .inr (S [80 + k])) hd4 (Nat.lt_of_le_of_lt hlen (Nat.lt_trans hk (by decide))), ?_⟩
        refine ⟨same_mut (s2.trans s4) Gld _, by rw [upd_ne nx]; exact hx4, _, upd_same, Nat.le_trans (length_putK _ _ _) (by omega), fun i hi => ?_, _, _, rfl⟩
        rw [valV_put, off_upd (by simp)]
        by_cases e : i = k
        · subst e
          refine ⟨D, if_pos rfl, off_at e4 ?_⟩
          simp only [List.mem_cons, List.not_mem_nil, or_false, not_or]
          exact ⟨nDx, nDl⟩
        · obtain ⟨la, h1, h2⟩ := hrows i (by omega)
          exact ⟨la, by rw [if_neg (key_ne e)]; exact h1, off_same s4 _ _ h2⟩
    · rintro σ H2 ⟨s2, hx2, kvs, hd2, hlen, hrows, z2, z3, rfl⟩
      rw [deeds_size] at hrows
      have hB : BondsAt K H2 (.ref x) y := ⟨ld, kvs, ⟨x, dx, rfl, hx2⟩, hd2, fun i hi => let ⟨la, h1, h2⟩ := hrows i hi; ⟨la, h1, off_le _ _ h2⟩⟩
      refine ⟨fun _ σ H3 => H3 = H2 ∧ σ = [some (.ref x), some (.ref a), z2, z3, none], ⟨0, rfl, rfl⟩, ?_⟩
      rintro m σ H3 ⟨rfl, rfl⟩
      exact ⟨_, rfl, x, dx, _, rfl, hx2, lk_Bonds_narrowed, _, y, rfl, hB, _, rfl, iteF (q _ s2 hB)⟩
end
end K98
set_option Elab.async false
set_option linter.all false
set_option maxRecDepth 100000
set_option maxHeartbeats 4000000
/-! Sides -/
namespace K98
open PySem PySem.Spec PyProof.Rows L2 SX
/-! ### what is judged -/
structure Cf where
  n1 : Nat
  n2 : Nat
  i : Nat
  h : Nat → Bool
  y : Say
/-- the door of the room r of a loop of n deeds -/
def dr (n i : Nat) (h : Nat → Bool) (r s : Nat) : Str × Nat := if (r = 0 ∨ r = n) ∧ h s = false then (("done" : Str), 0) else (S [80 + i], if r = n then 1 else r + 1)
def Cf.d1 (C : Cf) (r s : Nat) : Str × Nat := dr C.n1 C.i C.h r s
def Cf.d2 (C : Cf) (r s : Nat) : Str × Nat := dr C.n2 C.i C.h r s
def Cf.come (C : Cf) (r1 r2 s : Nat) : Option (Nat × Nat × Nat) := if (C.d1 r1 s).2 = 0 ∨ (C.d1 r1 s).1 ≠ (C.d2 r2 s).1 then none else some ((C.d1 r1 s).2, (C.d2 r2 s).2, lets C.y (80 + C.i) s)
theorem dr_pos {n i : Nat} {h : Nat → Bool} {r s : Nat} (e : (dr n i h r s).2 ≠ 0) : (dr n i h r s).1 = S [80 + i] := by
  unfold dr at e ⊢
  split
  · rename_i q
    rw [if_pos q] at e
    exact absurd rfl e
  · rfl
section
variable {P : Program} {w : World} {K : PySem.W.Frag} {mg : Str → Option Value} {base : Heap}
theorem DoorAt.off {H : Hp} {x C dx : Addr} {fs : List (Str × V)} (hx : H x = some (.ins C dx fs)) {v : V} {n : Nat} {f : Nat → Nat → Str × Nat} (h : DoorAt H v n f) : DoorAt (Off [x] H) v n f := by
  have key : ∀ {a : Addr} {o : HO}, H a = some o → (∀ C dx fs, o ≠ .ins C dx fs) → Off [x] H a = some o := fun {a o} q n => off_at q fun m => by
    rw [List.mem_singleton.mp m, hx] at q
    exact n _ _ _ (Option.some.inj q).symm
  obtain ⟨a, rs, e, ha, hl, hr⟩ := h
  refine ⟨a, rs, e, key ha (fun _ _ _ z => nomatch z), hl, fun r hr' => ?_⟩
  obtain ⟨b, h1, cs, hb, hc, hz⟩ := hr r hr'
  refine ⟨b, h1, cs, key hb (fun _ _ _ z => nomatch z), hc, fun s hs => ?_⟩
  obtain ⟨c, h2, h3⟩ := hz s hs
  exact ⟨c, h2, key h3 (fun _ _ _ z => nomatch z)⟩
theorem BondsAt.off {H : Hp} {x b C dx : Addr} {fs : List (Str × V)} (hx : H x = some (.ins C dx fs)) {y : Say} (n : b ≠ x) (h : BondsAt K H (.ref b) y) : BondsAt K (Off [x] H) (.ref b) y := by
  have key : ∀ {a : Addr} {o : HO}, H a = some o → (∀ C dx fs, o ≠ .ins C dx fs) → Off [x] H a = some o := fun {a o} q n => off_at q fun m => by
    rw [List.mem_singleton.mp m, hx] at q
    exact n _ _ _ (Option.some.inj q).symm
  obtain ⟨ld, kvs, ⟨b', db, e, hb⟩, hd, hk⟩ := h
  cases e
  refine ⟨ld, kvs, ⟨b, db, rfl, off_at hb fun m => n (List.mem_singleton.mp m)⟩, key hd (fun _ _ _ z => nomatch z), fun i hi => ?_⟩
  obtain ⟨la, h1, h2⟩ := hk i hi
  exact ⟨la, h1, key h2 (fun _ _ _ z => nomatch z)⟩
/-- v is a loop of n deeds i, going round while h -/
def RoundAt (K : PySem.W.Frag) (H : Hp) (v : V) (n i : Nat) (h : Nat → Bool) : Prop := ∃ p, StpAt K H p v ∧ p.tests = true ∧ p.depth ≤ 13 ∧ p.letters.length = n ∧ n ≤ 12 ∧ Doors p (dr n i h)
theorem RoundAt.mono {H H' : Hp} {v : V} {n i : Nat} {h : Nat → Bool} (s : Same H H') (r : RoundAt K H v n i h) : RoundAt K H' v n i h := let ⟨p, a, b⟩ := r; ⟨p, a.mono s, b⟩
def SidesAt (K : PySem.W.Frag) (H : Hp) (v : V) (C : Cf) : Prop := ∃ u1 u2 b, Ins K H v "Sides" (fl_Sides u1 u2 b (.int 65535)) ∧ DoorAt H u1 (C.n1 + 1) C.d1 ∧ DoorAt H u2 (C.n2 + 1) C.d2 ∧ BondsAt K H b C.y
theorem SidesAt.mono {H H' : Hp} {v : V} {C : Cf} (s : Same H H') (h : SidesAt K H v C) : SidesAt K H' v C := let ⟨a, b, c, d, e, f, g⟩ := h; ⟨a, b, c, d.mono s, e.mono s, f.mono s, g.mono s⟩
def spSides (K : PySem.W.Frag) : Sp := fun vs H Q _ => ∃ (x dx : Addr) (v1 v2 v3 : V) (G : Hp) (C : Cf), vs = [.ref x, v1, v2, v3] ∧ H x = some (.ins (He.ga K "Sides") dx []) ∧ Same G H ∧ G x = none ∧
  RoundAt K G v1 C.n1 C.i C.h ∧ RoundAt K G v2 C.n2 C.i C.h ∧ SayAt K G v3 C.y ∧ ∀ H', Same G H' → SidesAt K H' (.ref x) C → Q .non H'
theorem sc_Sides_init : FnScope ["self", "one", "other", "sayings"] ["self", "one", "other", "sayings"] (defScope st_Sides_init) := ⟨rfl, rfl, rfl, by decide +kernel, rfl, by decide +kernel, by decide +kernel⟩
theorem k_Sides (t : T K mg) : C8.Mak P w K mg base 21 "Sides" (He.ga K "Sides") (spSides K) [] := by
  refine mak_of (k := 20) t.mk_Sides t.gc_Sides t.d_Sides_init sc_Sides_init (fun vs H Q E h => ?_) (fun fd cdv A outer s H vs Q E hr h => ?_)
  · obtain ⟨x, dx, v1, v2, v3, G, C, rfl, _⟩ := h
    rfl
  obtain ⟨x, dx, v1, v2, v3, G, C, rfl, hx, sG, Gx, ⟨p1, a1, b1, c1, e1, f1, g1⟩, ⟨p2, a2, b2, c2, e2, f2, g2⟩, hy, q⟩ := h
  refine ⟨_, pss_cons (ps_fld (pv 0) (pe_fld (C8.pe_mk (k_Rooms t) hr (by omega) rfl (pa_cons (pv 1) pa_nil)) rfl) rfl)
    (pss_cons (ps_fld (pv 0) (pe_fld (C8.pe_mk (k_Rooms t) hr (by omega) rfl (pa_cons (pv 2) pa_nil)) rfl) rfl)
    (pss_cons (ps_fld (pv 0) (C8.pe_mk (k_Bonds t) hr (by omega) rfl (pa_cons (pv 3) pa_nil)) rfl)
    (pss_one (ps_fld (pv 0) (C8.pe_mt0 (m_good t) hr (by omega) (pe_fld (pv 0) rfl)) rfl)))), ?_⟩
  refine ⟨_, rfl, fun x1 d1 hx1 hd1 ne1 => ⟨x1, d1, _, H, p1, dr C.n1 C.i C.h, rfl, upd_same, same_new2 hx1 hd1 _ _, hx1, a1.mono sG, b1, c1, by omega, g1, fun H1 u1 s1 hr1 D1 => ⟨rfl, ?_⟩⟩⟩
  rw [e1] at D1
  refine ⟨x1, _, d1, _, _, rfl, hr1, t.c_Rooms, t.n_Rooms_doors, lk_Rooms_doors, ?_⟩
  have h1 := s1 _ _ hx
  refine ⟨_, rfl, x, _, dx, _, rfl, h1, t.c_Sides, t.n_Sides_ones, (by first | decide | exact lt_put1 | exact lt_put2 | exact lt_put3 | exact lt_fl rfl), ?_⟩
  have D1' := D1.off h1
  have sG1 := sG.trans s1
  generalize hG1 : upd H1 x (.ins (He.ga K "Sides") dx (putF "ones" u1 [])) = H2
  have hx2 : H2 x = some (.ins (He.ga K "Sides") dx (putF "ones" u1 [])) := by rw [← hG1, upd_same]
  have o2 : Off [x] H2 = Off [x] H1 := by rw [← hG1, off_upd (by simp)]
  have sG2 : Same G H2 := by rw [← hG1]; exact same_mut sG1 Gx _
  rw [← o2] at D1'
  clear hG1 o2 D1 hr1 h1
  refine ⟨_, rfl, fun x1 d1 hx1 hd1 ne1 => ⟨x1, d1, _, H2, p2, dr C.n2 C.i C.h, rfl, upd_same, same_new2 hx1 hd1 _ _, hx1, a2.mono sG2, b2, c2, by omega, g2, fun H3 u2 s3 hr1 D2 => ⟨rfl, ?_⟩⟩⟩
  rw [e2] at D2
  refine ⟨x1, _, d1, _, _, rfl, hr1, t.c_Rooms, t.n_Rooms_doors, lk_Rooms_doors, ?_⟩
  have h1 := s3 _ _ hx2
  refine ⟨_, rfl, x, _, dx, _, rfl, h1, t.c_Sides, t.n_Sides_others, (by first | decide | exact lt_put1 | exact lt_put2 | exact lt_put3 | exact lt_fl rfl), ?_⟩
  have D2' := D2.off h1
  have D1'' := D1'.mono (off_same s3)
  have sG3 := sG2.trans s3
  generalize hG1 : upd H3 x (.ins (He.ga K "Sides") dx (putF "others" u2 (putF "ones" u1 []))) = H4
  have hx4 : H4 x = some (.ins (He.ga K "Sides") dx (putF "others" u2 (putF "ones" u1 []))) := by rw [← hG1, upd_same]
  have o4 : Off [x] H4 = Off [x] H3 := by rw [← hG1, off_upd (by simp)]
  have sG4 : Same G H4 := by rw [← hG1]; exact same_mut sG3 Gx _
  rw [← o4] at D1'' D2'
  clear hG1 o4 D2 hr1 h1
  refine ⟨_, rfl, fun x1 d1 hx1 hd1 ne1 => ⟨x1, d1, _, H4, C.y, rfl, upd_same, same_new2 hx1 hd1 _ _, hx1, hy.mono sG4, fun H5 s5 hB => ⟨rfl, ?_⟩⟩⟩
  have h5 := s5 _ _ hx4
  have n1 : x1 ≠ x := (ne_of_none hx4 hx1).symm
  refine ⟨_, rfl, x, _, dx, _, rfl, h5, t.c_Sides, t.n_Sides_bonds, (by first | decide | exact lt_put1 | exact lt_put2 | exact lt_put3 | exact lt_fl rfl), ?_⟩
  have B' := hB.off h5 n1
  have E1 := D1''.mono (off_same s5)
  have E2 := D2'.mono (off_same s5)
  have sG5 := sG4.trans s5
  generalize hG1 : upd H5 x (.ins (He.ga K "Sides") dx (putF "bonds" (.ref x1) (putF "others" u2 (putF "ones" u1 [])))) = H6
  have hx6 : H6 x = some (.ins (He.ga K "Sides") dx (putF "bonds" (.ref x1) (putF "others" u2 (putF "ones" u1 [])))) := by rw [← hG1, upd_same]
  have o6 : Off [x] H6 = Off [x] H5 := by rw [← hG1, off_upd (by simp)]
  have sG6 : Same G H6 := by rw [← hG1]; exact same_mut sG5 Gx _
  rw [← o6] at B' E1 E2
  clear hG1 o6
  have lk : (putF "bonds" (.ref x1) (putF "others" u2 (putF "ones" u1 []))).lookup ("bonds" : Str) = some (.ref x1) := by rw [lookup_putF, if_pos rfl]
  obtain ⟨ld, kvs, ⟨b', db, eb, hb⟩, hd, hk⟩ := B'.mono off_le
  cases eb
  refine ⟨_, rfl, x, _, dx, _, _, rfl, hx6, t.c_Sides, t.n_Sides_bonds, lk, x1, db, _, rfl, hb, lk_Bonds_good, _, C.y, rfl, ⟨ld, kvs, ⟨x1, db, rfl, hb⟩, hd, hk⟩, ?_⟩
  refine ⟨_, rfl, x, _, dx, _, rfl, hx6, t.c_Sides, t.n_Sides_begin, (by first | decide | exact lt_put1 | exact lt_put2 | exact lt_put3 | exact lt_fl rfl), ?_⟩
  rw [put_Sides]
  refine q _ (same_mut sG6 Gx _) ⟨u1, u2, .ref x1, ⟨x, dx, rfl, upd_same⟩, ?_, ?_, ?_⟩
  · refine E1.mono ?_
    have z := off_le (bad := [x]) (H := upd H6 x (.ins (He.ga K "Sides") dx (fl_Sides u1 u2 (.ref x1) (.int 65535))))
    rwa [off_upd (by simp)] at z
  · refine E2.mono ?_
    have z := off_le (bad := [x]) (H := upd H6 x (.ins (He.ga K "Sides") dx (fl_Sides u1 u2 (.ref x1) (.int 65535))))
    rwa [off_upd (by simp)] at z
  · refine B'.mono ?_
    have z := off_le (bad := [x]) (H := upd H6 x (.ins (He.ga K "Sides") dx (fl_Sides u1 u2 (.ref x1) (.int 65535))))
    rwa [off_upd (by simp)] at z
end
end K98
set_option Elab.async false
set_option linter.all false
set_option maxRecDepth 100000
set_option maxHeartbeats 4000000
/-! Sides: both_at, come_behind, is_fine -/
namespace K98
open PySem PySem.Spec PyProof.Rows L2 SX
section
variable {P : Program} {w : World} {K : PySem.W.Frag} {mg : Str → Option Value} {base : Heap}
def TripAt (H : Hp) (v : V) (a b s : Nat) : Prop := ∃ p, v = .ref p ∧ H p = some (.tup [.int a, .int b, .int s])
theorem TripAt.mono {H H' : Hp} {v : V} {a b s : Nat} (e : Same H H') (h : TripAt H v a b s) : TripAt H' v a b s := let ⟨p, x, y⟩ := h; ⟨p, x, e _ _ y⟩
def BothAt (H : Hp) (v : V) (C : Cf) (a b s : Nat) : Prop := ∃ p c1 c2, v = .ref p ∧ H p = some (.tup [.ref c1, .ref c2]) ∧ H c1 = some (.tup [.str (C.d1 a s).1, .int (C.d1 a s).2]) ∧ H c2 = some (.tup [.str (C.d2 b s).1, .int (C.d2 b s).2])
theorem DoorAt.get {H : Hp} {v : V} {n : Nat} {f : Nat → Nat → Str × Nat} (h : DoorAt H v n f) {r s : Nat} (hr : r < n) (hs : s < 16) : ∃ a rs b cs c, v = .ref a ∧ H a = some (.lst rs) ∧ rs[r]? = some (.ref b) ∧ H b = some (.lst cs) ∧ cs[s]? = some (.ref c) ∧ H c = some (.tup [.str (f r s).1, .int (f r s).2]) := by
  obtain ⟨a, rs, e, ha, _, hR⟩ := h
  obtain ⟨b, hb, cs, h1, _, h2⟩ := hR r hr
  obtain ⟨c, h3, h4⟩ := h2 s hs
  exact ⟨a, rs, b, cs, c, e, ha, hb, h1, h3, h4⟩
def spBoth (K : PySem.W.Frag) : Sp := fun vs H Q _ => ∃ (v u : V) (C : Cf) (a b s : Nat), vs = [v, u] ∧ SidesAt K H v C ∧ TripAt H u a b s ∧ a ≤ C.n1 ∧ b ≤ C.n2 ∧ s < 16 ∧ ∀ r H', Same H H' → BothAt H' r C a b s → Q r H'
theorem sc_Sides_both_at : FnScope ["self", "triple"] ["self", "triple"] (defScope st_Sides_both_at) := ⟨rfl, rfl, rfl, by decide +kernel, rfl, by decide +kernel, by decide +kernel⟩
theorem m_both (t : T K mg) : C8.Met P w K mg base 1 (He.ga K "Sides") "both_at" (spBoth K) [] := by
  refine met_of t.c_Sides t.m_Sides_both_at t.d_Sides_both_at sc_Sides_both_at (fun vs H Q E h => ?_) (fun fd cdv A outer s H vs Q E hr h => ?_)
  · obtain ⟨v, u, C, a, b, s', rfl, _⟩ := h
    rfl
  obtain ⟨v, u, C, a, b, s', rfl, ⟨u1, u2, bo, ⟨x, dx, rfl, hx⟩, D1, D2, hB⟩, ⟨p, rfl, hp⟩, ha, hb, hs, q⟩ := h
  refine ⟨_, pss_one (ps_ret (pe_tup (pa_cons (pe_ix ix_list (pe_ix ix_list (pe_fld (pv 0) rfl) (pe_ix ix_tup (pv 1) pe_int (fun _ _ => rfl)) (fun _ _ => rfl)) (pe_ix ix_tup (pv 1) pe_int (fun _ _ => rfl)) (fun _ _ => rfl))
    (pa_cons (pe_ix ix_list (pe_ix ix_list (pe_fld (pv 0) rfl) (pe_ix ix_tup (pv 1) pe_int (fun _ _ => rfl)) (fun _ _ => rfl)) (pe_ix ix_tup (pv 1) pe_int (fun _ _ => rfl)) (fun _ _ => rfl)) pa_nil)))), ?_⟩
  obtain ⟨l1, rs1, b1, cs1, c1, rfl, h1, i1, j1, k1, m1⟩ := D1.get (r := a) (s := s') (by omega) hs
  obtain ⟨l2, rs2, b2, cs2, c2, rfl, h2, i2, j2, k2, m2⟩ := D2.get (r := b) (s := s') (by omega) hs
  refine ⟨_, rfl, x, _, dx, _, _, rfl, hx, t.c_Sides, t.n_Sides_ones, lk_Sides_ones, _, rfl, p, _, _, _, rfl, rfl, SqT.of hp, rfl, l1, _, _, _, rfl, rfl, SqL.of h1, atI_nat i1, _, rfl, p, _, _, _, rfl, rfl, SqT.of hp, rfl, b1, _, _, _, rfl, rfl, SqL.of j1, atI_nat k1, ?_⟩
  refine ⟨_, rfl, x, _, dx, _, _, rfl, hx, t.c_Sides, t.n_Sides_others, lk_Sides_others, _, rfl, p, _, _, _, rfl, rfl, SqT.of hp, rfl, l2, _, _, _, rfl, rfl, SqL.of h2, atI_nat i2, _, rfl, p, _, _, _, rfl, rfl, SqT.of hp, rfl, b2, _, _, _, rfl, rfl, SqL.of j2, atI_nat k2, ?_⟩
  refine ⟨by show 2 ≤ sizeLine; decide, fun z hz => ?_⟩
  have sz := same_new hz (.tup [.ref c1, .ref c2])
  exact q _ _ sz ⟨z, c1, c2, rfl, upd_same, sz _ _ m1, sz _ _ m2⟩
def CameV (H : Hp) (v : V) : Option (Nat × Nat × Nat) → Prop
  | none => v = .non
  | some (a, b, m) => ∃ p e, v = .ref p ∧ H p = some (.tup [.ref e, .int m]) ∧ H e = some (.tup [.int a, .int b])
def spCome (K : PySem.W.Frag) : Sp := fun vs H Q _ => ∃ (v u : V) (C : Cf) (a b s : Nat), vs = [v, u] ∧ C.i < 5 ∧ SidesAt K H v C ∧ TripAt H u a b s ∧ a ≤ C.n1 ∧ b ≤ C.n2 ∧ s < 16 ∧ ∀ r H', Same H H' → CameV H' r (C.come a b s) → Q r H'
theorem sc_Sides_come_behind : FnScope ["self", "triple", "one", "two"] ["self", "triple"] (defScope st_Sides_come_behind) := ⟨rfl, rfl, rfl, by decide +kernel, rfl, by decide +kernel, by decide +kernel⟩
theorem m_come (t : T K mg) : C8.Met P w K mg base 2 (He.ga K "Sides") "come_behind" (spCome K) [] := by
  refine met_of (k := 1) t.c_Sides t.m_Sides_come_behind t.d_Sides_come_behind sc_Sides_come_behind (fun vs H Q E h => ?_) (fun fd cdv A outer s H vs Q E hr h => ?_)
  · obtain ⟨v, u, C, a, b, s', rfl, _⟩ := h
    rfl
  obtain ⟨v, u, C, a, b, s', rfl, hi, hS, hu, ha, hb, hs, q⟩ := h
  have nd := sc_Sides_come_behind.nd
  refine ⟨_, pss_cons (ps_asg (C8.pe_mt (m_both t) hr (Nat.le_refl _) (pv 0) (pa_cons (pv 1) pa_nil)) (pg_tup (by rfl) (pgs_cons (pg_name (i := 2) nd rfl (.inl rfl)) (pgs_cons (pg_name (i := 3) nd rfl (.inl rfl)) pgs_nil))))
    (pss_cons (ps_if (PW.pt (pw_or (pt_cmpR op_eq (pe_ix ix_tup (pv 2) pe_int (fun _ _ => rfl)) pe_int (nomark _)) (pw_or1 (pt_cmpR op_ne (pe_ix ix_tup (pv 2) pe_int (fun _ _ => rfl)) (pe_ix ix_tup (pv 3) pe_int (fun _ _ => rfl)) (nomark _)))))
      (pss_one (ps_ret pe_non)) pss_nil)
    (pss_one (ps_ret (pe_tup (pa_cons (pe_tup (pa_cons (pe_ix ix_tup (pv 2) pe_int (fun _ _ => rfl)) (pa_cons (pe_ix ix_tup (pv 3) pe_int (fun _ _ => rfl)) pa_nil)))
      (pa_cons (C8.pe_mt (m_ways t) hr (Nat.le_refl _) (pe_fld (pv 0) rfl) (pa_cons (pe_ix ix_tup (pv 2) pe_int (fun _ _ => rfl)) (pa_cons (pe_ix ix_tup (pv 1) pe_int (fun _ _ => rfl)) pa_nil))) pa_nil)))))), ?_⟩
  have hS0 := hS
  obtain ⟨u1, u2, bo, ⟨x, dx, rfl, hx⟩, D1, D2, hB⟩ := hS0
  refine ⟨_, rfl, x, dx, _, rfl, hx, lk_Sides_both_at, _, rfl, _, _, C, a, b, s', rfl, hS, hu, ha, hb, hs, fun r H1 s1 hr1 => ?_⟩
  obtain ⟨p, c1, c2, rfl, hp, h1, h2⟩ := hr1
  refine ⟨p, _, rfl, SqT.of hp, rfl, _, _, rfl, _, _, rfl, rfl, ?_⟩
  refine ⟨_, rfl, c1, _, _, _, rfl, rfl, SqT.of h1, rfl, rfl, _, rfl, ?_⟩
  have ec : C.come a b s' = if (C.d1 a s').2 = 0 ∨ (C.d1 a s').1 ≠ (C.d2 b s').1 then none else some ((C.d1 a s').2, (C.d2 b s').2, lets C.y (80 + C.i) s') := rfl
  by_cases e0 : (C.d1 a s').2 = 0
  · rw [if_pos (Or.inl e0)] at ec
    rw [ec] at q
    refine iteY (by rw [e0]; rfl) ?_
    exact iteT (q _ _ s1 rfl)
  · refine iteNo (fun z => e0 (Int.ofNat.inj (V.int.inj z))) ?_
    refine ⟨_, rfl, c1, _, _, _, rfl, rfl, SqT.of h1, rfl, _, rfl, c2, _, _, _, rfl, rfl, SqT.of h2, rfl, rfl, _, rfl, ?_⟩
    by_cases e1 : (C.d1 a s').1 = (C.d2 b s').1
    · rw [if_neg (by rw [not_or]; exact ⟨e0, fun z => z e1⟩)] at ec
      rw [ec] at q
      refine iteNS (by rw [e1]) ?_
      have ed := dr_pos e0
      obtain ⟨pu, rfl, hpu⟩ := hu
      refine ⟨_, rfl, c1, _, _, _, rfl, rfl, SqT.of h1, rfl, _, rfl, c2, _, _, _, rfl, rfl, SqT.of h2, rfl, by show 2 ≤ sizeLine; decide, fun z hz => ?_⟩
      have s2 := same_new hz (.tup [.int (C.d1 a s').2, .int (C.d2 b s').2])
      obtain ⟨ld, kvs, ⟨bb, db, rfl, hb1⟩, hd, hk⟩ := (hB.mono s1).mono s2
      refine ⟨_, rfl, x, _, dx, _, _, rfl, s2 _ _ (s1 _ _ hx), t.c_Sides, t.n_Sides_bonds, lk_Sides_bonds, bb, db, _, rfl, hb1, lk_Bonds_ways, _, rfl, c1, _, _, _, rfl, rfl, SqT.of (s2 _ _ h1), rfl, _, rfl, pu, _, _, _, rfl, rfl, SqT.of (s2 _ _ (s1 _ _ hpu)), rfl, ?_⟩
      refine ⟨.ref bb, C.i, s', C.y, ?_, hi, hs, ⟨ld, kvs, ⟨bb, db, rfl, hb1⟩, hd, hk⟩, by show 2 ≤ sizeLine; decide, fun z2 hz2 => ?_⟩
      · exact congrArg (fun z => [V.ref bb, V.str z, V.int s']) ed
      · have s3 := same_new hz2 (.tup [.ref z, .int (lets C.y (80 + C.i) s' : Nat)])
        exact q _ _ ((s1.trans s2).trans s3) ⟨z2, z, rfl, upd_same, s3 _ _ upd_same⟩
    · rw [if_pos (Or.inr e1)] at ec
      rw [ec] at q
      refine iteNT (fun z => e1 (V.str.inj z)) ?_
      exact q _ _ s1 rfl
/-! ### dicts of pairs -/
abbrev kk (a b : Nat) : List L2.Key := [.inl (a : Int), .inl (b : Int)]
def spFine (K : PySem.W.Frag) : Sp := fun vs H Q _ => ∃ (v u : V) (dm : Addr) (C : Cf) (a b s : Nat) (kvs : List (List L2.Key × V)), vs = [v, u, .ref dm] ∧ C.i < 5 ∧ SidesAt K H v C ∧ TripAt H u a b s ∧ a ≤ C.n1 ∧ b ≤ C.n2 ∧ s < 16 ∧ Rd H dm (.dT kvs) ∧
  (C.d1 a s).1 = (C.d2 b s).1 ∧ (∀ a' b' m, C.come a b s = some (a', b', m) → ∃ z : Nat, valV kvs (kk a' b') = some (.int z) ∧ z ∈ Msk ∧ m &&& (65535 - z) = 0) ∧ ∀ H', Same H H' → Q (.bl true) H'
theorem Rd.mono {H H' : Hp} {a : Addr} {u : HO} (s : Same H H') (h : Rd H a u) : Rd H' a u := by
  rcases h with h | ⟨o, h⟩
  · exact .inl (s _ _ h)
  · exact .inr ⟨o, s _ _ h⟩
theorem sc_Sides_is_fine : FnScope ["self", "triple", "masks", "one", "two", "behind"] ["self", "triple", "masks"] (defScope st_Sides_is_fine) := ⟨rfl, rfl, rfl, by decide +kernel, rfl, by decide +kernel, by decide +kernel⟩
theorem m_fine (t : T K mg) : C8.Met P w K mg base 3 (He.ga K "Sides") "is_fine" (spFine K) [] := by
  refine met_of (k := 2) t.c_Sides t.m_Sides_is_fine t.d_Sides_is_fine sc_Sides_is_fine (fun vs H Q E h => ?_) (fun fd cdv A outer s H vs Q E hr h => ?_)
  · obtain ⟨v, u, dm, C, a, b, s', kvs, rfl, _⟩ := h
    rfl
  obtain ⟨v, u, dm, C, a, b, s', kvs, rfl, hi, hS, hu, ha, hb, hs, hD, e1, hC, q⟩ := h
  obtain ⟨tE, hE⟩ := t.i_EVERY
  have nd := sc_Sides_is_fine.nd
  have huu := hu_of hr
  refine ⟨_, pss_cons (ps_asg (C8.pe_mt (m_both t) hr (by omega) (pv 0) (pa_cons (pv 1) pa_nil)) (pg_tup (by rfl) (pgs_cons (pg_name (i := 3) nd rfl (.inl rfl)) (pgs_cons (pg_name (i := 4) nd rfl (.inl rfl)) pgs_nil))))
    (pss_cons (ps_if (pt_cmpR op_ne (pe_ix ix_tup (pv 3) pe_int (fun _ _ => rfl)) (pe_ix ix_tup (pv 4) pe_int (fun _ _ => rfl)) (nomark _)) (pss_one (ps_ret pe_bl)) pss_nil)
    (pss_cons (ps_set (i := 5) nd rfl (.inl rfl) (C8.pe_mt (m_come t) hr (Nat.le_refl _) (pv 0) (pa_cons (pv 1) pa_nil)))
    (pss_cons (ps_if (pt_cmp (pc_isN (pv 5))) (pss_one (ps_ret pe_bl)) pss_nil)
    (pss_one (ps_ret (pe_cmpR op_eq (pe_op op_and (pe_ix ix_tup (pv 5) pe_int (fun _ _ => rfl)) (pe_op op_xor (pe_glob rfl hE (rel_int _ _)) (pe_dget2 huu (pv 2) (pe_ix ix_tup (pv 5) pe_int (fun _ _ => rfl)) pe_int ⟨rfl, rfl, rfl, rfl⟩))) pe_int (nomark _))))))), ?_⟩
  have hS0 := hS
  obtain ⟨u1, u2, bo, ⟨x, dx, rfl, hx⟩, D1, D2, hB⟩ := hS0
  refine ⟨_, rfl, x, dx, _, rfl, hx, lk_Sides_both_at, _, rfl, _, _, C, a, b, s', rfl, hS, hu, ha, hb, hs, fun r H1 s1 hr1 => ?_⟩
  obtain ⟨p, c1, c2, rfl, hp, h1, h2⟩ := hr1
  refine ⟨p, _, rfl, SqT.of hp, rfl, _, _, rfl, _, _, rfl, rfl, ?_⟩
  refine ⟨_, rfl, c1, _, _, _, rfl, rfl, SqT.of h1, rfl, _, rfl, c2, _, _, _, rfl, rfl, SqT.of h2, rfl, rfl, _, rfl, ?_⟩
  refine iteNS (by rw [e1]) ?_
  refine ⟨_, rfl, x, dx, _, rfl, s1 _ _ hx, lk_Sides_come_behind, _, rfl, _, _, C, a, b, s', rfl, hi, hS.mono s1, hu.mono s1, ha, hb, hs, fun r H2 s2 hr2 => ?_⟩
  refine ⟨_, rfl, ?_⟩
  cases ec : C.come a b s' with
  | none =>
    rw [ec] at hr2
    obtain rfl : r = .non := hr2
    exact ⟨_, rfl, iteT (q _ (s1.trans s2))⟩
  | some z =>
    obtain ⟨a', b', m⟩ := z
    rw [ec] at hr2
    obtain ⟨p, e, rfl, hp, he⟩ := hr2
    obtain ⟨z, hz, hm, hmz⟩ := hC a' b' m ec
    refine ⟨_, rfl, iteF ?_⟩
    have rd := Rd.mono (s1.trans s2) hD
    refine ⟨_, rfl, p, _, _, _, rfl, rfl, SqT.of hp, rfl, _, rfl, dm, rfl, .inr ⟨_, rd⟩, _, rfl, p, _, _, _, rfl, rfl, SqT.of hp, rfl, some (.int z), .inr ⟨kvs, kk a' b', e, rd, rfl, he, hz.symm⟩, ?_⟩
    refine ⟨65535, z, rfl, rfl, ?_⟩
    refine ⟨m, ((65535 - z : Nat) : Int), rfl, congrArg V.int (xor_msk hm), rfl, ?_⟩
    show Q (.bl (decide (V.int (Builtin.bitAnd (m : Nat) ((65535 - z : Nat) : Int)) = V.int 0))) H2
    rw [and_nat, hmz]
    exact q _ (s1.trans s2)
end
end K98
set_option Elab.async false
set_option linter.all false
set_option maxRecDepth 100000
set_option maxHeartbeats 4000000
/-! Alike -/
namespace K98
open PySem PySem.Spec PyProof.Rows L2 SX
section
variable {P : Program} {w : World} {K : PySem.W.Frag} {mg : Str → Option Value} {base : Heap}
abbrev N3 := Nat × Nat × Nat
def i3 (e : N3) : I3 := (e.1, e.2.1, e.2.2)
/-- a dict of pairs and masks -/
def encK (tb : List N3) : List (List L2.Key × V) := tb.map fun e => (kk e.1 e.2.1, V.int (e.2.2 : Nat))
theorem kk_inj {a b a' b' : Nat} (h : kk a b = kk a' b') : a = a' ∧ b = b' := by
  injection h with h1 h2
  injection h2 with h2 _
  exact ⟨Int.ofNat.inj (Sum.inl.inj h1), Int.ofNat.inj (Sum.inl.inj h2)⟩
theorem encK_none {tb : List N3} {a b : Nat} (h : (a, b) ∉ tb.map fun e => (e.1, e.2.1)) : valV (encK tb) (kk a b) = none := by
  induction tb with
  | nil => rfl
  | cons e tb ih =>
    rw [List.map_cons, List.mem_cons, not_or] at h
    refine (valV_neg (p := (kk e.1 e.2.1, V.int (e.2.2 : Nat))) (r := encK tb) fun z => h.1 ?_).trans (ih h.2)
    obtain ⟨z1, z2⟩ := kk_inj z
    rw [z1, z2]
theorem encK_some {tb : List N3} {a b m : Nat} (hn : (tb.map fun e => (e.1, e.2.1)).Nodup) (h : (a, b, m) ∈ tb) : valV (encK tb) (kk a b) = some (.int (m : Nat)) := by
  induction tb with
  | nil => cases h
  | cons e tb ih =>
    rw [List.map_cons, List.nodup_cons] at hn
    rcases List.mem_cons.mp h with rfl | h
    · exact valV_pos (p := (kk a b, V.int (m : Nat))) (r := encK tb) rfl
    · refine (valV_neg (p := (kk e.1 e.2.1, V.int (e.2.2 : Nat))) (r := encK tb) fun z => hn.1 ?_).trans (ih hn.2 h)
      obtain ⟨z1, z2⟩ := kk_inj z
      rw [z1, z2]
      exact List.mem_map.mpr ⟨_, h, rfl⟩
theorem encK_len (tb : List N3) : (encK tb).length = tb.length := List.length_map _
theorem encK_snoc (tb : List N3) (e : N3) : encK (tb ++ [e]) = encK tb ++ [(kk e.1 e.2.1, V.int (e.2.2 : Nat))] := by
  unfold encK
  rw [List.map_append]
  rfl
def AlikeAt (K : PySem.W.Frag) (H : Hp) (v : V) (bs : List (Addr × I3)) : Prop := ∃ l, Ins K H v "Alike" (fl_Alike (.ref l)) ∧ H l = some (.lst (refs bs)) ∧ Trips H bs
theorem Trips.mono {H H' : Hp} {bs : List (Addr × I3)} (s : Same H H') (h : Trips H bs) : Trips H' bs := fun b m => s _ _ (h b m)
theorem AlikeAt.mono {H H' : Hp} {v : V} {bs : List (Addr × I3)} (s : Same H H') (h : AlikeAt K H v bs) : AlikeAt K H' v bs := let ⟨l, a, b, c⟩ := h; ⟨l, a.mono s, s _ _ b, c.mono s⟩
def spAlike (K : PySem.W.Frag) : Sp := fun vs H Q _ => ∃ (x dx l : Addr) (G : Hp) (bs : List (Addr × I3)), vs = [.ref x, .ref l] ∧ H x = some (.ins (He.ga K "Alike") dx []) ∧ Same G H ∧ G x = none ∧ G l = some (.lst (refs bs)) ∧ Trips G bs ∧
  ∀ H', Same G H' → AlikeAt K H' (.ref x) bs → Q .non H'
theorem sc_Alike_init : FnScope ["self", "table"] ["self", "table"] (defScope st_Alike_init) := ⟨rfl, rfl, rfl, by decide +kernel, rfl, by decide +kernel, by decide +kernel⟩
theorem k_Alike (t : T K mg) : C8.Mak P w K mg base 1 "Alike" (He.ga K "Alike") (spAlike K) [] := by
  refine mak_of (k := 0) t.mk_Alike t.gc_Alike t.d_Alike_init sc_Alike_init (fun vs H Q E h => ?_) (fun fd cdv A outer s H vs Q E hr h => ?_)
  · obtain ⟨x, dx, l, G, bs, rfl, _⟩ := h
    rfl
  obtain ⟨x, dx, l, G, bs, rfl, hx, sG, Gx, hl, hT, q⟩ := h
  refine ⟨_, pss_one (ps_fld (pv 0) (pe_callTy call_list_of rfl t.f_list (by decide +kernel) (pa_cons (pv 1) pa_nil)) rfl), ?_⟩
  refine ⟨_, rfl, l, _, rfl, .inl (SqL.of (sG _ _ hl)), fun l2 h2 => ?_⟩
  have nx : x ≠ l2 := ne_of_none hx h2
  have hx2 : (upd H l2 (.lst (refs bs))) x = some (.ins (He.ga K "Alike") dx []) := by
    rw [upd_ne nx]
    exact hx
  refine ⟨_, rfl, x, _, dx, _, rfl, hx2, t.c_Alike, t.n_Alike_table, (by first | decide | exact lt_put1 | exact lt_put2 | exact lt_put3 | exact lt_fl rfl), ?_⟩
  have s2 : Same G (upd H l2 (.lst (refs bs))) := same_mut sG (none_back sG h2) _
  have s3 : Same G (upd (upd H l2 (.lst (refs bs))) x (.ins (He.ga K "Alike") dx (putF "table" (.ref l2) []))) := same_mut s2 Gx _
  refine q _ s3 ⟨l2, ⟨x, dx, rfl, ?_⟩, ?_, hT.mono s3⟩
  · rw [upd_same, put_Alike]
  · rw [upd_ne nx.symm, upd_same]
/-- what the table's rows must keep -/
structure Good (C : Cf) (tb : List N3) : Prop where
  le : ∀ e ∈ tb, e.1 ≤ C.n1 ∧ e.2.1 ≤ C.n2 ∧ e.2.2 ∈ Msk
  nd : (tb.map fun e => (e.1, e.2.1)).Nodup
  at0 : (0, 0, 65535) ∈ tb
  fine : ∀ e ∈ tb, ∀ s ∈ setsOf e.2.2, (C.d1 e.1 s).1 = (C.d2 e.2.1 s).1 ∧ ∀ a b m, C.come e.1 e.2.1 s = some (a, b, m) → ∃ z, (a, b, z) ∈ tb ∧ m &&& (65535 - z) = 0
  len : tb.length < 1000
theorem msk_and {m : Nat} (h : m ∈ Msk) : m &&& 65535 = m ∧ 0 ||| m = m ∧ m ≤ 65535 := by
  have z : ∀ m ∈ Msk, m &&& 65535 = m ∧ 0 ||| m = m ∧ m ≤ 65535 := by decide +kernel
  exact z m h
def spStandsA (K : PySem.W.Frag) : Sp := fun vs H Q _ => ∃ (v v1 v2 v3 : V) (C : Cf) (bs : List (Addr × I3)) (tb : List N3), vs = [v, v1, v2, v3] ∧ C.i < 5 ∧ AlikeAt K H v bs ∧ bs.map (·.2) = tb.map i3 ∧ Good C tb ∧
  RoundAt K H v1 C.n1 C.i C.h ∧ RoundAt K H v2 C.n2 C.i C.h ∧ SayAt K H v3 C.y ∧ ∀ H', Same H H' → Q (.bl true) H'
theorem row_at {H : Hp} {bs : List (Addr × I3)} {tb : List N3} (hT : Trips H bs) (e : bs.map (·.2) = tb.map i3) {k : Nat} {x : V} (h : (refs bs)[k]? = some x) : ∃ p r, tb[k]? = some r ∧ x = .ref p ∧ H p = some (.tup [.int (r.1 : Nat), .int (r.2.1 : Nat), .int (r.2.2 : Nat)]) := by
  unfold refs at h
  rw [List.getElem?_map] at h
  cases hb : bs[k]? with
  | none => rw [hb] at h; cases h
  | some b =>
    rw [hb] at h
    have h1 : (bs.map (·.2))[k]? = some b.2 := by rw [List.getElem?_map, hb]; rfl
    rw [e, List.getElem?_map] at h1
    cases ht : tb[k]? with
    | none => rw [ht] at h1; cases h1
    | some r =>
      rw [ht] at h1
      have h2 : i3 r = b.2 := Option.some.inj h1
      refine ⟨b.1, r, rfl, (Option.some.inj h).symm, ?_⟩
      have h3 := hT b (List.mem_of_getElem? hb)
      rw [← h2] at h3
      exact h3
theorem sc_Alike_stands : FnScope ["self", "one", "other", "sayings", "sides", "masks", "room", "second", "mask", "pair", "setting"] ["self", "one", "other", "sayings"] (defScope st_Alike_stands) := ⟨rfl, rfl, rfl, by decide +kernel, rfl, by decide +kernel, by decide +kernel⟩
theorem m_standsA (t : T K mg) : C8.Met P w K mg base 23 (He.ga K "Alike") "stands" (spStandsA K) [] := by
  refine met_of (k := 22) t.c_Alike t.m_Alike_stands t.d_Alike_stands sc_Alike_stands (fun vs H Q E h => ?_) (fun fd cdv A outer s H vs Q E hr h => ?_)
  · obtain ⟨v, v1, v2, v3, C, bs, tb, rfl, _⟩ := h
    rfl
  obtain ⟨v, v1, v2, v3, C, bs, tb, rfl, hi, hA, hbt, hG, hR1, hR2, hY, q⟩ := h
  obtain ⟨tE, hE⟩ := t.i_EVERY
  have nd := sc_Alike_stands.nd
  have huu := hu_of hr
  refine ⟨_, pss_cons (ps_set (i := 4) nd rfl (.inl rfl) (C8.pe_mk (k_Sides t) hr (by omega) rfl (pa_cons (pv 1) (pa_cons (pv 2) (pa_cons (pv 3) pa_nil)))))
    (pss_cons (ps_set (i := 5) nd rfl (.inl rfl) pe_dnewT)
    (pss_cons (ps_for PassesOwn.never rfl (pi_list (pe_fld (pv 0) rfl)) (pg_tup (by rfl) (pgs_cons (pg_name (i := 6) nd rfl (.inl rfl)) (pgs_cons (pg_name (i := 7) nd rfl (.inl rfl)) (pgs_cons (pg_name (i := 8) nd rfl (.inl rfl)) pgs_nil))))
      (pss_cons (ps_if (PW.pt (pw_or (pt_not (pt_chain op_le op_lt pe_int (pv 6) (pe_callB call_len_seq rfl t.f_len PySem.boot_len (pa_cons (pe_fld (pv 4) rfl) pa_nil))))
          (pw_or (pt_not (pt_chain op_le op_lt pe_int (pv 7) (pe_callB call_len_seq rfl t.f_len PySem.boot_len (pa_cons (pe_fld (pv 4) rfl) pa_nil))))
          (pw_or1 (pt_not (pt_chain op_le op_le pe_int (pv 8) (pe_glob rfl hE (rel_int _ _)))))))) pss_never pss_nil)
      (pss_one (ps_dput huu (pv 5) (pe_tup (pa_cons (pv 6) (pa_cons (pv 7) pa_nil))) (pe_op op_or (pe_dget2 huu (pv 5) (pe_tup (pa_cons (pv 6) (pa_cons (pv 7) pa_nil))) pe_int ⟨rfl, rfl, rfl, rfl⟩) (pv 8)) rfl))))
    (pss_cons (ps_if (pt_cmpR op_ne (pe_op op_and (pe_fld (pv 4) rfl) (pe_op op_xor (pe_glob rfl hE (rel_int _ _)) (pe_dget2 huu (pv 5) (pe_tup (pa_cons pe_int (pa_cons pe_int pa_nil))) pe_int ⟨rfl, rfl, rfl, rfl⟩))) pe_int (nomark _)) pss_never pss_nil)
    (pss_cons (ps_lock (ps_for PassesOwn.never rfl (pi_itemsT (pv 5)) (pg_tup (by rfl) (pgs_cons (pg_name (i := 9) nd rfl (.inl rfl)) (pgs_cons (pg_name (i := 8) nd rfl (.inl rfl)) pgs_nil)))
      (pss_one (ps_for PassesOwn.never rfl (pi_list (C8.pe_c (c_settings_of t) hr (by omega) rfl (pa_cons (pe_op op_and (pv 8) (pe_fld (pv 4) rfl)) pa_nil))) (pg_name (i := 10) nd rfl (.inl rfl))
        (pss_one (ps_if (pt_not (pt_val (C8.pe_mt (m_fine t) hr (by omega) (pv 4) (pa_cons (pe_tup (pa_cons (pe_ix ix_tup (pv 9) pe_int (fun _ _ => rfl)) (pa_cons (pe_ix ix_tup (pv 9) pe_int (fun _ _ => rfl)) (pa_cons (pv 10) pa_nil)))) (pa_cons (pv 5) pa_nil))))) pss_never pss_nil))))))
    (pss_one (ps_ret pe_bl)))))), ?_⟩
  refine ⟨_, rfl, _, rfl, _, rfl, fun x1 d1 hx1 hd1 ne1 => ⟨x1, d1, v1, v2, v3, H, C, rfl, upd_same, same_new2 hx1 hd1 _ _, hx1, hR1, hR2, hY, fun H1 s1 hS => ⟨rfl, ?_⟩⟩⟩
  refine fun dm hdm => ?_
  obtain ⟨l, ⟨a, da, rfl, ha⟩, hl, hT⟩ := hA.mono s1
  have s2 := same_new hdm (.dT [])
  have haa := s2 _ _ ha
  refine ⟨_, rfl, a, _, da, _, _, rfl, haa, t.c_Alike, t.n_Alike_table, lk_Alike_table, l, rfl, ⟨_, SqL.of (s2 _ _ hl)⟩, ?_⟩
  have hS0 := hS
  obtain ⟨u1, u2, bo, ⟨x, dx, ex, hx⟩, D1, D2, hB⟩ := hS0
  cases ex
  obtain ⟨a1, rs1, rfl, ha1, hl1, _⟩ := id D1
  obtain ⟨a2, rs2, rfl, ha2, hl2, _⟩ := id D2
  refine for_list (xs := refs bs) (fun k σ H' => Same H1 H' ∧ H' dm = some (.dT (encK (tb.take k))) ∧ ∃ w6 w7 w8, σ = [some (.ref a), some v1, some v2, some v3, some (.ref x1), some (.ref dm), w6, w7, w8, none, none])
    ⟨s2, by rw [upd_same]; rfl, none, none, none, rfl⟩ (fun k σ H' _ p => SqL.of (p.1 _ _ hl)) ?_ ?_
  · rintro k z σ H' hk ⟨s3, hd3, w6, w7, w8, rfl⟩
    obtain ⟨p, r, hr, rfl, hp⟩ := row_at hT hbt hk
    obtain ⟨le1, le2, mm⟩ := hG.le r (List.mem_of_getElem? hr)
    refine ⟨p, _, rfl, SqT.of (s3 _ _ hp), rfl, _, _, rfl, _, _, rfl, _, _, rfl, rfl, ?_⟩
    have hx3 := s3 _ _ hx
    refine ⟨_, rfl, _, _, rfl, rfl, _, rfl, iteY (Int.natCast_nonneg _) ?_⟩
    refine ⟨_, rfl, x1, _, dx, _, _, rfl, hx3, t.c_Sides, t.n_Sides_ones, lk_Sides_ones, a1, _, rfl, .inl (SqL.of (s3 _ _ ha1)), _, _, rfl, rfl, _, rfl, iteNS (by rw [hl1]; omega) ?_⟩
    refine ⟨_, rfl, _, _, rfl, rfl, _, rfl, iteY (Int.natCast_nonneg _) ?_⟩
    refine ⟨_, rfl, x1, _, dx, _, _, rfl, hx3, t.c_Sides, t.n_Sides_others, lk_Sides_others, a2, _, rfl, .inl (SqL.of (s3 _ _ ha2)), _, _, rfl, rfl, _, rfl, iteNS (by rw [hl2]; omega) ?_⟩
    refine ⟨_, rfl, _, _, rfl, rfl, _, rfl, iteY (Int.natCast_nonneg _) ?_⟩
    have l3 := (msk_and mm).2.2
    refine ⟨_, _, rfl, rfl, _, rfl, iteNS (by omega) ?_⟩
    have ht : tb.take (k + 1) = tb.take k ++ [r] := by
      rw [List.take_add_one, hr]
      rfl
    have hn := hG.nd
    have hno : (r.1, r.2.1) ∉ (tb.take k).map fun e => (e.1, e.2.1) := by
      have h4 : ((tb.take (k + 1)).map fun e => (e.1, e.2.1)).Nodup := by
        rw [List.map_take]
        exact List.Sublist.nodup (List.take_sublist _ _) hn
      rw [ht, List.map_append, List.nodup_append] at h4
      exact fun m => h4.2.2 _ m _ (List.mem_singleton.mpr rfl) rfl
    refine ⟨_, rfl, dm, rfl, .inr ⟨_, .inl hd3⟩, _, rfl, _, rfl, by show 2 ≤ sizeLine; decide, fun q1 hq1 => ?_⟩
    have s4 := same_new hq1 (.tup [.int (r.1 : Nat), .int (r.2.1 : Nat)])
    have hd4 := s4 _ _ hd3
    refine ⟨none, .inr ⟨_, kk r.1 r.2.1, q1, .inl hd4, rfl, upd_same, (encK_none hno).symm⟩, _, rfl, _, _, rfl, rfl, ?_⟩
    refine ⟨_, rfl, _, rfl, _, rfl, by show 2 ≤ sizeLine; decide, fun q2 hq2 => ?_⟩
    have s5 := same_new hq2 (.tup [.int (r.1 : Nat), .int (r.2.1 : Nat)])
    have hd5 := s5 _ _ hd4
    refine ⟨dm, _, rfl, DPut.t (k := kk r.1 r.2.1) hd5 upd_same ?_, ?_⟩
    · rw [encK_len, List.length_take]
      exact Nat.lt_of_le_of_lt (Nat.min_le_right _ _) (Nat.lt_trans hG.len (by decide))
    refine ⟨same_mut ((s3.trans s4).trans s5) hdm _, ?_, _, _, _, rfl⟩
    rw [upd_same, putK_new _ (encK_none hno), ht, encK_snoc]
    show some (HO.dT (encK (tb.take k) ++ [(kk r.1 r.2.1, V.int (Builtin.bitOr ((0 : Nat) : Int) (r.2.2 : Nat)))])) = _
    rw [or_nat, (msk_and mm).2.1]
  · rintro σ H' ⟨s3, hd3, w6, w7, w8, rfl⟩
    have hlen : (refs bs).length = tb.length := by
      have e := congrArg List.length hbt
      rw [List.length_map, List.length_map] at e
      unfold refs
      rw [List.length_map, e]
    rw [hlen, List.take_length] at hd3
    have hx3 := s3 _ _ hx
    refine ⟨_, rfl, x1, _, dx, _, _, rfl, hx3, t.c_Sides, t.n_Sides_begin, lk_Sides_begin, _, rfl, dm, rfl, .inr ⟨_, .inl hd3⟩, by show 2 ≤ sizeLine; decide, fun q1 hq1 => ?_⟩
    have s4 := same_new hq1 (.tup [.int 0, .int 0])
    refine ⟨some (.int (65535 : Nat)), .inr ⟨_, kk 0 0, q1, .inl (s4 _ _ hd3), rfl, upd_same, (encK_some hG.nd hG.at0).symm⟩, _, _, rfl, rfl, _, _, rfl, rfl, rfl, _, rfl, ?_⟩
    refine iteNS (by decide +kernel) ?_
    refine ⟨dm, _, s4 _ _ hd3, trivial, fun od => ?_⟩
    have sH : Same H1 (upd (upd H' q1 (.tup [.int 0, .int 0])) dm (.frz od (.dT (encK tb)))) := same_mut (s3.trans s4) hdm _
    refine ⟨_, rfl, dm, od, _, rfl, upd_same, ?_⟩
    refine for_it walk_itemsT (fun k σ H2 => Same H1 H2 ∧ H2 dm = some (.frz od (.dT (encK tb))) ∧ ∃ w6 w7 w8 w9 w10, σ = [some (.ref a), some v1, some v2, some v3, some (.ref x1), some (.ref dm), w6, w7, w8, w9, w10])
      ⟨sH, upd_same, _, _, _, none, none, rfl⟩ (fun _ _ _ _ p => p.2.1) ?_ ?_
    · rintro k z σ H2 H3 hk ⟨s5, hd5, w6, w7, w8, w9, w10, rfl⟩ ⟨T, qk, ks, vv, hkv, rfl, hT0, hqk, rfl⟩
      unfold encK at hkv
      rw [List.getElem?_map] at hkv
      cases hr : tb[k]? with
      | none => rw [hr] at hkv; cases hkv
      | some r =>
        rw [hr] at hkv
        obtain ⟨rfl, rfl⟩ := Prod.mk.inj (Option.some.inj hkv)
        have hmem := List.mem_of_getElem? hr
        obtain ⟨le1, le2, mm⟩ := hG.le r hmem
        have s6 := same_new hT0 (.tup [.ref qk, .int (r.2.2 : Nat)])
        refine ⟨T, _, rfl, SqT.of upd_same, rfl, _, _, rfl, _, _, rfl, rfl, ?_⟩
        have hx6 := s6 _ _ (s5 _ _ hx)
        refine ⟨_, rfl, _, rfl, x1, _, dx, _, _, rfl, hx6, t.c_Sides, t.n_Sides_begin, lk_Sides_begin, _, _, rfl, rfl, ?_⟩
        have e1 : Builtin.bitAnd (r.2.2 : Nat) 65535 = ((r.2.2 : Nat) : Int) := by
          refine (and_nat _ 65535).trans ?_
          rw [(msk_and mm).1]
        refine ⟨r.2.2, congrArg (fun z => [V.int z]) e1, fun sl H4 s7 hsl0 hsl => ?_⟩
        have s57 : Same H1 H4 := (s5.trans s6).trans s7
        refine ⟨sl, rfl, ⟨_, SqL.of hsl⟩, ?_⟩
        have hd7 := s7 _ _ (s6 _ _ hd5)
        have hqk7 := s7 _ _ (s6 _ _ hqk)
        refine for_list (xs := vset (setsOf r.2.2)) (fun j σ H5 => Same H4 H5 ∧ ∃ w10, σ = [some (.ref a), some v1, some v2, some v3, some (.ref x1), some (.ref dm), w6, w7, some (.int (r.2.2 : Nat)), some (.ref qk), w10])
          ⟨Same.refl _, w10, rfl⟩ (fun j σ H5 _ p => SqL.of (p.1 _ _ hsl)) ?_ ?_
        · rintro j z σ H5 hj ⟨s8, w10, rfl⟩
          unfold vset at hj
          rw [List.getElem?_map] at hj
          cases hs : (setsOf r.2.2)[j]? with
          | none => rw [hs] at hj; cases hj
          | some ss =>
            rw [hs] at hj
            obtain rfl : V.int (ss : Nat) = z := Option.some.inj hj
            have hsm := List.mem_of_getElem? hs
            obtain ⟨f1, f2⟩ := hG.fine r hmem ss hsm
            have hx8 := s8 _ _ (s57 _ _ hx)
            have hq8 := s8 _ _ hqk7
            refine ⟨_, rfl, x1, dx, _, rfl, hx8, lk_Sides_is_fine, _, rfl, qk, _, _, _, rfl, rfl, SqT.of hq8, rfl, _, rfl, qk, _, _, _, rfl, rfl, SqT.of hq8, rfl, _, rfl, by show 3 ≤ sizeLine; decide, fun q3 hq3 => ?_⟩
            have s9 := same_new hq3 (.tup [.int (r.1 : Nat), .int (r.2.1 : Nat), .int (ss : Nat)])
            have hS9 := ((hS.mono s57).mono s8).mono s9
            refine ⟨_, rfl, .ref x1, .ref q3, dm, C, r.1, r.2.1, ss, encK tb, rfl, hi, hS9, ⟨q3, rfl, upd_same⟩, le1, le2, setsOf_lt hsm, .inr ⟨od, s9 _ _ (s8 _ _ hd7)⟩, f1, ?_, fun H6 s10 => ⟨_, rfl, iteF ⟨(s8.trans s9).trans s10, _, rfl⟩⟩⟩
            intro a' b' m e
            obtain ⟨z, hz, hm⟩ := f2 a' b' m e
            exact ⟨z, encK_some hG.nd hz, (hG.le _ hz).2.2, hm⟩
        · rintro σ H5 ⟨s8, w10, rfl⟩
          exact ⟨s57.trans s8, s8 _ _ hd7, _, _, _, _, _, rfl⟩
    · rintro σ H2 ⟨s5, hd5, w6, w7, w8, w9, w10, rfl⟩
      exact ⟨hd5, q _ (s1.trans (same_mut s5 hdm _))⟩
end
end K98
set_option Elab.async false
set_option linter.all false
set_option maxRecDepth 100000
set_option maxHeartbeats 4000000
/-! Apart -/
namespace K98
open PySem PySem.Spec PyProof.Rows L2 SX
section
variable {P : Program} {w : World} {K : PySem.W.Frag} {mg : Str → Option Value} {base : Heap}
theorem cut1 (xs : List V) (h : 1 ≤ xs.length) : cutV xs (some 1) none = xs.drop 1 := by
  have e1 : HT.sIx xs.length 0 (some 1) = 1 := by
    unfold HT.sIx
    simp
    omega
  have e2 : HT.sIx xs.length xs.length none = xs.length := rfl
  unfold cutV
  rw [e1, e2]
  exact List.take_of_length_le (by rw [List.length_drop]; omega)
theorem bit0 (m s : Nat) : decide (V.int (Builtin.bitAnd ((m : Int) / 2 ^ ((s : Int)).toNat) 1) = V.int 0) = !m.testBit s := by
  have e : ((m : Int) / 2 ^ ((s : Int)).toNat) = ((m / 2 ^ s : Nat) : Int) := by
    rw [Int.toNat_natCast, Int.natCast_ediv, Int.natCast_pow]
    rfl
  have e2 : ((m / 2 ^ s : Nat) : Int) % 2 = ((m / 2 ^ s % 2 : Nat) : Int) := by omega
  rw [e, PyProof.Rows.bitAnd_m1, e2]
  rw [Nat.testBit_eq_decide_div_mod_eq]
  by_cases h : m / 2 ^ s % 2 = 1
  · rw [h, decide_eq_true rfl]
    refine decide_eq_false fun q => ?_
    have q2 := V.int.inj q
    cases q2
  · have h0 : m / 2 ^ s % 2 = 0 := by omega
    rw [h0]
    rfl
theorem all_true (n : Nat) : (List.replicate n true).all id = true := by
  induction n with
  | zero => rfl
  | succ n ih => rw [List.replicate_succ, List.all_cons, ih]; rfl
theorem every_bit : ∀ s : Fin 16, (65535 : Nat).testBit s.val = true := by decide +kernel
def ApartAt (K : PySem.W.Frag) (H : Hp) (v : V) (ss : List Nat) (ds : List Nat) : Prop := ∃ l, Ins K H v "Apart" (fl_Apart (.ref l) (.str (S ds))) ∧ H l = some (.lst (vset ss))
theorem ApartAt.mono {H H' : Hp} {v : V} {ss ds : List Nat} (s : Same H H') (h : ApartAt K H v ss ds) : ApartAt K H' v ss ds := let ⟨l, a, b⟩ := h; ⟨l, a.mono s, s _ _ b⟩
def spApart (K : PySem.W.Frag) : Sp := fun vs H Q _ => ∃ (x dx l : Addr) (G : Hp) (ss ds : List Nat), vs = [.ref x, .ref l, .str (S ds)] ∧ H x = some (.ins (He.ga K "Apart") dx []) ∧ Same G H ∧ G x = none ∧ G l = some (.lst (vset ss)) ∧
  ∀ H', Same G H' → ApartAt K H' (.ref x) ss ds → Q .non H'
theorem sc_Apart_init : FnScope ["self", "settings", "deeds"] ["self", "settings", "deeds"] (defScope st_Apart_init) := ⟨rfl, rfl, rfl, by decide +kernel, rfl, by decide +kernel, by decide +kernel⟩
theorem k_Apart (t : T K mg) : C8.Mak P w K mg base 1 "Apart" (He.ga K "Apart") (spApart K) [] := by
  refine mak_of (k := 0) t.mk_Apart t.gc_Apart t.d_Apart_init sc_Apart_init (fun vs H Q E h => ?_) (fun fd cdv A outer s H vs Q E hr h => ?_)
  · obtain ⟨x, dx, l, G, ss, ds, rfl, _⟩ := h
    rfl
  obtain ⟨x, dx, l, G, ss, ds, rfl, hx, sG, Gx, hl, q⟩ := h
  refine ⟨_, pss_cons (ps_fld (pv 0) (pe_callTy call_list_of rfl t.f_list (by decide +kernel) (pa_cons (pv 1) pa_nil)) rfl) (pss_one (ps_fld (pv 0) (pv 2) rfl)), ?_⟩
  refine ⟨_, rfl, l, _, rfl, .inl (SqL.of (sG _ _ hl)), fun l2 h2 => ?_⟩
  have nx : x ≠ l2 := ne_of_none hx h2
  have hx2 : (upd H l2 (.lst (vset ss))) x = some (.ins (He.ga K "Apart") dx []) := by
    rw [upd_ne nx]
    exact hx
  refine ⟨_, rfl, x, _, dx, _, rfl, hx2, t.c_Apart, t.n_Apart_settings, (by first | decide | exact lt_put1 | exact lt_put2 | exact lt_put3 | exact lt_fl rfl), ?_⟩
  refine ⟨_, rfl, _, rfl, x, _, dx, _, rfl, upd_same, t.c_Apart, t.n_Apart_deeds, (by first | decide | exact lt_put1 | exact lt_put2 | exact lt_put3 | exact lt_fl rfl), ?_⟩
  rw [upd_upd]
  have s2 : Same G (upd H l2 (.lst (vset ss))) := same_mut sG (none_back sG h2) _
  refine q _ (same_mut s2 Gx _) ⟨l2, ⟨x, dx, rfl, ?_⟩, ?_⟩
  · rw [upd_same]
    show some (HO.ins (He.ga K "Apart") dx (putF "deeds" (.str (S ds)) (putF "settings" (.ref l2) []))) = _
    rw [put_Apart]
  · rw [upd_ne nx.symm, upd_same]
/-- a word that tells two programs apart -/
structure Word (C : Cf) (m : Nat) (ss : List Nat) (pt : Nat → Nat × Nat) : Prop where
  len : ss.length = m + 1
  lt : ∀ s ∈ ss, s < 16
  small : m ≤ 200
  begin_ : pt 0 = (0, 0)
  le : ∀ i, i ≤ m → (pt i).1 ≤ C.n1 ∧ (pt i).2 ≤ C.n2
  step : ∀ i, i < m → ∃ z, C.come (pt i).1 (pt i).2 (ss.getD i 0) = some ((pt (i + 1)).1, (pt (i + 1)).2, z) ∧ z.testBit (ss.getD (i + 1) 0) = true ∧ (C.d1 (pt i).1 (ss.getD i 0)).1 = S [80 + C.i]
  fin : ¬ (C.d1 (pt m).1 (ss.getD m 0)).1 = (C.d2 (pt m).2 (ss.getD m 0)).1
theorem Word.at {C : Cf} {m : Nat} {ss : List Nat} {pt : Nat → Nat × Nat} (W : Word C m ss pt) {i : Nat} (h : i ≤ m) : ss[i]? = some (ss.getD i 0) ∧ ss.getD i 0 < 16 := by
  have hl : i < ss.length := by rw [W.len]; omega
  have e : ss[i]? = some (ss.getD i 0) := by
    rw [List.getD_eq_getElem?_getD, List.getElem?_eq_getElem hl]
    rfl
  exact ⟨e, W.lt _ (List.mem_of_getElem? e)⟩
theorem vset_at {ss : List Nat} {i s : Nat} (h : ss[i]? = some s) : (vset ss)[i]? = some (V.int (s : Nat)) := by
  unfold vset
  rw [List.getElem?_map, h]
  rfl
def spStandsP (K : PySem.W.Frag) : Sp := fun vs H Q _ => ∃ (v v1 v2 v3 : V) (C : Cf) (m : Nat) (ss : List Nat) (pt : Nat → Nat × Nat), vs = [v, v1, v2, v3] ∧ C.i < 5 ∧ ApartAt K H v ss (List.replicate m (80 + C.i)) ∧ Word C m ss pt ∧
  RoundAt K H v1 C.n1 C.i C.h ∧ RoundAt K H v2 C.n2 C.i C.h ∧ SayAt K H v3 C.y ∧ ∀ H', Same H H' → Q (.bl true) H'
theorem sc_Apart_stands : FnScope ["self", "one", "other", "sayings", "sides", "setting", "triple", "letter", "behind", "one_door", "other_door"] ["self", "one", "other", "sayings"] (defScope st_Apart_stands) := ⟨rfl, rfl, rfl, by decide +kernel, rfl, by decide +kernel, by decide +kernel⟩
theorem m_standsP (t : T K mg) : C8.Met P w K mg base 23 (He.ga K "Apart") "stands" (spStandsP K) [] := by
  refine met_of (k := 22) t.c_Apart t.m_Apart_stands t.d_Apart_stands sc_Apart_stands (fun vs H Q E h => ?_) (fun fd cdv A outer s H vs Q E hr h => ?_)
  · obtain ⟨v, v1, v2, v3, C, m, ss, pt, rfl, _⟩ := h
    rfl
  obtain ⟨v, v1, v2, v3, C, m, ss, pt, rfl, hi5, hA, W, hR1, hR2, hY, q⟩ := h
  have nd := sc_Apart_stands.nd
  refine ⟨_, pss_cons (ps_set (i := 4) nd rfl (.inl rfl) (C8.pe_mk (k_Sides t) hr (by omega) rfl (pa_cons (pv 1) (pa_cons (pv 2) (pa_cons (pv 3) pa_nil)))))
    (pss_cons (ps_if (pt_cmpR op_ne (pe_callB call_len_seq rfl t.f_len PySem.boot_len (pa_cons (pe_fld (pv 0) rfl) pa_nil)) (pe_op op_add (pe_callB call_len_str rfl t.f_len PySem.boot_len (pa_cons (pe_fld (pv 0) rfl) pa_nil)) pe_int) (nomark _)) pss_never pss_nil)
    (pss_cons (ps_if (PW.pt (pw_or (pt_not (pt_val (pe_callB (cr_all rfl) rfl t.f_all (by decide +kernel) (pa_cons (pe_lc (own := [("setting", 5)]) (g := gName 5) (tt := tYes) (by rfl) nd (pi_list (pe_fld (pv 0) rfl))
          (blkOk_by (own := [("setting", 5)]) (N := ["self", "one", "other", "sayings", "sides", "setting", "triple", "letter", "behind", "one_door", "other_door"]) (sc := defScope st_Apart_stands) (by decide +kernel)) (fun _ _ _ _ _ => pg_name (i := 5) nd rfl (Or.inl rfl))
          (fun _ _ _ _ _ => pts_nil) (fun _ _ _ _ _ => pe_chain op_le op_lt pe_int (pv 5) pe_int)) pa_nil))))
        (pw_or1 (pt_cmpR op_eq (pe_op op_and (pe_op op_shr (pe_fld (pv 4) rfl) (pe_ix ix_list (pe_fld (pv 0) rfl) pe_int (fun _ _ => rfl))) pe_int) pe_int (nomark _))))) pss_never pss_nil)
    (pss_cons (ps_set (i := 6) nd rfl (.inl rfl) (pe_tup (pa_cons pe_int (pa_cons pe_int (pa_cons (pe_ix ix_list (pe_fld (pv 0) rfl) pe_int (fun _ _ => rfl)) pa_nil)))))
    (pss_cons (ps_for PassesOwn.never rfl (pi_zipS rfl t.f_zip (pa_cons (pe_fld (pv 0) rfl) (pa_cons (pe_slice sl_list (pe_fld (pv 0) rfl) (po_some pe_int) po_none) pa_nil)))
        (pg_tup (by rfl) (pgs_cons (pg_name (i := 7) nd rfl (.inl rfl)) (pgs_cons (pg_name (i := 5) nd rfl (.inl rfl)) pgs_nil)))
      (pss_cons (ps_set (i := 8) nd rfl (.inl rfl) (C8.pe_mt (m_come t) hr (by omega) (pv 4) (pa_cons (pv 6) pa_nil)))
      (pss_cons (ps_if (PW.pt (pw_or (pt_cmp (pc_isN (pv 8))) (pw_or (pt_cmpR op_ne (pe_ix ix_tup (pe_ix ix_tup (C8.pe_mt (m_both t) hr (by omega) (pv 4) (pa_cons (pv 6) pa_nil)) pe_int (fun _ _ => rfl)) pe_int (fun _ _ => rfl)) (pv 7) (nomark _))
          (pw_or1 (pt_cmpR op_eq (pe_op op_and (pe_op op_shr (pe_ix ix_tup (pv 8) pe_int (fun _ _ => rfl)) (pv 5)) pe_int) pe_int (nomark _)))))) pss_never pss_nil)
      (pss_one (ps_set (i := 6) nd rfl (.inl rfl) (pe_tup (pa_cons (pe_ix ix_tup (pe_ix ix_tup (pv 8) pe_int (fun _ _ => rfl)) pe_int (fun _ _ => rfl)) (pa_cons (pe_ix ix_tup (pe_ix ix_tup (pv 8) pe_int (fun _ _ => rfl)) pe_int (fun _ _ => rfl)) (pa_cons (pv 5) pa_nil)))))))))
    (pss_cons (ps_asg (C8.pe_mt (m_both t) hr (by omega) (pv 4) (pa_cons (pv 6) pa_nil)) (pg_tup (by rfl) (pgs_cons (pg_name (i := 9) nd rfl (.inl rfl)) (pgs_cons (pg_name (i := 10) nd rfl (.inl rfl)) pgs_nil))))
    (pss_one (ps_ret (pe_cmpR op_ne (pe_ix ix_tup (pv 9) pe_int (fun _ _ => rfl)) (pe_ix ix_tup (pv 10) pe_int (fun _ _ => rfl)) (nomark _))))))))), ?_⟩
  refine ⟨_, rfl, _, rfl, _, rfl, fun x1 d1 hx1 hd1 ne1 => ⟨x1, d1, v1, v2, v3, H, C, rfl, upd_same, same_new2 hx1 hd1 _ _, hx1, hR1, hR2, hY, fun H1 s1 hS => ⟨rfl, ?_⟩⟩⟩
  obtain ⟨l, ⟨a, da, rfl, ha⟩, hl⟩ := hA.mono s1
  have hS0 := hS
  obtain ⟨u1, u2, bo, ⟨x, dx, ex, hx⟩, D1, D2, hB⟩ := hS0
  cases ex
  have lss : (vset ss).length = m + 1 := by rw [← W.len]; exact List.length_map _
  have lds : (S (List.replicate m (80 + C.i))).length = m := by rw [S_len, List.length_replicate]
  have hm := W.small
  refine ⟨_, rfl, a, _, da, _, _, rfl, ha, t.c_Apart, t.n_Apart_settings, lk_Apart_settings, l, _, rfl, .inl (SqL.of hl), _, rfl, a, _, da, _, _, rfl, ha, t.c_Apart, t.n_Apart_deeds, lk_Apart_deeds, _, rfl, sz_of (by rw [lds]; omega), _, _, rfl, rfl, rfl, _, rfl, ?_⟩
  refine iteNS (by rw [lss, lds]; rfl) ?_
  refine ⟨_, rfl, a, _, da, _, _, rfl, ha, t.c_Apart, t.n_Apart_settings, lk_Apart_settings, l, rfl, ⟨_, SqL.of hl⟩, fun D hD => ?_⟩
  refine lc_list (xs := vset ss) (fun k H2 => Same H1 H2 ∧ H2 D = some (.lst ((List.replicate k true).map V.bl))) ⟨same_new hD _, upd_same⟩ (fun k H2 _ p => SqL.of (p.1 _ _ hl)) ?_ ?_
  · rintro k z H2 hk ⟨s2, e2⟩
    unfold vset at hk
    rw [List.getElem?_map] at hk
    cases hs : ss[k]? with
    | none => rw [hs] at hk; cases hk
    | some s0 =>
      rw [hs] at hk
      obtain rfl : V.int (s0 : Nat) = z := Option.some.inj hk
      have h16 := W.lt _ (List.mem_of_getElem? hs)
      have hk1 := (List.getElem?_eq_some_iff.mp hs).1
      rw [W.len] at hk1
      refine ⟨rfl, tYes_to ?_⟩
      refine iteT ?_
      refine ⟨_, rfl, _, _, rfl, rfl, _, rfl, iteY (Int.natCast_nonneg _) ?_⟩
      refine ⟨_, _, rfl, rfl, _, e2, ?_, same_mut s2 hD _, ?_⟩
      · rw [List.length_map, List.length_replicate]
        exact Nat.lt_of_lt_of_le (show k < 300 by omega) (by decide)
      · rw [upd_same, List.replicate_succ', List.map_append]
        show some (HO.lst (_ ++ [V.bl (decide (((s0 : Nat) : Int) < 16))])) = _
        rw [decide_eq_true (show ((s0 : Nat) : Int) < 16 by omega)]
        rfl
  · rintro H2 ⟨s2, e2⟩
    refine ⟨D, List.replicate (vset ss).length true, rfl, SqL.of e2, _, rfl, ?_⟩
    rw [all_true]
    refine iteF ?_
    have hx2 := s2 _ _ hx
    have ha2 := s2 _ _ ha
    have hl2 := s2 _ _ hl
    have at0' := W.at (Nat.zero_le m)
    have v0 := vset_at at0'.1
    refine ⟨_, rfl, x1, _, dx, _, _, rfl, hx2, t.c_Sides, t.n_Sides_begin, lk_Sides_begin, _, rfl, a, _, da, _, _, rfl, ha2, t.c_Apart, t.n_Apart_settings, lk_Apart_settings, l, _, _, _, rfl, rfl, SqL.of hl2, atI_nat (j := 0) v0, _, _, rfl, rfl, Int.natCast_nonneg _, _, _, rfl, rfl, rfl, _, rfl, ?_⟩
    have b0 := bit0 65535 (ss.getD 0 0)
    rw [every_bit ⟨ss.getD 0 0, at0'.2⟩] at b0
    have b0' : decide (V.int (Builtin.bitAnd ((65535 : Int) / 2 ^ (((ss.getD 0 0 : Nat) : Int)).toNat) 1) = V.int 0) = false := b0
    show if decide (V.int (Builtin.bitAnd ((65535 : Int) / 2 ^ (((ss.getD 0 0 : Nat) : Int)).toNat) 1) = V.int 0) = true then _ else _
    rw [b0']
    refine iteF ?_
    refine ⟨_, rfl, a, _, da, _, _, rfl, ha2, t.c_Apart, t.n_Apart_settings, lk_Apart_settings, l, _, _, _, rfl, rfl, SqL.of hl2, atI_nat (j := 0) v0, by show 3 ≤ sizeLine; decide, fun tr htr => ?_⟩
    have s3 := same_new htr (.tup [.int 0, .int 0, .int (ss.getD 0 0 : Nat)])
    have s13 := s2.trans s3
    have ha3 := s3 _ _ ha2
    have hl3 := s3 _ _ hl2
    refine ⟨_, rfl, a, _, da, _, _, rfl, ha3, t.c_Apart, t.n_Apart_deeds, lk_Apart_deeds, _, rfl, a, _, da, _, _, rfl, ha3, t.c_Apart, t.n_Apart_settings, lk_Apart_settings, 1, rfl, l, _, rfl, SqL.of hl3, fun zl hzl => ?_⟩
    rw [cut1 _ (by rw [lss]; omega)]
    have s4 := same_new hzl (.lst ((vset ss).drop 1))
    refine ⟨_, zl, _, rfl, upd_same, ?_⟩
    refine for_it (walk_zipS (n := m) (ys := (vset ss).drop 1) (by show m = (List.replicate m (80 + C.i)).toArray.size; simp) (by rw [List.length_drop, lss]; omega))
      (fun i σ H' => Same (upd (upd H2 tr (.tup [.int 0, .int 0, .int (ss.getD 0 0 : Nat)])) zl (.lst ((vset ss).drop 1))) H' ∧ ∃ w5 tv w7 w8, σ = [some (.ref a), some v1, some v2, some v3, some (.ref x1), w5, some tv, w7, w8, none, none] ∧ TripAt H' tv (pt i).1 (pt i).2 (ss.getD i 0))
      ⟨Same.refl _, none, .ref tr, none, none, rfl, tr, rfl, ?_⟩ (fun i σ H' _ p => p.1 _ _ upd_same) ?_ ?_
    · rw [W.begin_]
      exact s4 _ _ upd_same
    · rintro i z σ H' H5 hi ⟨s5, w5, tv, w7, w8, rfl, hT⟩ ⟨Pp, c, y, rfl, hP, rfl, hc, hy⟩
      have s6 := same_new hP (.tup [.str ⟨#[c]⟩, y])
      have s16 : Same H1 (upd H' Pp (.tup [.str ⟨#[c]⟩, y])) := ((s13.trans s4).trans s5).trans s6
      obtain ⟨z, cz, bz, dz⟩ := W.step i hi
      have ati := W.at (show i ≤ m by omega)
      have ati1 := W.at (show i + 1 ≤ m by omega)
      obtain ⟨le1, le2⟩ := W.le i (by omega)
      have ey : y = .int (ss.getD (i + 1) 0 : Nat) := by
        rw [List.getElem?_drop, Nat.add_comm, vset_at ati1.1] at hy
        exact (Option.some.inj hy).symm
      have ecc : c = 80 + C.i := by
        have hc2 : (List.replicate m (80 + C.i)).toArray[i]? = some c := hc
        rw [List.getElem?_toArray, List.getElem?_replicate_of_lt hi] at hc2
        exact (Option.some.inj hc2).symm
      subst ey ecc
      refine ⟨Pp, _, rfl, SqT.of upd_same, rfl, _, _, rfl, _, _, rfl, rfl, ?_⟩
      refine ⟨_, rfl, x1, dx, _, rfl, s16 _ _ hx, lk_Sides_come_behind, _, rfl, _, _, C, _, _, _, rfl, hi5, hS.mono s16, hT.mono s6, le1, le2, ati.2, fun r H6 s7 hr7 => ?_⟩
      rw [cz] at hr7
      obtain ⟨bp, be, rfl, hbp, hbe⟩ := hr7
      have s17 := s16.trans s7
      refine ⟨_, rfl, _, rfl, ?_⟩
      refine iteF ?_
      refine ⟨_, rfl, x1, dx, _, rfl, s17 _ _ hx, lk_Sides_both_at, _, rfl, _, _, C, _, _, _, rfl, hS.mono s17, (hT.mono s6).mono s7, le1, le2, ati.2, fun r H7 s8 hr8 => ?_⟩
      obtain ⟨p8, c1, c2, rfl, hp8, hc1, hc2⟩ := hr8
      refine ⟨p8, _, _, _, rfl, rfl, SqT.of hp8, rfl, c1, _, _, _, rfl, rfl, SqT.of hc1, rfl, _, rfl, rfl, _, rfl, ?_⟩
      refine iteNS (by rw [dz]) ?_
      have hbp8 := s8 _ _ hbp
      have hbe8 := s8 _ _ hbe
      refine ⟨_, rfl, bp, _, _, _, rfl, rfl, SqT.of hbp8, rfl, _, rfl, _, _, rfl, rfl, Int.natCast_nonneg _, _, _, rfl, rfl, rfl, _, rfl, ?_⟩
      rw [bit0, bz]
      refine iteF ?_
      refine ⟨_, rfl, bp, _, _, _, rfl, rfl, SqT.of hbp8, rfl, be, _, _, _, rfl, rfl, SqT.of hbe8, rfl, _, rfl, bp, _, _, _, rfl, rfl, SqT.of hbp8, rfl, be, _, _, _, rfl, rfl, SqT.of hbe8, rfl, _, rfl, by show 3 ≤ sizeLine; decide, fun q9 hq9 => ?_⟩
      have s9 := same_new hq9 (.tup [.int (pt (i + 1)).1, .int (pt (i + 1)).2, .int (ss.getD (i + 1) 0 : Nat)])
      exact ⟨(((s5.trans s6).trans s7).trans s8).trans s9, _, _, _, _, rfl, q9, rfl, upd_same⟩
    · rintro σ H' ⟨s5, w5, tv, w7, w8, rfl, hT⟩
      have s15 : Same H1 H' := (s13.trans s4).trans s5
      obtain ⟨le1, le2⟩ := W.le m (Nat.le_refl m)
      have atm := W.at (Nat.le_refl m)
      refine ⟨_, rfl, x1, dx, _, rfl, s15 _ _ hx, lk_Sides_both_at, _, rfl, _, _, C, _, _, _, rfl, hS.mono s15, hT, le1, le2, atm.2, fun r H7 s8 hr8 => ?_⟩
      obtain ⟨p8, c1, c2, rfl, hp8, hc1, hc2⟩ := hr8
      refine ⟨p8, _, rfl, SqT.of hp8, rfl, _, _, rfl, _, _, rfl, rfl, ?_⟩
      refine ⟨_, rfl, c1, _, _, _, rfl, rfl, SqT.of hc1, rfl, _, rfl, c2, _, _, _, rfl, rfl, SqT.of hc2, rfl, rfl, ?_⟩
      show Q (.bl (!decide (V.str (C.d1 (pt m).1 (ss.getD m 0)).1 = V.str (C.d2 (pt m).2 (ss.getD m 0)).1))) H7
      rw [decide_eq_false fun z => W.fin (V.str.inj z)]
      exact q _ ((s1.trans s15).trans s8)
end
end K98
set_option Elab.async false
set_option linter.all false
set_option maxRecDepth 100000
set_option maxHeartbeats 4000000
/-! word_to -/
namespace K98
open PySem PySem.Spec PyProof.Rows L2 SX
section
variable {P : Program} {w : World} {K : PySem.W.Frag} {mg : Str → Option Value} {base : Heap}
abbrev k3 (a b s : Nat) : List L2.Key := [.inl (a : Int), .inl (b : Int), .inl (s : Int)]
theorem k3_inj {a b s a' b' s' : Nat} (h : k3 a b s = k3 a' b' s') : a = a' ∧ b = b' ∧ s = s' := by
  injection h with h1 h2
  injection h2 with h2 h3
  injection h3 with h3 _
  exact ⟨Int.ofNat.inj (Sum.inl.inj h1), Int.ofNat.inj (Sum.inl.inj h2), Int.ofNat.inj (Sum.inl.inj h3)⟩
/-- how the triples came -/
structure Came (H : Hp) (kvs : List (List L2.Key × V)) (m : Nat) (ss : List Nat) (pt : Nat → Nat × Nat) : Prop where
  no : ∀ s, valV kvs (k3 0 0 s) = none
  at_ : ∀ i, i < m → ∃ t, valV kvs (k3 (pt (i + 1)).1 (pt (i + 1)).2 (ss.getD (i + 1) 0)) = some (.ref t) ∧ H t = some (.tup [.int (pt i).1, .int (pt i).2, .int (ss.getD i 0 : Nat)])
theorem Came.mono {H H' : Hp} {kvs : List (List L2.Key × V)} {m : Nat} {ss : List Nat} {pt : Nat → Nat × Nat} (s : Same H H') (c : Came H kvs m ss pt) : Came H' kvs m ss pt := ⟨c.no, fun i hi => let ⟨t, a, b⟩ := c.at_ i hi; ⟨t, a, s _ _ b⟩⟩
def spWord (K : PySem.W.Frag) : Sp := fun vs H Q _ => ∃ (v u : V) (dc : Addr) (C : Cf) (m : Nat) (ss : List Nat) (pt : Nat → Nat × Nat) (kvs : List (List L2.Key × V)), vs = [v, .ref dc, u] ∧ C.i < 5 ∧ SidesAt K H v C ∧ H dc = some (.dT kvs) ∧
  Came H kvs m ss pt ∧ Word C m ss pt ∧ TripAt H u (pt m).1 (pt m).2 (ss.getD m 0) ∧ ∀ r H', Same H H' → ApartAt K H' r ss (List.replicate m (80 + C.i)) → Q r H'
theorem drop_at {ss : List Nat} {j s : Nat} (h : ss[j]? = some s) : ss.drop j = s :: ss.drop (j + 1) := by
  have hl := (List.getElem?_eq_some_iff.mp h)
  obtain ⟨h1, h2⟩ := hl
  rw [List.drop_eq_getElem_cons h1, h2]
theorem sc_word_to : FnScope ["sides", "came", "triple", "settings", "deeds"] ["sides", "came", "triple"] (defScope st_word_to) := ⟨rfl, rfl, rfl, by decide +kernel, rfl, by decide +kernel, by decide +kernel⟩
theorem c_word_to (t : T K mg) : C8.Cal P w K mg base 3 "word_to" (spWord K) [] := by
  refine cal_of (k := 2) t.d_word_to t.g_word_to sc_word_to (fun vs H Q E h => ?_) (fun fd cdv A outer s H vs Q E hr h => ?_)
  · obtain ⟨v, u, dc, C, m, ss, pt, kvs, rfl, _⟩ := h
    rfl
  obtain ⟨v, u, dc, C, m, ss, pt, kvs, rfl, hi, hS, hc, hC, W, hu, q⟩ := h
  have nd := sc_word_to.nd
  have huu := hu_of hr
  refine ⟨_, pss_cons (ps_set (i := 3) nd rfl (.inl rfl) (pe_lst (pa_cons (pe_ix ix_tup (pv 2) pe_int (fun _ _ => rfl)) pa_nil)))
    (pss_cons (ps_set (i := 4) nd rfl (.inl rfl) pe_str)
    (pss_cons (ps_while PassesOwn.never (pt_cmp (pc_din huu (pv 2) (pv 1)))
      (pss_cons (ps_set (i := 2) nd rfl (.inl rfl) (pe_dget huu (pv 1) (pv 2) (fun _ _ => rfl)))
      (pss_cons (ps_set (i := 3) nd rfl (.inl rfl) (pe_op op_cat (pe_lst (pa_cons (pe_ix ix_tup (pv 2) pe_int (fun _ _ => rfl)) pa_nil)) (pv 3)))
      (pss_one (ps_set (i := 4) nd rfl (.inl rfl) (pe_op op_add_str (pe_ix ix_tup (pe_ix ix_tup (C8.pe_mt (m_both t) hr (by omega) (pv 0) (pa_cons (pv 2) pa_nil)) pe_int (fun _ _ => rfl)) pe_int (fun _ _ => rfl)) (pv 4)))))))
    (pss_one (ps_ret (C8.pe_mk (k_Apart t) hr (by omega) rfl (pa_cons (pv 3) (pa_cons (pv 4) pa_nil))))))), ?_⟩
  obtain ⟨pu, rfl, hpu⟩ := id hu
  refine ⟨_, rfl, pu, _, _, _, rfl, rfl, SqT.of hpu, rfl, by show 1 ≤ sizeLine; decide, fun l0 hl0 => ?_⟩
  have s0 := same_new hl0 (.lst [.int (ss.getD m 0 : Nat)])
  have hm := W.small
  have atm := W.at (Nat.le_refl m)
  have ed : vset (ss.drop m) = [.int (ss.getD m 0 : Nat)] := by
    rw [drop_at atm.1, List.drop_eq_nil_of_le (by rw [W.len]; omega)]
    rfl
  have lss : ss.length = m + 1 := W.len
  refine ⟨fun n σ H' => n ≤ m ∧ Same H H' ∧ ∃ tv ls, σ = [some v, some (.ref dc), some tv, some (.ref ls), some (.str (S (List.replicate (m - n) (80 + C.i))))] ∧ TripAt H' tv (pt n).1 (pt n).2 (ss.getD n 0) ∧ H' ls = some (.lst (vset (ss.drop n))),
    ⟨m, Nat.le_refl m, s0, .ref pu, l0, ?_, ⟨pu, rfl, s0 _ _ hpu⟩, by rw [upd_same, ed]⟩, ?_⟩
  · rw [Nat.sub_self]
    show [some v, some (.ref dc), some (.ref pu), some (.ref l0), some (.str ("" : Str))] = _
    rw [S_nil]
    rfl
  rintro n σ H' ⟨hn, s1, tv, ls, rfl, hT, hls⟩
  obtain ⟨p, rfl, hp⟩ := id hT
  have hc1 := s1 _ _ hc
  have C1 := hC.mono s1
  refine ⟨_, rfl, _, rfl, dc, _, rfl, .inr ⟨kvs, k3 (pt n).1 (pt n).2 (ss.getD n 0), p, .inl hc1, rfl, hp, rfl⟩, _, rfl, ?_⟩
  cases n with
  | zero =>
    rw [W.begin_, C1.no]
    refine iteF ?_
    refine ⟨_, rfl, _, rfl, fun x1 d1 hx1 hd1 ne1 => ⟨x1, d1, ls, H', ss, List.replicate m (80 + C.i), rfl, upd_same, same_new2 hx1 hd1 _ _, hx1, hls, fun H2 s2 hA => ⟨rfl, q _ _ (s1.trans s2) hA⟩⟩⟩
  | succ n =>
    obtain ⟨t1, ht1, ht2⟩ := C1.at_ n (by omega)
    rw [ht1]
    refine iteT ?_
    refine ⟨fun σ' H2 => n ≤ m ∧ Same H H2 ∧ ∃ tv ls, σ' = [some v, some (.ref dc), some tv, some (.ref ls), some (.str (S (List.replicate (m - n) (80 + C.i))))] ∧ TripAt H2 tv (pt n).1 (pt n).2 (ss.getD n 0) ∧ H2 ls = some (.lst (vset (ss.drop n))),
      fun σ' H2 z => ⟨n, Nat.lt_succ_self n, z⟩, ?_⟩
    have atn := W.at (show n ≤ m by omega)
    obtain ⟨le1, le2⟩ := W.le n (by omega)
    obtain ⟨z, cz, bz, dz⟩ := W.step n (by omega)
    refine ⟨_, rfl, _, rfl, dc, .ref t1, rfl, .inr ⟨kvs, k3 (pt (n + 1)).1 (pt (n + 1)).2 (ss.getD (n + 1) 0), p, .inl hc1, rfl, hp, ht1.symm⟩, ?_⟩
    refine ⟨_, rfl, t1, _, _, _, rfl, rfl, SqT.of ht2, rfl, by show 1 ≤ sizeLine; decide, fun l1 hl1 => ?_⟩
    have s2 := same_new hl1 (.lst [.int (ss.getD n 0 : Nat)])
    have hls2 := s2 _ _ hls
    refine ⟨_, rfl, l1, ls, _, _, rfl, rfl, upd_same, hls2, ?_⟩
    refine ⟨?_, fun l2 hl2 => ?_⟩
    · show 1 + (vset (ss.drop (n + 1))).length ≤ sizeLine
      refine sz_of ?_
      unfold vset
      rw [List.length_map, List.length_drop, lss]
      omega
    have s3 := same_new hl2 (.lst ([.int (ss.getD n 0 : Nat)] ++ vset (ss.drop (n + 1))))
    have s13 := (s1.trans s2).trans s3
    have hS3 := hS.mono s13
    have hT3 : TripAt (upd (upd H' l1 (.lst [.int (ss.getD n 0 : Nat)])) l2 (.lst ([.int (ss.getD n 0 : Nat)] ++ vset (ss.drop (n + 1))))) (.ref t1) (pt n).1 (pt n).2 (ss.getD n 0) := ⟨t1, rfl, s3 _ _ (s2 _ _ ht2)⟩
    obtain ⟨u1, u2, bo, ⟨x, dx, rfl, hx⟩, D1, D2, hB⟩ := id hS3
    refine ⟨_, rfl, x, dx, _, rfl, hx, lk_Sides_both_at, _, rfl, _, _, C, _, _, _, rfl, hS3, hT3, le1, le2, atn.2, fun r H7 s8 hr8 => ?_⟩
    obtain ⟨p8, c1, c2, rfl, hp8, hc1, hc2⟩ := hr8
    refine ⟨p8, _, _, _, rfl, rfl, SqT.of hp8, rfl, c1, _, _, _, rfl, rfl, SqT.of hc1, rfl, _, rfl, _, _, rfl, rfl, ?_⟩
    refine ⟨?_, by omega, s13.trans s8, .ref t1, l2, ?_, hT3.mono s8, ?_⟩
    · refine sz_of ?_
      rw [dz, S_len, S_len, List.length_replicate]
      simp
      omega
    · have e2 : m - n = (m - (n + 1)) + 1 := by omega
      rw [dz, S_cat, e2, List.replicate_succ]
      rfl
    · rw [s8 _ _ upd_same, drop_at atn.1]
      rfl
end
end K98
set_option Elab.async false
set_option linter.all false
set_option maxRecDepth 100000
set_option maxHeartbeats 4000000
/-! how judged goes: levels, masks, how the triples came -/
namespace K98
open PySem PySem.Spec PyProof.Rows L2 SX
/-! ### heaps: tuples stand -/
def TS (H H' : Hp) : Prop := ∀ a xs, H a = some (.tup xs) → H' a = some (.tup xs)
theorem TS.of {H H' : Hp} (s : Same H H') : TS H H' := fun a xs h => s _ _ h
theorem TS.refl (H : Hp) : TS H H := fun _ _ h => h
theorem TS.trans {H H' H'' : Hp} (s : TS H H') (r : TS H' H'') : TS H H'' := fun a xs h => r _ _ (s _ _ h)
theorem TS.dT {H : Hp} {p : Addr} {kvs : List (List L2.Key × V)} (h : H p = some (.dT kvs)) (o : HO) : TS H (upd H p o) := fun a xs e => by
  rw [upd_ne (ne_of e h (fun z => nomatch z))]
  exact e
theorem TS.lst {H : Hp} {p : Addr} {ys : List V} (h : H p = some (.lst ys)) (o : HO) : TS H (upd H p o) := fun a xs e => by
  rw [upd_ne (ne_of e h (fun z => nomatch z))]
  exact e
/-! ### the triples of a level -/
def FreshAt (H : Hp) (xs : List V) (ss : List Nat) (a b : Nat) : Prop := xs.length = ss.length ∧ ∀ (q s : Nat), ss[q]? = some s → ∃ t, xs[q]? = some (V.ref t) ∧ H t = some (.tup [.int a, .int b, .int (s : Nat)])
theorem FreshAt.ts {H H' : Hp} {xs : List V} {ss : List Nat} {a b : Nat} (e : TS H H') (h : FreshAt H xs ss a b) : FreshAt H' xs ss a b := ⟨h.1, fun q s hs => let ⟨t, x, y⟩ := h.2 q s hs; ⟨t, x, e _ _ y⟩⟩
theorem FreshAt.nil {H : Hp} {a b : Nat} : FreshAt H [] [] a b := ⟨rfl, fun q s hs => by simp at hs⟩
theorem FreshAt.snoc {H : Hp} {xs : List V} {ss : List Nat} {a b s : Nat} {t : Addr} (h : FreshAt H xs ss a b) (ht : H t = some (.tup [.int a, .int b, .int (s : Nat)])) : FreshAt H (xs ++ [V.ref t]) (ss ++ [s]) a b := by
  refine ⟨by rw [List.length_append, List.length_append, h.1]; rfl, fun q s' hs => ?_⟩
  by_cases e : q < ss.length
  · rw [List.getElem?_append_left e] at hs
    obtain ⟨t', x, y⟩ := h.2 q s' hs
    exact ⟨t', by rw [List.getElem?_append_left (by rw [h.1]; exact e)]; exact x, y⟩
  · have e2 : q = ss.length := by
      have z := (List.getElem?_eq_some_iff.mp hs).1
      rw [List.length_append] at z
      simp at z
      omega
    subst e2
    rw [List.getElem?_concat_length] at hs
    obtain rfl := Option.some.inj hs
    refine ⟨t, ?_, ht⟩
    rw [← h.1]
    exact List.getElem?_concat_length
theorem FreshAt.at {H : Hp} {xs : List V} {ss : List Nat} {a b q : Nat} {x : V} (h : FreshAt H xs ss a b) (hx : xs[q]? = some x) : ∃ t s, ss[q]? = some s ∧ x = .ref t ∧ H t = some (.tup [.int a, .int b, .int (s : Nat)]) := by
  have hl := (List.getElem?_eq_some_iff.mp hx).1
  rw [h.1] at hl
  obtain ⟨t, h1, h2⟩ := h.2 q ss[q] (List.getElem?_eq_getElem hl)
  rw [h1] at hx
  exact ⟨t, ss[q], List.getElem?_eq_getElem hl, (Option.some.inj hx).symm, h2⟩
/-- the data of triples -/
def dat3 (l : List I3) : List PyData := l.map fun e => .tuple [.int e.1, .int e.2.1, .int e.2.2]
theorem dat3_shaped (l : List I3) : SeqAt.shaped (.list (dat3 l)) = true := by
  have h : PyData.canLayAll0 (dat3 l) = true ∧ PyData.depthAll (dat3 l) ≤ 5 := by
    induction l with
    | nil => exact ⟨rfl, by simp [dat3, PyData.depthAll]⟩
    | cons e l ih =>
      obtain ⟨h1, h2⟩ := ih
      unfold dat3 at h1 h2 ⊢
      refine ⟨?_, ?_⟩
      · rw [List.map_cons]
        simp only [PyData.canLayAll0, PyData.canLay0, Bool.and_eq_true, h1, and_true]
      · rw [List.map_cons]
        simp only [PyData.depthAll, PyData.depth]
        omega
  have e1 : (PyData.list (dat3 l)).canLay0 = true := by
    simp only [PyData.canLay0, h.1]
  have e2 : (PyData.list (dat3 l)).depth ≤ 64 := by
    simp only [PyData.depth]
    omega
  unfold SeqAt.shaped
  rw [e1, decide_eq_true e2]
  rfl
def trip (a b : Nat) (s : Nat) : I3 := ((a : Int), (b : Int), (s : Int))
/-- the data of a level -/
abbrev dat (ss : List Nat) (a b : Nat) : List PyData := dat3 (ss.map (trip a b))
theorem FreshAt.dp {K : PySem.W.Frag} {H : Hp} {a b : Nat} : ∀ {xs : List V} {ss : List Nat}, FreshAt H xs ss a b → DpAll K H xs (dat ss a b)
  | [], [], _ => .nil
  | [], _ :: _, h => by cases h.1
  | _ :: _, [], h => by cases h.1
  | x :: xs, s :: ss, h => by
    obtain ⟨t, h1, h2⟩ := h.2 0 s rfl
    obtain rfl : x = .ref t := Option.some.inj h1
    refine .cons (.tup (SqT.of h2) (.cons (.int _) (.cons (.int _) (.cons (.int _) .nil)))) ?_
    exact FreshAt.dp ⟨Nat.succ.inj h.1, fun q s' hs => h.2 (q + 1) s' hs⟩
/-! ### the masks -/
def fr (M i : Nat) : Nat := if i = 0 then 65535 else M
def rows (M : Nat) (pt : Nat → Nat × Nat) (k : Nat) : List N3 := (0, 0, 65535) :: (List.range k).map fun j => ((pt (j + 1)).1, (pt (j + 1)).2, M)
theorem rows_succ (M : Nat) (pt : Nat → Nat × Nat) (k : Nat) : rows M pt (k + 1) = rows M pt k ++ [((pt (k + 1)).1, (pt (k + 1)).2, M)] := by
  unfold rows
  rw [List.range_succ, List.map_append]
  rfl
theorem rows_len (M : Nat) (pt : Nat → Nat × Nat) (k : Nat) : (rows M pt k).length = k + 1 := by simp [rows]
/-- how two programs are gone through: L levels, the pair of the i-th level, the mask behind the begin -/
structure Plan (C : Cf) (L M : Nat) (pt : Nat → Nat × Nat) (ap : Bool) : Prop where
  mi : M ∈ Msk
  pos : 1 ≤ L
  small : L ≤ 150
  pt0 : pt 0 = (0, 0)
  le : ∀ i, i ≤ L → (pt i).1 ≤ C.n1 ∧ (pt i).2 ≤ C.n2
  inj : ∀ i j, i ≤ L → j ≤ L → pt i = pt j → i = j
  lvl : ∀ i, i < L → ∀ s ∈ setsOf (fr M i), (C.d1 (pt i).1 s).1 = (C.d2 (pt i).2 s).1 ∧ (C.come (pt i).1 (pt i).2 s = none ∨ C.come (pt i).1 (pt i).2 s = some ((pt (i + 1)).1, (pt (i + 1)).2, M))
  mover : ∀ i, i < L → ∃ s ∈ setsOf (fr M i), C.come (pt i).1 (pt i).2 s ≠ none
  last : ap = false → ∀ s ∈ setsOf (fr M L), (C.d1 (pt L).1 s).1 = (C.d2 (pt L).2 s).1 ∧ (C.come (pt L).1 (pt L).2 s = none ∨ C.come (pt L).1 (pt L).2 s = some ((pt 1).1, (pt 1).2, M))
  ne : setsOf (fr M L) ≠ []
  apart : ap = true → M = 65535 ∧ ¬ (C.d1 (pt L).1 0).1 = (C.d2 (pt L).2 0).1
section
variable {C : Cf} {L M : Nat} {pt : Nat → Nat × Nat} {ap : Bool}
theorem rows_keys (W : Plan C L M pt ap) (k : Nat) : (rows M pt k).map (fun e => (e.1, e.2.1)) = (List.range (k + 1)).map pt := by
  induction k with
  | zero =>
    show [((0 : Nat), (0 : Nat))] = [pt 0]
    rw [W.pt0]
  | succ k ih =>
    rw [rows_succ, List.map_append, ih, List.range_succ (n := k + 1), List.map_append]
    rfl
theorem rows_nd (W : Plan C L M pt ap) {k : Nat} (h : k ≤ L) : ((rows M pt k).map fun e => (e.1, e.2.1)).Nodup := by
  rw [rows_keys W]
  refine List.pairwise_map.mpr (List.Pairwise.imp_of_mem (R := (· ≠ ·)) ?_ List.nodup_range)
  intro i j hi hj ne e
  rw [List.mem_range] at hi hj
  exact ne (W.inj i j (by omega) (by omega) e)
theorem rows_new (W : Plan C L M pt ap) {k : Nat} (h : k < L) : ((pt (k + 1)).1, (pt (k + 1)).2) ∉ (rows M pt k).map fun e => (e.1, e.2.1) := by
  rw [rows_keys W]
  intro m
  obtain ⟨j, hj, e⟩ := List.mem_map.mp m
  rw [List.mem_range] at hj
  have := W.inj j (k + 1) (by omega) (by omega) e
  omega
theorem rows_mem {k j : Nat} (h : j < k) : ((pt (j + 1)).1, (pt (j + 1)).2, M) ∈ rows M pt k := List.mem_cons_of_mem _ (List.mem_map.mpr ⟨j, List.mem_range.mpr h, rfl⟩)
theorem putK_enc {tb : List N3} {a b m : Nat} (hn : (tb.map fun e => (e.1, e.2.1)).Nodup) (h : (a, b, m) ∈ tb) : putK (encK tb) (kk a b) (.int (m : Nat)) = encK tb := by
  have hv := encK_some hn h
  unfold putK
  rw [valV_any, hv]
  show (encK tb).map _ = _
  have key : ∀ p ∈ encK tb, (if p.1 = kk a b then (p.1, V.int (m : Nat)) else p) = p := by
    intro p hp
    split
    · rename_i e
      obtain ⟨r, hr, rfl⟩ := List.mem_map.mp hp
      obtain ⟨e1, e2⟩ := kk_inj e
      have hv2 := encK_some hn (show (r.1, r.2.1, r.2.2) ∈ tb from hr)
      rw [e1, e2, hv] at hv2
      have e3 := Option.some.inj hv2
      show (kk r.1 r.2.1, V.int (m : Nat)) = (kk r.1 r.2.1, V.int (r.2.2 : Nat))
      rw [e3]
    · rfl
  exact (List.map_congr_left key).trans (List.map_id _)
/-! ### how the triples came -/
def Step1 (C : Cf) (M : Nat) (pt : Nat → Nat × Nat) (H : Hp) (kvs : List (List L2.Key × V)) (j s : Nat) : Prop := ∃ t s', valV kvs (k3 (pt (j + 1)).1 (pt (j + 1)).2 s) = some (.ref t) ∧ H t = some (.tup [.int (pt j).1, .int (pt j).2, .int (s' : Nat)]) ∧
  s' ∈ setsOf (fr M j) ∧ C.come (pt j).1 (pt j).2 s' = some ((pt (j + 1)).1, (pt (j + 1)).2, M)
structure CameOk (C : Cf) (M : Nat) (pt : Nat → Nat × Nat) (H : Hp) (kvs : List (List L2.Key × V)) (i : Nat) : Prop where
  no : ∀ s, valV kvs (k3 0 0 s) = none
  st : ∀ j, j < i → ∀ s ∈ setsOf M, Step1 C M pt H kvs j s
theorem Step1.ts {H H' : Hp} {kvs : List (List L2.Key × V)} {j s : Nat} (e : TS H H') (h : Step1 C M pt H kvs j s) : Step1 C M pt H' kvs j s := let ⟨t, s', a, b, c⟩ := h; ⟨t, s', a, e _ _ b, c⟩
theorem CameOk.ts {H H' : Hp} {kvs : List (List L2.Key × V)} {i : Nat} (e : TS H H') (h : CameOk C M pt H kvs i) : CameOk C M pt H' kvs i := ⟨h.no, fun j hj s hs => (h.st j hj s hs).ts e⟩
theorem CameOk.nil {H : Hp} : CameOk C M pt H [] 0 := ⟨fun _ => rfl, fun j hj => absurd hj (Nat.not_lt_zero _)⟩
theorem Step1.put {H : Hp} {kvs : List (List L2.Key × V)} {j s i u : Nat} {v : V} (W : Plan C L M pt ap) (hj : j < i) (hi : i < L) (h : Step1 C M pt H kvs j s) : Step1 C M pt H (putK kvs (k3 (pt (i + 1)).1 (pt (i + 1)).2 u) v) j s := by
  obtain ⟨t, s', a, b, c⟩ := h
  refine ⟨t, s', ?_, b, c⟩
  rw [valV_put, if_neg]
  · exact a
  · intro e
    obtain ⟨e1, e2, _⟩ := k3_inj e
    have := W.inj (j + 1) (i + 1) (by omega) (by omega) (Prod.ext e1 e2)
    omega
theorem no_put {kvs : List (List L2.Key × V)} {i u : Nat} {v : V} (W : Plan C L M pt ap) (hi : i < L) (h : ∀ s, valV kvs (k3 0 0 s) = none) : ∀ s, valV (putK kvs (k3 (pt (i + 1)).1 (pt (i + 1)).2 u) v) (k3 0 0 s) = none := by
  intro s
  rw [valV_put, if_neg]
  · exact h s
  · intro e
    obtain ⟨e1, e2, _⟩ := k3_inj e
    have e3 : pt 0 = pt (i + 1) := by
      rw [W.pt0]
      exact Prod.ext e1 e2
    have := W.inj 0 (i + 1) (by omega) (by omega) e3
    omega
theorem getD_lt {ss : List Nat} {j s : Nat} (h : j < ss.length) : (ss ++ [s]).getD j 0 = ss.getD j 0 := by
  rw [List.getD_eq_getElem?_getD, List.getD_eq_getElem?_getD, List.getElem?_append_left h]
theorem getD_end {ss : List Nat} {s n : Nat} (h : ss.length = n) : (ss ++ [s]).getD n 0 = s := by
  rw [← h, List.getD_eq_getElem?_getD, List.getElem?_concat_length]
  rfl
theorem build {H : Hp} {kvs : List (List L2.Key × V)} {i : Nat} (hc : CameOk C M pt H kvs i) : ∀ m, m ≤ i → ∀ s ∈ setsOf (fr M m), ∃ ss : List Nat, ss.length = m + 1 ∧ ss.getD m 0 = s ∧ (∀ x ∈ ss, x < 16) ∧
    ∀ j, j < m → (∃ t, valV kvs (k3 (pt (j + 1)).1 (pt (j + 1)).2 (ss.getD (j + 1) 0)) = some (.ref t) ∧ H t = some (.tup [.int (pt j).1, .int (pt j).2, .int (ss.getD j 0 : Nat)])) ∧
      C.come (pt j).1 (pt j).2 (ss.getD j 0) = some ((pt (j + 1)).1, (pt (j + 1)).2, M) ∧ M.testBit (ss.getD (j + 1) 0) = true
  | 0, _, s, hs => ⟨[s], rfl, rfl, fun x hx => by rw [List.mem_singleton.mp hx]; exact setsOf_lt hs, fun j hj => absurd hj (Nat.not_lt_zero _)⟩
  | m + 1, hm, s, hs => by
    have hs' : s ∈ setsOf M := hs
    obtain ⟨t, s', h1, h2, h3, h4⟩ := hc.st m (by omega) s hs'
    obtain ⟨ss, e1, e2, e3, e4⟩ := build hc m (by omega) s' h3
    refine ⟨ss ++ [s], by rw [List.length_append, e1]; rfl, getD_end e1, fun x hx => ?_, fun j hj => ?_⟩
    · rcases List.mem_append.mp hx with hx | hx
      · exact e3 x hx
      · rw [List.mem_singleton.mp hx]
        exact setsOf_lt hs
    · by_cases e : j = m
      · subst e
        rw [getD_end e1, getD_lt (by omega), e2]
        exact ⟨⟨t, h1, h2⟩, h4, (List.mem_filter.mp hs').2⟩
      · rw [getD_lt (by omega), getD_lt (by omega)]
        exact e4 j (by omega)
/-- the word that tells them apart -/
theorem word_of (W : Plan C L M pt true) {H : Hp} {kvs : List (List L2.Key × V)} (hc : CameOk C M pt H kvs L) : ∃ ss, Word C L ss pt ∧ Came H kvs L ss pt ∧ ss.getD L 0 = 0 := by
  obtain ⟨hM, hne⟩ := W.apart rfl
  have h0 : 0 ∈ setsOf (fr M L) := by
    have e : fr M L = 65535 := by
      unfold fr
      rw [hM]
      split <;> rfl
    rw [e]
    decide +kernel
  obtain ⟨ss, e1, e2, e3, e4⟩ := build hc L (Nat.le_refl L) 0 h0
  have hs := W.small
  refine ⟨ss, ⟨e1, e3, by omega, W.pt0, W.le, fun i hi => ?_, by rw [e2]; exact hne⟩, ⟨hc.no, fun i hi => (e4 i hi).1⟩, e2⟩
  obtain ⟨_, h2, h3⟩ := e4 i hi
  refine ⟨M, h2, h3, ?_⟩
  have h4 := h2
  unfold Cf.come at h4
  split at h4
  · cases h4
  · rename_i hn
    rw [not_or] at hn
    exact dr_pos hn.1
end
end K98
set_option Elab.async false
set_option linter.all false
set_option maxRecDepth 100000
set_option maxHeartbeats 4000000
/-! judged -/
namespace K98
open PySem PySem.Spec PyProof.Rows L2 SX
section
variable {P : Program} {w : World} {K : PySem.W.Frag} {mg : Str → Option Value} {base : Heap}
theorem keepL {H : Hp} {p ls : Addr} {xs : List V} {k : List (List L2.Key × V)} {o : HO} (h : H ls = some (.lst xs)) (hp : H p = some (.dT k)) : upd H p o ls = some (.lst xs) := by
  rw [upd_ne (ne_of h hp (fun z => nomatch z))]
  exact h
theorem keepD {H : Hp} {p d : Addr} {xs : List V} {k : List (List L2.Key × V)} {o : HO} (h : H d = some (.dT k)) (hp : H p = some (.lst xs)) : upd H p o d = some (.dT k) := by
  rw [upd_ne (ne_of h hp (fun z => nomatch z))]
  exact h
theorem ne_list {ss : List Nat} {a b : Nat} (h : ss ≠ []) : PyData.eqv (.list (dat ss a b)) (.list []) = false := by
  cases ss with
  | nil => exact absurd rfl h
  | cons s ss => rfl
def Verd (K : PySem.W.Frag) (H : Hp) (r : V) (C : Cf) (L M : Nat) (pt : Nat → Nat × Nat) : Bool → Prop
  | true => ∃ ss, Word C L ss pt ∧ ApartAt K H r ss (List.replicate L (80 + C.i)) ∧ ss.getD L 0 = 0
  | false => ∃ bs, AlikeAt K H r bs ∧ bs.map (·.2) = ((rows M pt L).map i3).mergeSort le3
def spJudged (K : PySem.W.Frag) : Sp := fun vs H Q _ => ∃ (v1 v2 v3 : V) (C : Cf) (L M : Nat) (pt : Nat → Nat × Nat) (ap : Bool), vs = [v1, v2, v3] ∧ C.i < 5 ∧ RoundAt K H v1 C.n1 C.i C.h ∧ RoundAt K H v2 C.n2 C.i C.h ∧ SayAt K H v3 C.y ∧
  Plan C L M pt ap ∧ ∀ r H', Same H H' → Verd K H' r C L M pt ap → Q r H'
theorem head0 : ∀ s, (setsOf 65535)[0]? = some s → s = 0 := by
  intro s h
  have e : (setsOf 65535)[0]? = some 0 := by decide +kernel
  rw [e] at h
  exact (Option.some.inj h).symm
theorem msk_go {m : Nat} (h : m ∈ Msk) : m &&& (65535 - 0) = m ∧ m &&& (65535 - m) = 0 ∧ m ||| m = m ∧ 0 ||| m = m := by
  have z : ∀ m ∈ Msk, m &&& (65535 - 0) = m ∧ m &&& (65535 - m) = 0 ∧ m ||| m = m ∧ 0 ||| m = m := by decide +kernel
  exact z m h
theorem sets0 : setsOf 0 = [] := by decide +kernel
theorem vset_get {m q : Nat} {x : V} (h : (vset (setsOf m))[q]? = some x) : ∃ s, (setsOf m)[q]? = some s ∧ x = .int (s : Nat) := by
  unfold vset at h
  rw [List.getElem?_map] at h
  cases hs : (setsOf m)[q]? with
  | none => rw [hs] at h; cases h
  | some s => rw [hs] at h; exact ⟨s, rfl, (Option.some.inj h).symm⟩
theorem TS.frz {H : Hp} {p : Addr} {od : Obj} {u : HO} (h : H p = some (.frz od u)) (o : HO) : TS H (upd H p o) := fun a xs e => by
  rw [upd_ne (ne_of e h (fun z => nomatch z))]
  exact e
theorem Trips.ts {H H' : Hp} {bs : List (Addr × I3)} (s : TS H H') (h : Trips H bs) : Trips H' bs := fun b m => s _ _ (h b m)
theorem sort3_trips {H : Hp} {bs : List (Addr × I3)} (h : Trips H bs) : Trips H (sort3 bs) := fun b m => h b ((List.mergeSort_perm bs _).mem_iff.mp m)
theorem sort3_map (bs : List (Addr × I3)) : (sort3 bs).map (·.2) = (bs.map (·.2)).mergeSort le3 := by
  unfold sort3
  exact List.map_mergeSort fun a _ b _ => rfl
abbrev sg16 (v1 v2 v3 : V) (x1 dm dc ls : Addr) (w6 w8 w9 w10 w11 w12 w13 w14 : Option V) : L2.St :=
  [some v1, some v2, some v3, some (.ref x1), some (.ref dm), some (.ref dc), w6, some (.ref ls), w8, w9, w10, w11, w12, w13, w14, none]
def JW (C : Cf) (L M : Nat) (pt : Nat → Nat × Nat) (ap : Bool) (v1 v2 v3 : V) (x1 dm dc : Addr) (H1 : Hp) (n : Nat) (σ : L2.St) (H' : Hp) : Prop :=
  ∃ ls w6 w8 w9 w10 w11 w12 w13 w14, σ = sg16 v1 v2 v3 x1 dm dc ls w6 w8 w9 w10 w11 w12 w13 w14 ∧ Same H1 H' ∧
    ((∃ i xs ck, i ≤ L ∧ n = L + 1 - i ∧ H' ls = some (.lst xs) ∧ FreshAt H' xs (setsOf (fr M i)) (pt i).1 (pt i).2 ∧ H' dm = some (.dT (encK (rows M pt i))) ∧ H' dc = some (.dT ck) ∧ ck.length ≤ 16 * i ∧ CameOk C M pt H' ck i) ∨
     (n = 0 ∧ ap = false ∧ H' ls = some (.lst []) ∧ H' dm = some (.dT (encK (rows M pt L)))))
def JF (C : Cf) (L M : Nat) (pt : Nat → Nat × Nat) (ap : Bool) (v1 v2 v3 : V) (x1 dm dc : Addr) (H1 : Hp) (i : Nat) (ls cl : Addr) (xs : List V) (q : Nat) (σ : L2.St) (H' : Hp) : Prop :=
  ∃ (b : Bool) (cs : List V) (ck : List (List L2.Key × V)) (w6 w9 w10 w11 w12 w13 w14 : Option V), σ = sg16 v1 v2 v3 x1 dm dc ls w6 (some (.ref cl)) w9 w10 w11 w12 w13 w14 ∧ Same H1 H' ∧ H' ls = some (.lst xs) ∧ FreshAt H' xs (setsOf (fr M i)) (pt i).1 (pt i).2 ∧
    H' dm = some (.dT (encK (rows M pt (cond b (i + 1) i)))) ∧ H' dc = some (.dT ck) ∧ ck.length ≤ 16 * cond b (i + 1) i ∧ CameOk C M pt H' ck (cond b (i + 1) i) ∧ H' cl = some (.lst cs) ∧
    (b = true → i < L ∧ FreshAt H' cs (setsOf M) (pt (i + 1)).1 (pt (i + 1)).2) ∧ (b = false → cs = [] ∧ (i < L → ∀ q', q' < q → ∀ s, (setsOf (fr M i))[q']? = some s → C.come (pt i).1 (pt i).2 s = none)) ∧ (ap = true → i = L → q = 0)
theorem dput_to {H : Hp} {a b : Addr} {kvs kvs' : List (List L2.Key × V)} {k : List L2.Key} {v : V} (e : H a = some (.dT kvs)) (eb : H b = some (.tup (k.map kV))) (hl : kvs.length < sizeLine) (ep : putK kvs k v = kvs') : DPut H a (.ref b) v (upd H a (.dT kvs')) := by
  rw [← ep]
  exact DPut.t e eb hl
theorem sc_judged : FnScope ["one", "other", "sayings", "sides", "masks", "came", "setting", "fresh", "coming", "triple", "doors", "behind", "pair", "ways", "seen", "mask"] ["one", "other", "sayings"] (defScope st_judged) := ⟨rfl, rfl, rfl, by decide +kernel, rfl, by decide +kernel, by decide +kernel⟩
theorem c_judged (t : T K mg) : C8.Cal P w K mg base 23 "judged" (spJudged K) [] := by
  refine cal_of (k := 22) t.d_judged t.g_judged sc_judged (fun vs H Q E h => ?_) (fun fd cdv A outer s H vs Q E hr h => ?_)
  · obtain ⟨v1, v2, v3, C, L, M, pt, ap, rfl, _⟩ := h
    rfl
  obtain ⟨v1, v2, v3, C, L, M, pt, ap, rfl, hi5, hR1, hR2, hY, W, q⟩ := h
  obtain ⟨tE, hE⟩ := t.i_EVERY
  have nd := sc_judged.nd
  have huu := hu_of hr
  refine ⟨_, pss_cons (ps_set (i := 3) nd rfl (.inl rfl) (C8.pe_mk (k_Sides t) hr (by omega) rfl (pa_cons (pv 0) (pa_cons (pv 1) (pa_cons (pv 2) pa_nil)))))
    (pss_cons (ps_set (i := 4) nd rfl (.inl rfl) (pe_dispT huu (pe_tup (pa_cons pe_int (pa_cons pe_int pa_nil))) (pe_fld (pv 3) rfl)))
    (pss_cons (ps_set (i := 5) nd rfl (.inl rfl) pe_dnewT)
    (pss_cons (ps_setLc (i := 7) (own := [("setting", 6)]) (g := gName 6) (tt := tYes) (by rfl) nd rfl rfl (sw_true rfl rfl rfl (by decide +kernel)) (pi_list (C8.pe_c (c_settings_of t) hr (by omega) rfl (pa_cons (pe_fld (pv 3) rfl) pa_nil)))
        (blkOk_by (own := [("setting", 6)]) (N := ["one", "other", "sayings", "sides", "masks", "came", "setting", "fresh", "coming", "triple", "doors", "behind", "pair", "ways", "seen", "mask"]) (sc := defScope st_judged) (by decide +kernel))
        (fun _ _ _ _ _ => pg_name (i := 6) nd rfl (Or.inl rfl)) (fun _ _ _ _ _ => pts_nil) (fun _ _ _ _ _ => pe_tup (pa_cons pe_int (pa_cons pe_int (pa_cons (pv 6) pa_nil)))))
    (pss_cons (ps_while PassesOwn.never (pt_cmpR (op_neD hr.units) (pv 7) (pe_lst pa_nil) (nomark _))
      (pss_cons (ps_set (i := 8) nd rfl (.inl rfl) (pe_lst pa_nil))
      (pss_cons (ps_for PassesOwn.never rfl (pi_list (pv 7)) (pg_name (i := 9) nd rfl (.inl rfl))
        (pss_cons (ps_set (i := 10) nd rfl (.inl rfl) (C8.pe_mt (m_both t) hr (by omega) (pv 3) (pa_cons (pv 9) pa_nil)))
        (pss_cons (ps_if (pt_cmpR op_ne (pe_ix ix_tup (pe_ix ix_tup (pv 10) pe_int (fun _ _ => rfl)) pe_int (fun _ _ => rfl)) (pe_ix ix_tup (pe_ix ix_tup (pv 10) pe_int (fun _ _ => rfl)) pe_int (fun _ _ => rfl)) (nomark _))
          (pss_one (ps_ret (C8.pe_c (c_word_to t) hr (by omega) rfl (pa_cons (pv 3) (pa_cons (pv 5) (pa_cons (pv 9) pa_nil)))))) pss_nil)
        (pss_cons (ps_set (i := 11) nd rfl (.inl rfl) (C8.pe_mt (m_come t) hr (by omega) (pv 3) (pa_cons (pv 9) pa_nil)))
        (pss_one (ps_if (pt_cmp (pc_notN (pv 11)))
          (pss_cons (ps_asg (pv 11) (pg_tup (by rfl) (pgs_cons (pg_name (i := 12) nd rfl (.inl rfl)) (pgs_cons (pg_name (i := 13) nd rfl (.inl rfl)) pgs_nil))))
          (pss_cons (ps_set (i := 14) nd rfl (.inl rfl) (pe_dget2 huu (pv 4) (pv 12) pe_int ⟨rfl, rfl, rfl, rfl⟩))
          (pss_cons (ps_dput huu (pv 4) (pv 12) (pe_op op_or (pv 14) (pv 13)) rfl)
          (pss_one (ps_for PassesOwn.never rfl (pi_list (C8.pe_c (c_settings_of t) hr (by omega) rfl (pa_cons (pe_op op_and (pv 13) (pe_op op_xor (pe_glob rfl hE (rel_int _ _)) (pv 14))) pa_nil))) (pg_name (i := 6) nd rfl (.inl rfl))
            (pss_cons (ps_expr (pe_bm PySem.F.plainAttrs_list PySem.F.slot_list_append PySem.F.type_list_append mt_append (pv 8) (pa_cons (pe_tup (pa_cons (pe_ix ix_tup (pv 12) pe_int (fun _ _ => rfl)) (pa_cons (pe_ix ix_tup (pv 12) pe_int (fun _ _ => rfl)) (pa_cons (pv 6) pa_nil)))) pa_nil)))
            (pss_one (ps_dput huu (pv 5) (pe_tup (pa_cons (pe_ix ix_tup (pv 12) pe_int (fun _ _ => rfl)) (pa_cons (pe_ix ix_tup (pv 12) pe_int (fun _ _ => rfl)) (pa_cons (pv 6) pa_nil)))) (pv 9) rfl)))))))) pss_nil))))))
      (pss_one (ps_set (i := 7) nd rfl (.inl rfl) (pv 8))))))
    (pss_one (ps_ret (C8.pe_mk (k_Alike t) hr (by omega) rfl (pa_cons (pe_callB (cr_sort3 hr.units) rfl t.f_sorted (by decide +kernel) (pa_cons
      (pe_lock (pe_lc (own := [("pair", 12), ("mask", 15)]) (g := gTup K 2 (gCons (gName 12) (gCons (gName 15) gNil))) (tt := tYes) (te := tTup (tCons (tOp (rIxT K) (tVar 12) (tC (.int 0))) (tCons (tOp (rIxT K) (tVar 12) (tC (.int 1))) (tCons (tVar 15) tNil)))) (by rfl) nd (pi_itemsT (pv 4))
        (blkOk_by (own := [("pair", 12), ("mask", 15)]) (N := ["one", "other", "sayings", "sides", "masks", "came", "setting", "fresh", "coming", "triple", "doors", "behind", "pair", "ways", "seen", "mask"]) (sc := defScope st_judged) (by decide +kernel))
        (fun _ _ _ _ _ => pg_tup (by rfl) (pgs_cons (pg_name (i := 12) nd rfl (.inl rfl)) (pgs_cons (pg_name (i := 15) nd rfl (.inl rfl)) pgs_nil))) (fun _ _ _ _ _ => pts_nil)
        (fun _ _ _ _ _ => pe_tup (pa_cons (pe_ix ix_tup (pv 12) pe_int (fun _ _ => rfl)) (pa_cons (pe_ix ix_tup (pv 12) pe_int (fun _ _ => rfl)) (pa_cons (pv 15) pa_nil)))))) pa_nil)) pa_nil)))))))), ?_⟩
  refine ⟨_, rfl, _, rfl, _, rfl, fun x1 d1 hx1 hd1 ne1 => ⟨x1, d1, v1, v2, v3, H, C, rfl, upd_same, same_new2 hx1 hd1 _ _, hx1, hR1, hR2, hY, fun H1 s1 hS => ⟨rfl, ?_⟩⟩⟩
  obtain ⟨u1, u2, bo, ⟨x, dx, ex, hx⟩, D1, D2, hB⟩ := id hS
  cases ex
  -- masks
  refine fun dm hdm => ⟨by show 2 ≤ sizeLine; decide, fun z0 hz0 => ?_⟩
  have sm := same_new hdm (.dT [])
  have sz0 := same_new hz0 (.tup [.int 0, .int 0])
  have hxa := sz0 _ _ (sm _ _ hx)
  refine ⟨_, rfl, x1, _, dx, _, _, rfl, hxa, t.c_Sides, t.n_Sides_begin, lk_Sides_begin, z0, kk 0 0, rfl, sz0 _ _ upd_same, upd_same, ?_⟩
  have e0 : putK ([] : List (List L2.Key × V)) (kk 0 0) (.int 65535) = encK (rows M pt 0) := rfl
  rw [e0]
  have sa : Same H1 (upd (upd (upd H1 dm (.dT [])) z0 (.tup [.int 0, .int 0])) dm (.dT (encK (rows M pt 0)))) := same_mut (sm.trans sz0) hdm _
  have hma : (upd (upd (upd H1 dm (.dT [])) z0 (.tup [.int 0, .int 0])) dm (.dT (encK (rows M pt 0)))) dm = some (.dT (encK (rows M pt 0))) := upd_same
  generalize (upd (upd (upd H1 dm (.dT [])) z0 (.tup [.int 0, .int 0])) dm (.dT (encK (rows M pt 0)))) = Ha at sa hma ⊢
  refine fun dc hdc => ?_
  have ndc : dm ≠ dc := ne_of_none hma hdc
  have G1c : H1 dc = none := none_back sa hdc
  have sb := sa.trans (same_new hdc (.dT []))
  have hmb : (upd Ha dc (.dT [])) dm = some (.dT (encK (rows M pt 0))) := by
    rw [upd_ne ndc]
    exact hma
  have hcb : (upd Ha dc (.dT [])) dc = some (.dT []) := upd_same
  generalize upd Ha dc (.dT []) = Hb at sb hmb hcb ⊢
  have hxb := sb _ _ hx
  refine ⟨_, rfl, x1, _, dx, _, _, rfl, hxb, t.c_Sides, t.n_Sides_begin, lk_Sides_begin, 65535, rfl, fun sl H3 s3 _ hsl => ⟨sl, rfl, ⟨_, SqL.of hsl⟩, fun D hD => ?_⟩⟩
  refine lc_list (xs := vset (setsOf 65535)) (fun k H' => Same H3 H' ∧ ∃ acc, H' D = some (.lst acc) ∧ FreshAt H' acc ((setsOf 65535).take k) 0 0) ⟨same_new hD _, [], upd_same, FreshAt.nil⟩ (fun k H' _ p => SqL.of (p.1 _ _ hsl)) ?_ ?_
  · rintro k z H' hk ⟨s4, acc, hacc, hF⟩
    obtain ⟨s', hs', rfl⟩ := vset_get hk
    refine ⟨rfl, tYes_to ?_⟩
    refine iteT ?_
    refine ⟨_, rfl, by show 3 ≤ sizeLine; decide, fun tq htq => ?_⟩
    have s5 := same_new htq (.tup [.int 0, .int 0, .int (s' : Nat)])
    have hac5 := s5 _ _ hacc
    refine ⟨acc, hac5, ?_, same_mut (s4.trans s5) hD _, _, upd_same, ?_⟩
    · rw [hF.1, List.length_take]
      exact Nat.lt_of_le_of_lt (Nat.le_trans (Nat.min_le_right _ _) (setsOf_len _)) (by decide)
    · have ts := (TS.of s5).trans (TS.lst hac5 (.lst (acc ++ [V.ref tq])))
      rw [List.take_add_one, hs']
      exact (hF.ts ts).snoc ((TS.lst hac5 _) _ _ upd_same)
  rintro H4 ⟨s4, acc, hacc, hF⟩
  rw [show (vset (setsOf 65535)).length = (setsOf 65535).length from List.length_map _, List.take_length] at hF
  have s14 := (sb.trans s3).trans s4
  have hm4 := s4 _ _ (s3 _ _ hmb)
  have hc4 := s4 _ _ (s3 _ _ hcb)
  clear sm sz0 hxa sa hma hmb hcb hxb s3 hsl hdc
  refine ⟨JW C L M pt ap v1 v2 v3 x1 dm dc H1, ⟨L + 1, D, none, none, none, none, none, none, none, none, rfl, s14, .inl ⟨0, acc, [], Nat.zero_le _, rfl, hacc, ?_, hm4, hc4, Nat.zero_le _, CameOk.nil⟩⟩, ?_⟩
  · rw [W.pt0]
    exact hF
  clear s14 hm4 hc4 hacc hF s4
  rintro n σ H' ⟨ls, w6, w8, w9, w10, w11, w12, w13, w14, rfl, sH, hcase⟩
  refine ⟨_, rfl, Nat.zero_le _, fun ea hea => ?_⟩
  have sE := same_new hea (.lst [])
  have hEa : (upd H' ea (.lst [])) ea = some (.lst []) := upd_same
  generalize upd H' ea (.lst []) = He at sE hEa ⊢
  have s1E := sH.trans sE
  rcases hcase with ⟨i, xs, ck, hi, hn, hls, hFr, hdmE, hdcE, hckl, hCa⟩ | ⟨hn, hap, hls, hdmE⟩
  · replace hls := sE _ _ hls
    replace hFr := hFr.ts (TS.of sE)
    replace hdmE := sE _ _ hdmE
    replace hdcE := sE _ _ hdcE
    replace hCa := hCa.ts (TS.of sE)
    have hne : setsOf (fr M i) ≠ [] := by
      by_cases e : i < L
      · obtain ⟨s0, h0, _⟩ := W.mover i e
        exact fun z => by rw [z] at h0; cases h0
      · obtain rfl : i = L := by omega
        exact W.ne
    refine ⟨.list (dat (setsOf (fr M i)) (pt i).1 (pt i).2), .list [], .lst (SqL.of hls) hFr.dp, .lst (SqL.of hEa) .nil, dat3_shaped _, rfl, _, rfl, ?_⟩
    rw [ne_list hne]
    refine iteT ⟨fun σ' H2 => ∃ m', m' < n ∧ JW C L M pt ap v1 v2 v3 x1 dm dc H1 m' σ' H2, fun _ _ z => z, ?_⟩
    -- coming = []
    refine ⟨Nat.zero_le _, fun cl hcl => ?_⟩
    have sC := same_new hcl (.lst [])
    have H1cl : H1 cl = none := none_back s1E hcl
    have ncl : ls ≠ cl := ne_of_none hls hcl
    have h1m : H1 dm = none := hdm
    refine ⟨_, rfl, ls, rfl, ⟨_, SqL.of (sC _ _ hls)⟩, ?_⟩
    refine for_list (xs := xs) (JF C L M pt ap v1 v2 v3 x1 dm dc H1 i ls cl xs)
      ⟨false, [], ck, _, _, _, _, _, _, _, rfl, s1E.trans sC, sC _ _ hls, hFr.ts (TS.of sC), sC _ _ hdmE, sC _ _ hdcE, hckl, hCa.ts (TS.of sC), upd_same, (fun z => nomatch z), fun _ => ⟨rfl, fun _ q' hq' => absurd hq' (Nat.not_lt_zero _)⟩, fun _ _ => rfl⟩
      (fun k σ H2 _ p => by obtain ⟨b, cs, ck, _, _, _, _, _, _, _, _, _, h, _⟩ := p; exact SqL.of h) ?_ ?_
    · clear hFr hdmE hdcE hCa hls hckl sC hcl sE hEa s1E hea
      rintro q' z σ H' hq' ⟨b, cs, ck, w6, w9, w10, w11, w12, w13, w14, rfl, sH, hls, hFr, hdmE, hdcE, hckl, hCa, hcl, hbt, hbf, hap⟩
      obtain ⟨tr, s', hs', rfl, htr⟩ := hFr.at hq'
      have hsm := List.mem_of_getElem? hs'
      have hsm' := hsm
      have s16 := setsOf_lt hsm
      obtain ⟨le1, le2⟩ := W.le i hi
      have hS1 := hS.mono sH
      refine ⟨_, rfl, x1, dx, _, rfl, sH _ _ hx, lk_Sides_both_at, _, rfl, _, _, C, _, _, _, rfl, hS1, ⟨tr, rfl, htr⟩, le1, le2, s16, fun r H2 s2 hr2 => ?_⟩
      obtain ⟨p, c1, c2, rfl, hp, hc1, hc2⟩ := hr2
      refine ⟨_, rfl, p, _, _, _, rfl, rfl, SqT.of hp, rfl, c1, _, _, _, rfl, rfl, SqT.of hc1, rfl, _, rfl, p, _, _, _, rfl, rfl, SqT.of hp, rfl, c2, _, _, _, rfl, rfl, SqT.of hc2, rfl, rfl, _, rfl, ?_⟩
      by_cases hA : ap = true ∧ i = L
      · obtain ⟨hA1, rfl⟩ := hA
        subst hA1
        have hq0 := hap rfl rfl
        subst hq0
        obtain ⟨hM, hne⟩ := W.apart rfl
        have hb : b = false := by
          cases b with
          | false => rfl
          | true => exact absurd (hbt rfl).1 (Nat.lt_irrefl _)
        subst hb
        have hs0 : s' = 0 := by
          have e : fr M i = 65535 := by
            unfold fr
            rw [hM]
            split <;> rfl
          rw [e] at hs'
          exact head0 _ hs'
        subst hs0
        refine iteNT (fun z => hne (V.str.inj z)) ?_
        obtain ⟨ss, hW, hCm, hlast⟩ := word_of W hCa
        refine ⟨_, rfl, _, rfl, _, rfl, .ref x1, .ref tr, dc, C, i, ss, pt, ck, rfl, hi5, hS1.mono s2, s2 _ _ hdcE, hCm.mono s2, hW, ⟨tr, rfl, ?_⟩, fun r H3 s3 hr3 => ?_⟩
        · rw [hlast]
          exact s2 _ _ htr
        · exact q r H3 (((s1.trans sH).trans s2).trans s3) ⟨ss, hW, hr3, hlast⟩
      have hsame : (C.d1 (pt i).1 s').1 = (C.d2 (pt i).2 s').1 ∧ (C.come (pt i).1 (pt i).2 s' = none ∨ ((i < L ∧ C.come (pt i).1 (pt i).2 s' = some ((pt (i + 1)).1, (pt (i + 1)).2, M)) ∨ (i = L ∧ C.come (pt i).1 (pt i).2 s' = some ((pt 1).1, (pt 1).2, M)))) := by
        by_cases e : i < L
        · obtain ⟨z1, z2⟩ := W.lvl i e s' hsm
          exact ⟨z1, z2.imp id fun z => .inl ⟨e, z⟩⟩
        · obtain rfl : i = L := by omega
          have hapf : ap = false := by
            cases ap with
            | false => rfl
            | true => exact absurd ⟨rfl, rfl⟩ hA
          obtain ⟨z1, z2⟩ := W.last hapf s' hsm
          exact ⟨z1, z2.imp id fun z => .inr ⟨rfl, z⟩⟩
      have hapn : ap = true → i = L → q' + 1 = 0 := fun z1 z2 => absurd ⟨z1, z2⟩ hA
      obtain ⟨hd, hcome⟩ := hsame
      refine iteNS (by rw [hd]) ?_
      refine ⟨_, rfl, x1, dx, _, rfl, s2 _ _ (sH _ _ hx), lk_Sides_come_behind, _, rfl, _, _, C, _, _, _, rfl, hi5, hS1.mono s2, ⟨tr, rfl, s2 _ _ htr⟩, le1, le2, s16, fun r H3 s3 hr3 => ?_⟩
      have s23 := s2.trans s3
      replace sH := sH.trans s23
      replace hls := s23 _ _ hls
      replace hFr := hFr.ts (TS.of s23)
      replace hdmE := s23 _ _ hdmE
      replace hdcE := s23 _ _ hdcE
      replace hCa := hCa.ts (TS.of s23)
      replace hcl := s23 _ _ hcl
      replace htr := s23 _ _ htr
      replace hbt : b = true → i < L ∧ FreshAt H3 cs (setsOf M) (pt (i + 1)).1 (pt (i + 1)).2 := fun z => ⟨(hbt z).1, (hbt z).2.ts (TS.of s23)⟩
      refine ⟨_, rfl, ?_⟩
      rcases hcome with hcome | hmove
      · rw [hcome] at hr3
        obtain rfl : r = .non := hr3
        refine ⟨_, rfl, ?_⟩
        refine iteF ?_
        refine ⟨b, cs, ck, _, _, _, _, _, _, _, rfl, sH, hls, hFr, hdmE, hdcE, hckl, hCa, hcl, hbt, fun z => ⟨(hbf z).1, fun hl k hk s0 hs0 => ?_⟩, hapn⟩
        by_cases e : k = q'
        · subst e
          rw [hs'] at hs0
          obtain rfl := Option.some.inj hs0
          exact hcome
        · exact (hbf z).2 hl k (by omega) s0 hs0
      · -- a mover
        have hmv : ∃ a' b', C.come (pt i).1 (pt i).2 s' = some (a', b', M) ∧ ((b = false ∧ i < L ∧ a' = (pt (i + 1)).1 ∧ b' = (pt (i + 1)).2) ∨ (a', b', M) ∈ rows M pt (cond b (i + 1) i)) := by
          rcases hmove with ⟨e, z⟩ | ⟨e, z⟩
          · refine ⟨_, _, z, ?_⟩
            cases b with
            | false => exact .inl ⟨rfl, e, rfl, rfl⟩
            | true => exact .inr (rows_mem (Nat.lt_succ_self i))
          · refine ⟨_, _, z, .inr ?_⟩
            have hb : b = false := by
              cases b with
              | false => rfl
              | true => exact absurd (hbt rfl).1 (by omega)
            rw [hb]
            exact rows_mem (j := 0) (by have := W.pos; show 0 < i; omega)
        obtain ⟨a', b', hz, hmv⟩ := hmv
        rw [hz] at hr3
        obtain ⟨pp, pe, rfl, hpp, hpe⟩ := hr3
        refine ⟨_, rfl, ?_⟩
        refine iteT ?_
        have mg := msk_go W.mi
        have rlen : ∀ k, k ≤ i + 1 → (encK (rows M pt k)).length < sizeLine := fun k hk => by
          rw [encK_len, rows_len]
          have := W.small
          exact Nat.lt_of_le_of_lt (show k + 1 ≤ 1000 by omega) (by decide)
        refine ⟨_, rfl, pp, _, rfl, SqT.of hpp, rfl, _, _, rfl, _, _, rfl, rfl, ?_⟩
        rcases hmv with ⟨rfl, hiL, rfl, rfl⟩ | hmem
        · have ep : putK (encK (rows M pt i)) (kk (pt (i + 1)).1 (pt (i + 1)).2) (V.int (Builtin.bitOr ((0 : Nat) : Int) (M : Nat))) = encK (rows M pt (i + 1)) := by
            rw [putK_new _ (encK_none (rows_new W hiL)), or_nat, mg.2.2.2, rows_succ, encK_snoc]
          replace hdmE : H3 dm = some (.dT (encK (rows M pt i))) := hdmE
          replace hckl : ck.length ≤ 16 * i := hckl
          replace hCa : CameOk C M pt H3 ck i := hCa
          obtain ⟨rfl, _⟩ := hbf rfl
          refine ⟨_, rfl, dm, rfl, .inr ⟨_, .inl hdmE⟩, _, rfl, none, .inr ⟨_, kk (pt (i + 1)).1 (pt (i + 1)).2, pe, .inl hdmE, rfl, hpe, (encK_none (rows_new W hiL)).symm⟩, ?_⟩
          refine ⟨_, rfl, _, rfl, _, _, rfl, rfl, _, rfl, _, rfl, dm, upd H3 dm (.dT (encK (rows M pt (i + 1)))), rfl, dput_to (k := kk (pt (i + 1)).1 (pt (i + 1)).2) hdmE hpe (rlen _ (by omega)) ep, ?_⟩
          have ts := TS.dT hdmE (.dT (encK (rows M pt (i + 1))))
          replace sH : Same H1 (upd H3 dm (.dT (encK (rows M pt (i + 1))))) := same_mut sH h1m _
          replace hls := keepL (o := .dT (encK (rows M pt (i + 1)))) hls hdmE
          replace hcl := keepL (o := .dT (encK (rows M pt (i + 1)))) hcl hdmE
          replace hFr := hFr.ts ts
          replace hdcE : (upd H3 dm (.dT (encK (rows M pt (i + 1))))) dc = some (.dT ck) := by
            rw [upd_ne ndc.symm]
            exact hdcE
          replace hCa := hCa.ts ts
          replace htr := ts _ _ htr
          replace hpe := ts _ _ hpe
          replace hdmE : (upd H3 dm (.dT (encK (rows M pt (i + 1))))) dm = some (.dT (encK (rows M pt (i + 1)))) := upd_same
          generalize upd H3 dm (.dT (encK (rows M pt (i + 1)))) = H4 at sH hls hcl hFr hdcE hCa htr hpe hdmE ⊢
          have e1 : Builtin.bitAnd (M : Nat) (Builtin.bitXor 65535 ((0 : Nat) : Int)) = ((M : Nat) : Int) := by
            rw [xor_msk (by decide), and_nat, mg.1]
          refine ⟨_, rfl, _, rfl, _, _, rfl, rfl, _, _, rfl, rfl, M, congrArg (fun z => [V.int z]) e1, fun sl H5 s5 hsl0 hsl => ⟨sl, rfl, ⟨_, SqL.of hsl⟩, ?_⟩⟩
          have nsl : sl ≠ cl := (ne_of_none hcl hsl0).symm
          refine for_list (xs := vset (setsOf M)) (fun u σ H' => ∃ cs ck w6 w10 w11 w13 w14, σ = sg16 v1 v2 v3 x1 dm dc ls w6 (some (.ref cl)) (some (.ref tr)) w10 w11 (some (.ref pe)) w13 w14 ∧ Same H1 H' ∧ H' ls = some (.lst xs) ∧ FreshAt H' xs (setsOf (fr M i)) (pt i).1 (pt i).2 ∧
              H' dm = some (.dT (encK (rows M pt (i + 1)))) ∧ H' dc = some (.dT ck) ∧ ck.length ≤ 16 * i + u ∧ CameOk C M pt H' ck i ∧ (∀ s0 ∈ (setsOf M).take u, Step1 C M pt H' ck i s0) ∧ H' cl = some (.lst cs) ∧ FreshAt H' cs ((setsOf M).take u) (pt (i + 1)).1 (pt (i + 1)).2 ∧
              H' tr = some (.tup [.int (pt i).1, .int (pt i).2, .int (s' : Nat)]) ∧ H' pe = some (.tup [.int (pt (i + 1)).1, .int (pt (i + 1)).2]) ∧ H' sl = some (.lst (vset (setsOf M))))
            ⟨[], ck, _, _, _, _, _, rfl, sH.trans s5, s5 _ _ hls, hFr.ts (TS.of s5), s5 _ _ hdmE, s5 _ _ hdcE, hckl, hCa.ts (TS.of s5), (fun s0 h0 => by rw [List.take_zero] at h0; cases h0), s5 _ _ hcl, FreshAt.nil, s5 _ _ htr, s5 _ _ hpe, hsl⟩
            (fun u σ H' _ p => by obtain ⟨_, _, _, _, _, _, _, _, _, _, _, _, _, _, _, _, _, _, _, _, h⟩ := p; exact SqL.of h) ?_ ?_
          · clear hls hFr hdmE hdcE hckl hCa hcl htr hpe hsl hsl0 sH s5
            rintro u z σ H6 hu ⟨cs, ck, w6, w10, w11, w13, w14, rfl, sH, hls, hFr, hdmE, hdcE, hckl, hCa, hst, hcl, hFc, htr, hpe, hsl⟩
            obtain ⟨s0, hs0, rfl⟩ := vset_get hu
            have hul : u < 16 := Nat.lt_of_lt_of_le (List.getElem?_eq_some_iff.mp hs0).1 (setsOf_len M)
            refine ⟨_, rfl, .inl ⟨rfl, _, SqL.of hcl⟩, _, rfl, pe, _, _, _, rfl, rfl, SqT.of hpe, rfl, _, rfl, pe, _, _, _, rfl, rfl, SqT.of hpe, rfl, _, rfl, by show 3 ≤ sizeLine; decide, fun t3 ht3 => ?_⟩
            have s6 := same_new ht3 (.tup [.int (pt (i + 1)).1, .int (pt (i + 1)).2, .int (s0 : Nat)])
            have hcl6 := s6 _ _ hcl
            refine ⟨cl, cs, _, rfl, rfl, hcl6, ?_, ?_⟩
            · rw [hFc.1, List.length_take]
              exact Nat.lt_of_le_of_lt (Nat.le_trans (Nat.min_le_right _ _) (setsOf_len _)) (by decide)
            have t7 := TS.lst hcl6 (.lst (cs ++ [V.ref t3]))
            have t67 := (TS.of s6).trans t7
            replace hFc := hFc.ts t67
            have ht37 := t7 _ _ upd_same
            replace hFr := hFr.ts t67
            replace hCa := hCa.ts t67
            replace hst : ∀ s1 ∈ (setsOf M).take u, Step1 C M pt _ ck i s1 := fun s1 h1 => (hst s1 h1).ts t67
            replace htr := t67 _ _ htr
            replace hpe := t67 _ _ hpe
            have hls7 : (upd (upd H6 t3 (.tup [.int (pt (i + 1)).1, .int (pt (i + 1)).2, .int (s0 : Nat)])) cl (.lst (cs ++ [V.ref t3]))) ls = some (.lst xs) := by
              rw [upd_ne ncl]
              exact s6 _ _ hls
            have hsl7 : (upd (upd H6 t3 (.tup [.int (pt (i + 1)).1, .int (pt (i + 1)).2, .int (s0 : Nat)])) cl (.lst (cs ++ [V.ref t3]))) sl = some (.lst (vset (setsOf M))) := by
              rw [upd_ne nsl]
              exact s6 _ _ hsl
            have hdm7 := keepD (o := .lst (cs ++ [V.ref t3])) (s6 _ _ hdmE) hcl6
            have hdc7 := keepD (o := .lst (cs ++ [V.ref t3])) (s6 _ _ hdcE) hcl6
            have sH7 : Same H1 (upd (upd H6 t3 (.tup [.int (pt (i + 1)).1, .int (pt (i + 1)).2, .int (s0 : Nat)])) cl (.lst (cs ++ [V.ref t3]))) := same_mut (sH.trans s6) H1cl _
            have hcl7 : (upd (upd H6 t3 (.tup [.int (pt (i + 1)).1, .int (pt (i + 1)).2, .int (s0 : Nat)])) cl (.lst (cs ++ [V.ref t3]))) cl = some (.lst (cs ++ [V.ref t3])) := upd_same
            generalize (upd (upd H6 t3 (.tup [.int (pt (i + 1)).1, .int (pt (i + 1)).2, .int (s0 : Nat)])) cl (.lst (cs ++ [V.ref t3]))) = H7 at hFc ht37 hFr hCa hst htr hpe hls7 hsl7 hdm7 hdc7 sH7 hcl7 ⊢
            refine ⟨_, rfl, _, rfl, _, rfl, pe, _, _, _, rfl, rfl, SqT.of hpe, rfl, _, rfl, pe, _, _, _, rfl, rfl, SqT.of hpe, rfl, _, rfl, by show 3 ≤ sizeLine; decide, fun t4 ht4 => ?_⟩
            have s8 := same_new ht4 (.tup [.int (pt (i + 1)).1, .int (pt (i + 1)).2, .int (s0 : Nat)])
            have hdc8 := s8 _ _ hdc7
            have hsm := W.small
            refine ⟨dc, _, rfl, DPut.t (k := k3 (pt (i + 1)).1 (pt (i + 1)).2 s0) hdc8 upd_same (Nat.lt_of_le_of_lt (show ck.length ≤ 3000 by omega) (by decide)), ?_⟩
            have t9 := TS.dT hdc8 (.dT (putK ck (k3 (pt (i + 1)).1 (pt (i + 1)).2 s0) (.ref tr)))
            have t89 := (TS.of s8).trans t9
            have etk : (setsOf M).take (u + 1) = (setsOf M).take u ++ [s0] := by
              rw [List.take_add_one, hs0]
              rfl
            refine ⟨cs ++ [V.ref t3], putK ck (k3 (pt (i + 1)).1 (pt (i + 1)).2 s0) (.ref tr), _, _, _, _, _, rfl, same_mut (sH7.trans s8) G1c _, keepL (s8 _ _ hls7) hdc8, hFr.ts t89, ?_, upd_same, ?_, ⟨no_put W hiL hCa.no, fun j hj s1 h1 => ((hCa.st j hj s1 h1).put W hj hiL).ts t89⟩, ?_, keepL (s8 _ _ hcl7) hdc8, ?_, t89 _ _ htr, t89 _ _ hpe, keepL (s8 _ _ hsl7) hdc8⟩
            · rw [upd_ne ndc]
              exact s8 _ _ hdm7
            · have := length_putK ck (k3 (pt (i + 1)).1 (pt (i + 1)).2 s0) (.ref tr)
              omega
            · intro s1 h1
              rw [etk] at h1
              by_cases e : s1 = s0
              · subst e
                refine ⟨tr, s', ?_, t89 _ _ htr, hsm', hz⟩
                rw [valV_put, if_pos rfl]
              · have h2 : s1 ∈ (setsOf M).take u := by
                  rcases List.mem_append.mp h1 with h1 | h1
                  · exact h1
                  · exact absurd (List.mem_singleton.mp h1) e
                obtain ⟨t5, s5, z1, z2, z3⟩ := hst s1 h2
                refine ⟨t5, s5, ?_, t89 _ _ z2, z3⟩
                rw [valV_put, if_neg]
                · exact z1
                · exact fun z => e (k3_inj z).2.2
            · rw [etk]
              exact (hFc.snoc ht37).ts t89
          · rintro σ H6 ⟨cs, ck, w6, w10, w11, w13, w14, rfl, sH, hls, hFr, hdmE, hdcE, hckl, hCa, hst, hcl, hFc, htr, hpe, hsl⟩
            rw [show (vset (setsOf M)).length = (setsOf M).length from List.length_map _] at hckl hst hFc
            rw [List.take_length] at hst hFc
            have hl16 := setsOf_len M
            refine ⟨true, cs, ck, _, _, _, _, _, _, _, rfl, sH, hls, hFr, hdmE, hdcE, by show ck.length ≤ 16 * (i + 1); omega, ⟨hCa.no, fun j hj s1 h1 => ?_⟩, hcl, fun _ => ⟨hiL, hFc⟩, (fun z => nomatch z), hapn⟩
            by_cases e : j = i
            · subst e
              exact hst s1 h1
            · exact hCa.st j (by have hj2 : j < i + 1 := hj; omega) s1 h1
        · have hk : cond b (i + 1) i ≤ L := by
            cases b with
            | false => exact hi
            | true => exact (hbt rfl).1
          have hnd := rows_nd W hk
          have hk1 : cond b (i + 1) i ≤ i + 1 := by
            cases b with
            | false => exact Nat.le_succ _
            | true => exact Nat.le_refl _
          have ep : putK (encK (rows M pt (cond b (i + 1) i))) (kk a' b') (V.int (Builtin.bitOr (M : Nat) (M : Nat))) = encK (rows M pt (cond b (i + 1) i)) := by
            rw [or_nat, mg.2.2.1]
            exact putK_enc hnd hmem
          refine ⟨_, rfl, dm, rfl, .inr ⟨_, .inl hdmE⟩, _, rfl, some (.int (M : Nat)), .inr ⟨_, kk a' b', pe, .inl hdmE, rfl, hpe, (encK_some hnd hmem).symm⟩, ?_⟩
          refine ⟨_, rfl, _, rfl, _, _, rfl, rfl, _, rfl, _, rfl, dm, upd H3 dm (.dT (encK (rows M pt (cond b (i + 1) i)))), rfl, dput_to (k := kk a' b') hdmE hpe (rlen _ hk1) ep, ?_⟩
          have ts := TS.dT hdmE (.dT (encK (rows M pt (cond b (i + 1) i))))
          replace sH : Same H1 (upd H3 dm (.dT (encK (rows M pt (cond b (i + 1) i))))) := same_mut sH h1m _
          replace hls := keepL (o := .dT (encK (rows M pt (cond b (i + 1) i)))) hls hdmE
          replace hcl := keepL (o := .dT (encK (rows M pt (cond b (i + 1) i)))) hcl hdmE
          replace hFr := hFr.ts ts
          replace hdcE : (upd H3 dm (.dT (encK (rows M pt (cond b (i + 1) i))))) dc = some (.dT ck) := by
            rw [upd_ne ndc.symm]
            exact hdcE
          replace hCa := hCa.ts ts
          replace hbt : b = true → i < L ∧ FreshAt (upd H3 dm (.dT (encK (rows M pt (cond b (i + 1) i))))) cs (setsOf M) (pt (i + 1)).1 (pt (i + 1)).2 := fun z => ⟨(hbt z).1, (hbt z).2.ts ts⟩
          replace hdmE : (upd H3 dm (.dT (encK (rows M pt (cond b (i + 1) i))))) dm = some (.dT (encK (rows M pt (cond b (i + 1) i)))) := upd_same
          generalize upd H3 dm (.dT (encK (rows M pt (cond b (i + 1) i)))) = H4 at sH hls hcl hFr hdcE hCa hbt hdmE ⊢
          have e1 : Builtin.bitAnd (M : Nat) (Builtin.bitXor 65535 ((M : Nat) : Int)) = ((0 : Nat) : Int) := by
            rw [xor_msk W.mi, and_nat, mg.2.1]
          refine ⟨_, rfl, _, rfl, _, _, rfl, rfl, _, _, rfl, rfl, 0, congrArg (fun z => [V.int z]) e1, fun sl H5 s5 hsl0 hsl => ⟨sl, rfl, ⟨_, SqL.of hsl⟩, ?_⟩⟩
          refine for_list (xs := vset (setsOf 0)) (fun u σ H' => H' = H5 ∧ ∃ w6 w9 w10 w11 w12 w13 w14, σ = sg16 v1 v2 v3 x1 dm dc ls w6 (some (.ref cl)) w9 w10 w11 w12 w13 w14) ⟨rfl, _, _, _, _, _, _, _, rfl⟩ (fun u σ H' _ p => by rw [p.1]; exact SqL.of hsl) ?_ ?_
          · rintro u z σ H6 hu _
            obtain ⟨s0, hs0, _⟩ := vset_get hu
            rw [sets0] at hs0
            cases hs0
          · rintro σ H6 ⟨rfl, w6, w9, w10, w11, w12, w13, w14, rfl⟩
            have t5 := TS.of s5
            refine ⟨b, cs, ck, _, _, _, _, _, _, _, rfl, sH.trans s5, s5 _ _ hls, hFr.ts t5, s5 _ _ hdmE, s5 _ _ hdcE, hckl, hCa.ts t5, s5 _ _ hcl, fun z => ⟨(hbt z).1, (hbt z).2.ts t5⟩, fun z => ⟨(hbf z).1, fun hl k hk' s0 hs0 => ?_⟩, hapn⟩
            exfalso
            rw [z] at hmem
            have hmem : (a', b', M) ∈ rows M pt i := hmem
            rcases (W.lvl i hl s' hsm').2 with e | e
            · rw [hz] at e
              cases e
            · rw [hz] at e
              have e2 := Option.some.inj e
              have e3 : a' = (pt (i + 1)).1 := congrArg (·.1) e2
              have e4 : b' = (pt (i + 1)).2 := congrArg (·.2.1) e2
              rw [e3, e4] at hmem
              exact rows_new W hl (List.mem_map.mpr ⟨_, hmem, rfl⟩)
    · rintro σ H' ⟨b, cs, ck, w6, w9, w10, w11, w12, w13, w14, rfl, sH, hls, hFr, hdmE, hdcE, hckl, hCa, hcl, hbt, hbf, hap⟩
      refine ⟨_, rfl, ?_⟩
      have hlen : xs.length = (setsOf (fr M i)).length := hFr.1
      have hlp : 0 < (setsOf (fr M i)).length := List.length_pos_iff.mpr hne
      cases b with
      | true =>
        obtain ⟨hiL, hFc⟩ := hbt rfl
        exact ⟨L + 1 - (i + 1), by omega, cl, _, _, _, _, _, _, _, _, rfl, sH, .inl ⟨i + 1, cs, ck, hiL, rfl, hcl, hFc, hdmE, hdcE, hckl, hCa⟩⟩
      | false =>
        obtain ⟨rfl, hno⟩ := hbf rfl
        have hiL : i = L := by
          by_cases e : i < L
          · exfalso
            obtain ⟨s0, h0, hn0⟩ := W.mover i e
            obtain ⟨k, hk, hk2⟩ := List.mem_iff_getElem.mp h0
            exact hn0 (hno e k (by omega) s0 (by rw [List.getElem?_eq_getElem hk, hk2]))
          · omega
        subst hiL
        have hapf : ap = false := by
          cases ap with
          | false => rfl
          | true =>
            have := hap rfl rfl
            omega
        exact ⟨0, by omega, cl, _, _, _, _, _, _, _, _, rfl, sH, .inr ⟨rfl, hapf, hcl, hdmE⟩⟩
  · replace hls := sE _ _ hls
    replace hdmE := sE _ _ hdmE
    refine ⟨.list [], .list [], .lst (SqL.of hls) .nil, .lst (SqL.of hEa) .nil, rfl, rfl, _, rfl, ?_⟩
    refine iteF ?_
    refine ⟨dm, _, hdmE, trivial, fun od => ?_⟩
    have sF : Same H1 (upd He dm (.frz od (.dT (encK (rows M pt L))))) := same_mut s1E hdm _
    refine ⟨_, rfl, dm, od, _, rfl, upd_same, fun D2 hD2 => ?_⟩
    have nD : dm ≠ D2 := ne_of_none upd_same hD2
    have H1D : H1 D2 = none := none_back sF hD2
    refine lc_it walk_itemsT (fun k H2 => Same H1 H2 ∧ H2 dm = some (.frz od (.dT (encK (rows M pt L)))) ∧ ∃ bs, H2 D2 = some (.lst (refs bs)) ∧ Trips H2 bs ∧ bs.map (·.2) = ((rows M pt L).take k).map i3)
      ⟨same_mut sF H1D _, by rw [upd_ne nD, upd_same], [], upd_same, (fun b hb => nomatch hb), rfl⟩ (fun k H2 _ p => p.2.1) ?_ ?_
    · rintro k z H2 H3 hk ⟨s2, hd2, bs, hD, hT, hm⟩ ⟨T, qk, ks, vv, hkv, rfl, hT0, hqk, rfl⟩
      unfold encK at hkv
      rw [List.getElem?_map] at hkv
      cases hr0 : (rows M pt L)[k]? with
      | none => rw [hr0] at hkv; cases hkv
      | some r =>
        rw [hr0] at hkv
        obtain ⟨rfl, rfl⟩ := Prod.mk.inj (Option.some.inj hkv)
        have s3 := same_new hT0 (.tup [.ref qk, .int (r.2.2 : Nat)])
        refine ⟨T, _, rfl, SqT.of upd_same, rfl, _, _, rfl, _, _, rfl, rfl, rfl, tYes_to ?_⟩
        refine iteT ?_
        have hqk3 := s3 _ _ hqk
        refine ⟨_, rfl, qk, _, _, _, rfl, rfl, SqT.of hqk3, rfl, _, rfl, qk, _, _, _, rfl, rfl, SqT.of hqk3, rfl, _, rfl, by show 3 ≤ sizeLine; decide, fun t4 ht4 => ?_⟩
        have s4 := same_new ht4 (.tup [.int (r.1 : Nat), .int (r.2.1 : Nat), .int (r.2.2 : Nat)])
        have hD4 := s4 _ _ (s3 _ _ hD)
        have ts := ((TS.of s3).trans (TS.of s4)).trans (TS.lst hD4 (.lst (refs bs ++ [V.ref t4])))
        have hlen := congrArg List.length hm
        rw [List.length_map, List.length_map, List.length_take, rows_len] at hlen
        have hsmall := W.small
        refine ⟨refs bs, hD4, ?_, same_mut ((s2.trans s3).trans s4) H1D _, ?_, bs ++ [(t4, i3 r)], ?_, ?_, ?_⟩
        · unfold refs
          rw [List.length_map]
          exact Nat.lt_of_le_of_lt (show bs.length ≤ 1000 by omega) (by decide)
        · rw [upd_ne nD]
          exact s4 _ _ (s3 _ _ hd2)
        · rw [upd_same]
          unfold refs
          rw [List.map_append]
          rfl
        · intro b hb
          rcases List.mem_append.mp hb with hb | hb
          · exact hT.ts ts b hb
          · obtain rfl := List.mem_singleton.mp hb
            exact TS.lst hD4 _ _ _ upd_same
        · rw [List.map_append, hm, List.take_add_one, hr0, List.map_append]
          rfl
    · rintro H2 ⟨s2, hd2, bs, hD, hT, hm⟩
      refine ⟨hd2, ?_⟩
      rw [encK_len, List.take_length] at hm
      have ts := TS.frz hd2 (.dT (encK (rows M pt L)))
      have s3 : Same H1 (upd H2 dm (.dT (encK (rows M pt L)))) := same_mut s2 hdm _
      have hD3 : (upd H2 dm (.dT (encK (rows M pt L)))) D2 = some (.lst (refs bs)) := by
        rw [upd_ne nD.symm]
        exact hD
      have hT3 := hT.ts ts
      generalize upd H2 dm (.dT (encK (rows M pt L))) = H3 at s3 hD3 hT3 ⊢
      refine ⟨D2, bs, rfl, SqL.of hD3, hT3, fun p hp => ?_⟩
      have s4 := same_new hp (.lst (refs (sort3 bs)))
      refine fun x9 d9 hx9 hd9 ne9 => ⟨x9, d9, p, _, sort3 bs, rfl, upd_same, same_new2 hx9 hd9 _ _, hx9, upd_same, (sort3_trips hT3).mono s4, fun H5 s5 hA => ⟨rfl, ?_⟩⟩
      refine q _ _ (((s1.trans s3).trans s4).trans s5) ?_
      rw [hap]
      exact ⟨_, hA, by rw [sort3_map, hm]⟩
end
end K98
set_option Elab.async false
set_option linter.all false
set_option maxRecDepth 100000
set_option maxHeartbeats 4000000
/-! the law's own functions -/
namespace K98
open PySem PySem.Spec PyProof.Rows L2 SX
section
variable {P : Program} {w : World} {K : PySem.W.Frag} {mg : Str → Option Value} {base : Heap}
/-! ### _law_cell_at -/
def spCell (K : PySem.W.Frag) : Sp := fun vs H Q _ => ∃ (a : Addr) (ns : List Int) (k : Nat), vs = [.ref a, .int k] ∧ ns.length ≤ 63 ∧ SqL K H a (ns.map V.int) ∧ Q (.int (ns.getD k 0)) H
theorem sc_cell_at : FnScope ["_law_script", "_law_k"] ["_law_script", "_law_k"] (defScope st_cell_at) := ⟨rfl, rfl, rfl, by decide +kernel, rfl, by decide +kernel, by decide +kernel⟩
theorem c_cell_at (t : T K mg) : C8.Cal P w K mg base 1 "_law_cell_at" (spCell K) [] := by
  refine cal_of (k := 0) t.d_cell_at t.g_cell_at sc_cell_at (fun vs H Q E h => ?_) (fun fd cdv A outer s H vs Q E hr h => ?_)
  · obtain ⟨a, ns, k, rfl, _⟩ := h
    rfl
  obtain ⟨a, ns, k, rfl, hl, hS, q⟩ := h
  refine ⟨_, pss_cons (ps_if (pt_cmpR op_lt (pv 1) (pe_callB call_len_seq rfl t.f_len PySem.boot_len (pa_cons (pv 0) pa_nil)) (nomark _)) (pss_one (ps_ret (pe_ix ix_list (pv 0) (pv 1) (fun _ _ => rfl)))) pss_nil) (pss_one (ps_ret pe_int)), ?_⟩
  refine ⟨_, rfl, _, rfl, a, _, rfl, .inl hS, _, _, rfl, rfl, _, rfl, ?_⟩
  rw [List.length_map]
  by_cases e : k < ns.length
  · refine iteY (by omega) ?_
    refine ⟨_, rfl, _, rfl, a, _, _, _, rfl, rfl, hS, atI_nat (v := .int (ns.getD k 0)) ?_, q⟩
    rw [List.getElem?_map, List.getElem?_eq_getElem e, List.getD_eq_getElem?_getD, List.getElem?_eq_getElem e]
    rfl
  · refine iteNo (by omega) ?_
    have e2 : ns.getD k 0 = 0 := by
      rw [List.getD_eq_getElem?_getD, List.getElem?_eq_none (by omega)]
      rfl
    rw [e2] at q
    exact q
/-! ### _law_round -/
def rbody (c : Nat) (right : Bool) : Nat → Stp
  | 0 => .deed c
  | k + 1 => if right = true then .row (.deed c) (rbody c right k) else .row (rbody c right k) (.deed c)
theorem rbody_succ (c : Nat) (right : Bool) (k : Nat) : rbody c right (k + 1) = if right = true then .row (.deed c) (rbody c right k) else .row (rbody c right k) (.deed c) := rfl
def rnd (t : Tst) (n c : Nat) (right : Bool) : Stp := .loop t (rbody c right (n - 1))
def spRound (K : PySem.W.Frag) : Sp := fun vs H Q _ => ∃ (v : V) (t : Tst) (c n : Nat) (r : Bool), vs = [v, .str (S [c]), .int n, .int (if r = true then 1 else 0)] ∧ 1 ≤ n ∧ n ≤ 12 ∧ TstAt K H t v ∧ ∀ u H', Same H H' → StpAt K H' (rnd t n c r) u → Q u H'
theorem sc_round : FnScope ["_law_test", "_law_letter", "_law_many", "_law_right", "_law_body", "_law_k"] ["_law_test", "_law_letter", "_law_many", "_law_right"] (defScope st_round) := ⟨rfl, rfl, rfl, by decide +kernel, rfl, by decide +kernel, by decide +kernel⟩
theorem c_round (t : T K mg) : C8.Cal P w K mg base 3 "_law_round" (spRound K) [] := by
  refine cal_of (k := 2) t.d_round t.g_round sc_round (fun vs H Q E h => ?_) (fun fd cdv A outer s H vs Q E hr h => ?_)
  · obtain ⟨v, ts, c, n, r, rfl, _⟩ := h
    rfl
  obtain ⟨v, ts, c, n, r, rfl, h1, h12, hv, q⟩ := h
  have nd := sc_round.nd
  refine ⟨_, pss_cons (ps_set (i := 4) nd rfl (.inl rfl) (C8.pe_mk (k_Deed t) hr (by omega) rfl (pa_cons (pv 1) pa_nil)))
    (pss_cons (ps_for PassesOwn.never rfl (pi_range1 rfl t.f_range (pa_cons (pe_op op_sub (pv 2) pe_int) pa_nil)) (pg_name (i := 5) nd rfl (.inl rfl))
      (pss_one (ps_if (pt_cmpR op_eq (pv 3) pe_int (nomark _))
        (pss_one (ps_set (i := 4) nd rfl (.inl rfl) (C8.pe_mk (k_Row t) hr (by omega) rfl (pa_cons (C8.pe_mk (k_Deed t) hr (by omega) rfl (pa_cons (pv 1) pa_nil)) (pa_cons (pv 4) pa_nil)))))
        (pss_one (ps_set (i := 4) nd rfl (.inl rfl) (C8.pe_mk (k_Row t) hr (by omega) rfl (pa_cons (pv 4) (pa_cons (C8.pe_mk (k_Deed t) hr (by omega) rfl (pa_cons (pv 1) pa_nil)) pa_nil))))))))
    (pss_one (ps_ret (C8.pe_mk (k_Loop t) hr (by omega) rfl (pa_cons (pv 0) (pa_cons (pv 4) pa_nil)))))), ?_⟩
  refine ⟨_, rfl, fun x9 d9 hx9 hd9 ne9 => use_ini1 hx9 hd9 fun H1 s1 n1 => ⟨rfl, ?_⟩⟩
  have hi1 := n1.ins
  refine ⟨_, rfl, _, _, rfl, rfl, _, rfl, ?_, ?_, ?_⟩
  · show (-(2 ^ 62) : Int) ≤ (n : Int) - 1
    omega
  · show (n : Int) - 1 < 2 ^ 62
    omega
  have en : ((n : Int) - 1).toNat = n - 1 := by omega
  rw [en]
  refine for_range (lo := 0) (n := n - 1) (fun i σ H' => Same H H' ∧ ∃ b w5, σ = [some v, some (.str (S [c])), some (.int n), some (.int (if r = true then 1 else 0)), some b, w5] ∧ StpAt K H' (rbody c r i) b)
    ⟨s1, .ref x9, none, rfl, hi1⟩ ?_ ?_
  · rintro i σ H' hi ⟨s2, b, w5, rfl, hb⟩
    refine ⟨_, rfl, rfl, _, rfl, ?_⟩
    cases r with
    | true =>
      refine iteY rfl ?_
      refine ⟨_, rfl, fun y9 e9 hy9 he9 nf9 => use_ini1 hy9 he9 fun H3 s3 n3 => ⟨rfl, ?_⟩⟩
      refine ⟨_, rfl, fun y9 e9 hy9 he9 nf9 => use_ini2 hy9 he9 fun H4 s4 n4 => ⟨rfl, ?_⟩⟩
      exact ⟨(s2.trans s3).trans s4, _, _, rfl, ⟨_, _, n4.ins, (n3.ins).mono s4, (hb.mono s3).mono s4⟩⟩
    | false =>
      refine iteNo (fun z => nomatch (V.int.inj z)) ?_
      refine ⟨_, rfl, _, rfl, fun y9 e9 hy9 he9 nf9 => use_ini1 hy9 he9 fun H3 s3 n3 => ⟨rfl, ?_⟩⟩
      refine fun y9 e9 hy9 he9 nf9 => use_ini2 hy9 he9 fun H4 s4 n4 => ⟨rfl, ?_⟩
      exact ⟨(s2.trans s3).trans s4, _, _, rfl, ⟨_, _, n4.ins, (hb.mono s3).mono s4, (n3.ins).mono s4⟩⟩
  · rintro σ H' ⟨s2, b, w5, rfl, hb⟩
    refine ⟨_, rfl, _, rfl, fun y9 e9 hy9 he9 nf9 => use_ini2 hy9 he9 fun H4 s4 n4 => ⟨rfl, ?_⟩⟩
    exact q _ _ (s2.trans s4) ⟨_, _, n4.ins, (hv.mono s2).mono s4, hb.mono s4⟩
/-! ### _law_table -/
def TableAt (H : Hp) (v : V) (l : List I3) : Prop := ∃ a bs, v = .ref a ∧ H a = some (.lst (refs bs)) ∧ Trips H bs ∧ bs.map (·.2) = l
theorem Trips.dp {H : Hp} : ∀ {bs : List (Addr × I3)}, Trips H bs → DpAll K H (refs bs) (dat3 (bs.map (·.2)))
  | [], _ => .nil
  | b :: bs, h => .cons (.tup (SqT.of (h b List.mem_cons_self)) (.cons (.int _) (.cons (.int _) (.cons (.int _) .nil)))) (Trips.dp fun c hc => h c (List.mem_cons_of_mem _ hc))
theorem eqv3 (e f : I3) : PyData.eqv (.tuple [.int e.1, .int e.2.1, .int e.2.2]) (.tuple [.int f.1, .int f.2.1, .int f.2.2]) = decide (e = f) := by
  obtain ⟨a, b, c⟩ := e
  obtain ⟨a', b', c'⟩ := f
  simp only [PyData.eqv, PyData.eqvAll, Bool.and_true]
  by_cases h1 : a = a' <;> by_cases h2 : b = b' <;> by_cases h3 : c = c' <;> simp [h1, h2, h3]
theorem any_dat3 (l : List I3) (e : I3) : ((dat3 l).any fun z => PyData.eqv z (.tuple [.int e.1, .int e.2.1, .int e.2.2])) = decide (e ∈ l) := by
  unfold dat3
  induction l with
  | nil => rfl
  | cons f l ih =>
    rw [List.map_cons, List.any_cons, ih, eqv3]
    by_cases h1 : f = e
    · subst h1
      simp
    · have h2 : ¬ e = f := fun z => h1 z.symm
      simp [h1, h2]
theorem one3_shaped (e : I3) : SeqAt.shaped (.tuple [.int e.1, .int e.2.1, .int e.2.2]) = true := by
  have e1 : (PyData.tuple [.int e.1, .int e.2.1, .int e.2.2]).canLay0 = true := by
    simp only [PyData.canLay0, PyData.canLayAll0]
    rfl
  have e2 : (PyData.tuple [.int e.1, .int e.2.1, .int e.2.2]).depth ≤ 64 := by
    simp only [PyData.depth, PyData.depthAll]
    omega
  unfold SeqAt.shaped
  rw [e1, decide_eq_true e2]
  rfl
def ptf (n1 n2 : Nat) : Nat → Nat × Nat
  | 0 => (0, 0)
  | k + 1 => (k % n1 + 1, k % n2 + 1)
def spTable (K : PySem.W.Frag) : Sp := fun vs H Q _ => ∃ (n1 n2 M L : Nat), vs = [.int n1, .int n2, .int M] ∧ 1 ≤ n1 ∧ n1 ≤ 12 ∧ 1 ≤ n2 ∧ n2 ≤ 12 ∧ 1 ≤ L ∧ L ≤ 150 ∧ ptf n1 n2 (L + 1) = ptf n1 n2 1 ∧ (∀ i j, i ≤ L → j ≤ L → ptf n1 n2 i = ptf n1 n2 j → i = j) ∧
  ∀ r H', Same H H' → TableAt H' r (((rows M (ptf n1 n2) L).map i3).mergeSort le3) → Q r H'
theorem step_ptf (n k : Nat) (h : 1 ≤ n) : (k % n + 1) % n + 1 = (k + 1) % n + 1 := by
  rw [Nat.mod_add_mod]
theorem in_rows {M n1 n2 L k : Nat} (inj : ∀ i j, i ≤ L → j ≤ L → ptf n1 n2 i = ptf n1 n2 j → i = j) (hL : 1 ≤ L) (back : ptf n1 n2 (L + 1) = ptf n1 n2 1) (hk : k ≤ L) : i3 ((ptf n1 n2 (k + 1)).1, (ptf n1 n2 (k + 1)).2, M) ∈ (rows M (ptf n1 n2) k).map i3 ↔ k = L := by
  have i3inj : ∀ e f : N3, i3 e = i3 f → e = f := fun e f z => by
    obtain ⟨a, b, c⟩ := e
    obtain ⟨a', b', c'⟩ := f
    unfold i3 at z
    simp only [Prod.mk.injEq, Int.natCast_inj] at z
    rw [z.1, z.2.1, z.2.2]
  constructor
  · intro m
    obtain ⟨e, he, ee⟩ := List.mem_map.mp m
    have ee := i3inj _ _ ee
    subst ee
    rcases List.mem_cons.mp he with h | h
    · have := congrArg (·.1) h
      have h2 : k % n1 + 1 = 0 := this
      omega
    · obtain ⟨j, hj, ej⟩ := List.mem_map.mp h
      rw [List.mem_range] at hj
      have h1 : (ptf n1 n2 (j + 1)).1 = (ptf n1 n2 (k + 1)).1 := congrArg (·.1) ej
      have h2 : (ptf n1 n2 (j + 1)).2 = (ptf n1 n2 (k + 1)).2 := congrArg (·.2.1) ej
      by_cases e : k < L
      · have := inj (j + 1) (k + 1) (by omega) (by omega) (Prod.ext h1 h2)
        omega
      · omega
  · rintro rfl
    rw [back]
    exact List.mem_map.mpr ⟨_, rows_mem (j := 0) (by omega), rfl⟩
theorem sc_table : FnScope ["_law_first", "_law_second", "_law_mask", "_law_rows", "_law_one", "_law_two"] ["_law_first", "_law_second", "_law_mask"] (defScope st_table) := ⟨rfl, rfl, rfl, by decide +kernel, rfl, by decide +kernel, by decide +kernel⟩
theorem c_table (t : T K mg) : C8.Cal P w K mg base 1 "_law_table" (spTable K) [] := by
  refine cal_of (k := 0) t.d_table t.g_table sc_table (fun vs H Q E h => ?_) (fun fd cdv A outer s H vs Q E hr h => ?_)
  · obtain ⟨n1, n2, M, L, rfl, _⟩ := h
    rfl
  obtain ⟨n1, n2, M, L, rfl, a1, a12, b1, b12, hL, hL2, back, inj, q⟩ := h
  have nd := sc_table.nd
  have u65 : (cxOf L2.CX0 P w K mg base ["_law_first", "_law_second", "_law_mask", "_law_rows", "_law_one", "_law_two"] "_law_table" (defScope st_table) (He.ga K "_law_table") cdv A outer s H E).nox.A.units + 65 < cLine := by
    have := hr.un
    show (A.deeper _).units + 65 < cLine
    omega
  refine ⟨_, pss_cons (ps_set (i := 3) nd rfl (.inl rfl) (pe_lst (pa_cons (pe_tup (pa_cons pe_int (pa_cons pe_int (pa_cons pe_int pa_nil)))) pa_nil)))
    (pss_cons (ps_set (i := 4) nd rfl (.inl rfl) pe_int) (pss_cons (ps_set (i := 5) nd rfl (.inl rfl) pe_int)
    (pss_cons (ps_while PassesOwn.never (pt_cmpR (op_notInD u65) (pe_tup (pa_cons (pv 4) (pa_cons (pv 5) (pa_cons (pv 2) pa_nil)))) (pv 3) rfl)
      (pss_cons (ps_expr (pe_bm PySem.F.plainAttrs_list PySem.F.slot_list_append PySem.F.type_list_append mt_append (pv 3) (pa_cons (pe_tup (pa_cons (pv 4) (pa_cons (pv 5) (pa_cons (pv 2) pa_nil)))) pa_nil)))
      (pss_cons (ps_set (i := 4) nd rfl (.inl rfl) (pe_op op_add (pe_op op_modN (pv 4) (pv 0)) pe_int))
      (pss_one (ps_set (i := 5) nd rfl (.inl rfl) (pe_op op_add (pe_op op_modN (pv 5) (pv 1)) pe_int))))))
    (pss_one (ps_ret (pe_callB (cr_sort3 hr.units) rfl t.f_sorted (by decide +kernel) (pa_cons (pv 3) pa_nil))))))), ?_⟩
  refine ⟨by show 3 ≤ sizeLine; decide, fun t0 ht0 => ⟨by show 1 ≤ sizeLine; decide, fun l hl => ?_⟩⟩
  have s0 := same_new ht0 (.tup [.int 0, .int 0, .int 65535])
  have s1 := same_new hl (.lst [.ref t0])
  have Hl : H l = none := none_back s0 hl
  refine ⟨fun n σ H' => ∃ k bs, k ≤ L ∧ n = L - k ∧ Same H H' ∧ σ = [some (.int n1), some (.int n2), some (.int M), some (.ref l), some (.int (ptf n1 n2 (k + 1)).1), some (.int (ptf n1 n2 (k + 1)).2)] ∧ H' l = some (.lst (refs bs)) ∧ Trips H' bs ∧ bs.map (·.2) = (rows M (ptf n1 n2) k).map i3,
    ⟨L, 0, [(t0, (0, 0, 65535))], Nat.zero_le _, rfl, s0.trans s1, ?_, upd_same, fun b hb => ?_, rfl⟩, ?_⟩
  · have e1 : (ptf n1 n2 (0 + 1)).1 = 1 := by show 0 % n1 + 1 = 1; rw [Nat.zero_mod]
    have e2 : (ptf n1 n2 (0 + 1)).2 = 1 := by show 0 % n2 + 1 = 1; rw [Nat.zero_mod]
    rw [e1, e2]
    rfl
  · obtain rfl := List.mem_singleton.mp hb
    exact s1 _ _ upd_same
  rintro n σ H' ⟨k, bs, hk, hn, sH, rfl, hlb, hT, hm⟩
  refine ⟨_, rfl, _, rfl, _, rfl, by show 3 ≤ sizeLine; decide, fun t1 ht1 => ?_⟩
  have s2 := same_new ht1 (.tup [.int (ptf n1 n2 (k + 1)).1, .int (ptf n1 n2 (k + 1)).2, .int M])
  have hlb2 := s2 _ _ hlb
  have hT2 := hT.mono s2
  have sH2 := sH.trans s2
  have dpt : Dp K (upd H' t1 (.tup [.int (ptf n1 n2 (k + 1)).1, .int (ptf n1 n2 (k + 1)).2, .int M])) (.ref t1) (.tuple [.int (ptf n1 n2 (k + 1)).1, .int (ptf n1 n2 (k + 1)).2, .int M]) := .tup (SqT.of upd_same) (.cons (.int _) (.cons (.int _) (.cons (.int _) .nil)))
  generalize upd H' t1 (.tup [.int (ptf n1 n2 (k + 1)).1, .int (ptf n1 n2 (k + 1)).2, .int M]) = H2 at s2 hlb2 hT2 sH2 dpt ⊢
  refine ⟨_, rfl, .tuple [.int (ptf n1 n2 (k + 1)).1, .int (ptf n1 n2 (k + 1)).2, .int M], dat3 (bs.map (·.2)), dpt, .lst (SqL.of hlb2) hT2.dp, one3_shaped (i3 ((ptf n1 n2 (k + 1)).1, (ptf n1 n2 (k + 1)).2, M)), dat3_shaped _, _, rfl, ?_⟩
  have ea : ((dat3 (bs.map (·.2))).any fun z => PyData.eqv z (.tuple [.int (ptf n1 n2 (k + 1)).1, .int (ptf n1 n2 (k + 1)).2, .int M])) = decide (k = L) := by
    rw [hm]
    refine (any_dat3 _ (i3 ((ptf n1 n2 (k + 1)).1, (ptf n1 n2 (k + 1)).2, M))).trans ?_
    exact decide_eq_decide.mpr (in_rows inj hL back hk)
  rw [ea]
  by_cases e : k = L
  · subst e
    refine iteNS rfl ?_
    refine ⟨_, rfl, l, bs, rfl, SqL.of hlb2, hT2, fun p hp => ?_⟩
    have s3 := same_new hp (.lst (refs (sort3 bs)))
    exact q _ _ (sH2.trans s3) ⟨p, sort3 bs, rfl, upd_same, (sort3_trips hT2).mono s3, by rw [sort3_map, hm]⟩
  · refine iteNT e ?_
    refine ⟨fun σ' H3 => ∃ m', m' < n ∧ ∃ k bs, k ≤ L ∧ m' = L - k ∧ Same H H3 ∧ σ' = [some (.int n1), some (.int n2), some (.int M), some (.ref l), some (.int (ptf n1 n2 (k + 1)).1), some (.int (ptf n1 n2 (k + 1)).2)] ∧ H3 l = some (.lst (refs bs)) ∧ Trips H3 bs ∧ bs.map (·.2) = (rows M (ptf n1 n2) k).map i3, fun _ _ z => z, ?_⟩
    refine ⟨_, rfl, .inl ⟨rfl, _, SqL.of hlb2⟩, _, rfl, _, rfl, _, rfl, by show 3 ≤ sizeLine; decide, fun t2 ht2 => ?_⟩
    have s3 := same_new ht2 (.tup [.int (ptf n1 n2 (k + 1)).1, .int (ptf n1 n2 (k + 1)).2, .int M])
    have hlb3 := s3 _ _ hlb2
    have hlen := congrArg List.length hm
    rw [List.length_map, List.length_map, rows_len] at hlen
    refine ⟨l, refs bs, _, rfl, rfl, hlb3, ?_, ?_⟩
    · unfold refs
      rw [List.length_map]
      exact Nat.lt_of_le_of_lt (show bs.length ≤ 1000 by omega) (by decide)
    have ts := (TS.of s3).trans (TS.lst hlb3 (.lst (refs bs ++ [V.ref t2])))
    refine ⟨_, rfl, _, rfl, _, _, rfl, rfl, by omega, _, _, rfl, rfl, ?_⟩
    refine ⟨_, rfl, _, rfl, _, _, rfl, rfl, by omega, _, _, rfl, rfl, ?_⟩
    refine ⟨L - (k + 1), by omega, k + 1, bs ++ [(t2, i3 ((ptf n1 n2 (k + 1)).1, (ptf n1 n2 (k + 1)).2, M))], by omega, rfl, same_mut (sH2.trans s3) Hl _, ?_, ?_, ?_, ?_⟩
    · have e1 : (((ptf n1 n2 (k + 1)).1 : Nat) : Int).fmod (n1 : Int) + 1 = ((ptf n1 n2 (k + 1 + 1)).1 : Nat) := by
        rw [Int.fmod_eq_emod_of_nonneg _ (Int.natCast_nonneg _)]
        show ((k % n1 + 1 : Nat) : Int) % (n1 : Int) + 1 = (((k + 1) % n1 + 1 : Nat) : Int)
        rw [← step_ptf n1 k a1]
        omega
      have e2 : (((ptf n1 n2 (k + 1)).2 : Nat) : Int).fmod (n2 : Int) + 1 = ((ptf n1 n2 (k + 1 + 1)).2 : Nat) := by
        rw [Int.fmod_eq_emod_of_nonneg _ (Int.natCast_nonneg _)]
        show ((k % n2 + 1 : Nat) : Int) % (n2 : Int) + 1 = (((k + 1) % n2 + 1 : Nat) : Int)
        rw [← step_ptf n2 k b1]
        omega
      show [some (V.int n1), some (.int n2), some (.int M), some (.ref l), some (.int ((((ptf n1 n2 (k + 1)).1 : Nat) : Int).fmod (n1 : Int) + 1)), some (.int ((((ptf n1 n2 (k + 1)).2 : Nat) : Int).fmod (n2 : Int) + 1))] = _
      rw [e1, e2]
    · rw [upd_same]
      unfold refs
      rw [List.map_append]
      rfl
    · intro b hb
      rcases List.mem_append.mp hb with hb | hb
      · exact hT2.ts ts b hb
      · obtain rfl := List.mem_singleton.mp hb
        exact TS.lst hlb3 _ _ _ upd_same
    · rw [List.map_append, hm, rows_succ, List.map_append]
      rfl
end
end K98
set_option Elab.async false
set_option linter.all false
set_option maxRecDepth 100000
set_option maxHeartbeats 4000000
/-! the law's own functions: told, parted -/
namespace K98
open PySem PySem.Spec PyProof.Rows L2 SX
section
variable {P : Program} {w : World} {K : PySem.W.Frag} {mg : Str → Option Value} {base : Heap}
def spTold (K : PySem.W.Frag) : Sp := fun vs H Q _ => ∃ (v r : V) (bs : List (Addr × I3)) (l : List I3), vs = [v, r] ∧ AlikeAt K H v bs ∧ bs.map (·.2) = l ∧ TableAt H r l ∧ l.mergeSort le3 = l ∧ ∀ H', Same H H' → Q (.bl true) H'
theorem sc_told : FnScope ["_law_found", "_law_rows"] ["_law_found", "_law_rows"] (defScope st_told) := ⟨rfl, rfl, rfl, by decide +kernel, rfl, by decide +kernel, by decide +kernel⟩
theorem c_told (t : T K mg) : C8.Cal P w K mg base 1 "_law_told" (spTold K) [] := by
  refine cal_of (k := 0) t.d_told t.g_told sc_told (fun vs H Q E h => ?_) (fun fd cdv A outer s H vs Q E hr h => ?_)
  · obtain ⟨v, r, bs, l, rfl, _⟩ := h
    rfl
  obtain ⟨v, r, bs, l, rfl, ⟨la, ⟨a, dx, rfl, ha⟩, hla, hT⟩, hm, ⟨lb, cs, rfl, hlb, hT2, hm2⟩, hs, q⟩ := h
  refine ⟨_, pss_cons (ps_if (PW.pt (pw_or (pt_not (pt_val (pe_callB call_isi rfl t.f_isinstance boot_isi (pa_cons (pv 0) (pa_cons (pe_glob rfl t.gc_Alike (rel_ref _)) pa_nil)))))
      (pw_or1 (pt_not (pt_val (pe_callB call_isi rfl t.f_isinstance boot_isi (pa_cons (pe_fld (pv 0) rfl) (pa_cons (pe_bltn (v := .ty "list") (u := .type "list") (by rfl) t.f_list (by decide +kernel) rfl) pa_nil)))))))) pss_never pss_nil)
    (pss_one (ps_ret (pe_and (pe_cmpR (op_eqD hr.units) (pe_callB (cr_sort3 hr.units) rfl t.f_sorted (by decide +kernel) (pa_cons (pe_fld (pv 0) rfl) pa_nil)) (pv 1) (nomark _)) (pe_one (pe_cmpR (op_eqD hr.units) (pe_fld (pv 0) rfl) (pv 1) (nomark _)))))), ?_⟩
  refine ⟨_, rfl, _, _, _, _, _, rfl, .own _, ty_own t t.c_Alike t.own_Alike ha, t.isi_Alike_Alike.eq, _, rfl, iteF ?_⟩
  refine ⟨_, rfl, a, _, dx, _, _, rfl, ha, t.c_Alike, t.n_Alike_table, lk_Alike_table, _, _, _, _, _, rfl, .ty _, .base (.lst hla), kit_ty (r := true) (by decide +kernel), _, rfl, iteF ?_⟩
  refine ⟨_, rfl, a, _, dx, _, _, rfl, ha, t.c_Alike, t.n_Alike_table, lk_Alike_table, la, bs, rfl, SqL.of hla, hT, fun p hp => ?_⟩
  have s1 := same_new hp (.lst (refs (sort3 bs)))
  have d1 : Dp K (upd H p (.lst (refs (sort3 bs)))) (.ref p) (.list (dat3 ((sort3 bs).map (·.2)))) := .lst (SqL.of upd_same) ((sort3_trips hT).mono s1).dp
  have d2 : Dp K (upd H p (.lst (refs (sort3 bs)))) (.ref lb) (.list (dat3 (cs.map (·.2)))) := .lst (SqL.of (s1 _ _ hlb)) (hT2.mono s1).dp
  have d3 : Dp K (upd H p (.lst (refs (sort3 bs)))) (.ref la) (.list (dat3 (bs.map (·.2)))) := .lst (SqL.of (s1 _ _ hla)) (hT.mono s1).dp
  rw [sort3_map, hm, hs] at d1
  rw [hm2] at d2
  rw [hm] at d3
  have ha1 := s1 _ _ ha
  have er : PyData.eqv (.list (dat3 l)) (.list (dat3 l)) = true := PySem.SeqAt.eqv_refl _ (SeqAt.canLay_of_shaped (dat3_shaped l))
  refine ⟨_, rfl, _, _, d1, d2, dat3_shaped _, dat3_shaped _, _, rfl, ?_⟩
  rw [er]
  refine iteT ?_
  refine ⟨_, rfl, a, _, dx, _, _, rfl, ha1, t.c_Alike, t.n_Alike_table, lk_Alike_table, _, rfl, _, _, d3, d2, dat3_shaped _, dat3_shaped _, ?_⟩
  rw [er]
  exact q _ s1
theorem mul_at : ∀ (i : Fin 5) (m : Fin 13), Txt.mul (S [80 + i.val]) (m.val : Int) = S (List.replicate m.val (80 + i.val)) := by decide +kernel
def spParted (K : PySem.W.Frag) : Sp := fun vs H Q _ => ∃ (v : V) (i m M : Nat) (ss : List Nat), vs = [v, .str (S [80 + i]), .int m, .int M] ∧ i < 5 ∧ m < 13 ∧ ApartAt K H v ss (List.replicate m (80 + i)) ∧ ss.length = m + 1 ∧ M.testBit (ss.getD m 0) = false ∧ Q (.bl true) H
theorem sc_parted : FnScope ["_law_found", "_law_letter", "_law_many", "_law_mask"] ["_law_found", "_law_letter", "_law_many", "_law_mask"] (defScope st_parted) := ⟨rfl, rfl, rfl, by decide +kernel, rfl, by decide +kernel, by decide +kernel⟩
theorem c_parted (t : T K mg) : C8.Cal P w K mg base 1 "_law_parted" (spParted K) [] := by
  refine cal_of (k := 0) t.d_parted t.g_parted sc_parted (fun vs H Q E h => ?_) (fun fd cdv A outer s H vs Q E hr h => ?_)
  · obtain ⟨v, i, m, M, ss, rfl, _⟩ := h
    rfl
  obtain ⟨v, i, m, M, ss, rfl, hi, hm, ⟨la, ⟨a, dx, rfl, ha⟩, hla⟩, hl, hb, q⟩ := h
  refine ⟨_, pss_cons (ps_if (PW.pt (pw_or (pt_not (pt_val (pe_callB call_isi rfl t.f_isinstance boot_isi (pa_cons (pv 0) (pa_cons (pe_glob rfl t.gc_Apart (rel_ref _)) pa_nil)))))
      (pw_or1 (pt_cmpR op_ne (pe_fld (pv 0) rfl) (pe_op op_mulS (pv 1) (pv 2)) (nomark _))))) pss_never pss_nil)
    (pss_one (ps_ret (pe_cmpR op_eq (pe_op op_and (pe_op op_shr (pv 3) (pe_ix ix_list (pe_fld (pv 0) rfl) (pe_un un_neg pe_int) (fun _ _ => rfl))) pe_int) pe_int (nomark _)))), ?_⟩
  refine ⟨_, rfl, _, _, _, _, _, rfl, .own _, ty_own t t.c_Apart t.own_Apart ha, t.isi_Apart_Apart.eq, _, rfl, iteF ?_⟩
  refine ⟨_, rfl, a, _, dx, _, _, rfl, ha, t.c_Apart, t.n_Apart_deeds, lk_Apart_deeds, _, rfl, _, rfl, _, _, rfl, rfl, rfl, Int.natCast_nonneg _, by omega, rfl, _, rfl, ?_⟩
  refine iteNS (by rw [mul_at ⟨i, hi⟩ ⟨m, hm⟩]) ?_
  have hv : (vset ss)[m]? = some (.int (ss.getD m 0 : Nat)) := vset_at (by
    rw [List.getD_eq_getElem?_getD, List.getElem?_eq_getElem (by omega : m < ss.length)]
    rfl)
  have hlen : (vset ss).length = m + 1 := by
    rw [← hl]
    exact List.length_map _
  have e : vset ss = (vset ss).take m ++ [.int (ss.getD m 0 : Nat)] := by
    have z := List.take_add_one (l := vset ss) (i := m)
    rw [hv, List.take_of_length_le (by omega)] at z
    exact z
  have hat : atI (vset ss) (-1) = some (V.int (ss.getD m 0 : Nat)) := (congrArg (fun l => atI l (-1)) e).trans (atI_last _ _)
  refine ⟨_, rfl, _, rfl, a, _, dx, _, _, rfl, ha, t.c_Apart, t.n_Apart_settings, lk_Apart_settings, _, rfl, la, _, _, _, rfl, rfl, SqL.of hla, hat, _, _, rfl, rfl, Int.natCast_nonneg _, _, _, rfl, rfl, rfl, ?_⟩
  have b0 := bit0 M (ss.getD m 0)
  rw [hb] at b0
  show Q (.bl (decide (V.int (Builtin.bitAnd ((M : Int) / 2 ^ (((ss.getD m 0 : Nat) : Int)).toNat) 1) = V.int 0))) H
  rw [b0]
  exact q
end
end K98
set_option Elab.async false
set_option linter.all false
set_option maxRecDepth 100000
set_option maxHeartbeats 4000000
/-! the plain law: rounds, plans -/
namespace K98
open PySem PySem.Spec PyProof.Rows L2 SX
/-! ### sorting -/
theorem le3_trans (a b c : I3) (h1 : le3 a b = true) (h2 : le3 b c = true) : le3 a c = true := by
  unfold le3 at h1 h2 ⊢
  have h1 := of_decide_eq_true h1
  have h2 := of_decide_eq_true h2
  refine decide_eq_true ?_
  omega
theorem le3_total (a b : I3) : (le3 a b || le3 b a) = true := by
  unfold le3
  rw [← Bool.decide_or]
  refine decide_eq_true ?_
  omega
theorem sort_sorted (l : List I3) : (l.mergeSort le3).mergeSort le3 = l.mergeSort le3 := List.mergeSort_of_pairwise (List.pairwise_mergeSort le3_trans le3_total l)
/-- the rows as they are told -/
def srt (l : List N3) : List N3 := l.mergeSort fun a b => le3 (i3 a) (i3 b)
theorem srt_map (l : List N3) : (srt l).map i3 = (l.map i3).mergeSort le3 := List.map_mergeSort fun a _ b _ => rfl
theorem srt_mem {l : List N3} {e : N3} : e ∈ srt l ↔ e ∈ l := (List.mergeSort_perm l _).mem_iff
/-! ### what a loop's rooms do -/
def Fst.code : Fst → Nat
  | .done => 0
  | .hung => 1
  | .deed c _ => c + 2
def fwh : Stp → Bool → Nat
  | .skip, _ => 0
  | .deed c, _ => c + 2
  | .row a b, h => if fwh a h = 0 then fwh b h else fwh a h
  | .loop _ b, h => if h = true then (if fwh b h = 0 then 1 else fwh b h) else 0
def AllT (s : Nat) (h : Bool) : Stp → Prop
  | .skip => True
  | .deed _ => True
  | .row a b => AllT s h a ∧ AllT s h b
  | .loop t b => t.holds s = h ∧ AllT s h b
theorem code_first {s : Nat} {h : Bool} : ∀ p : Stp, AllT s h p → (p.first s).code = fwh p h
  | .skip, _ => rfl
  | .deed _, _ => rfl
  | .row a b, q => by
    have h1 := code_first a q.1
    have h2 := code_first b q.2
    have ef : (Stp.row a b).first s = (match a.first s with | .done => b.first s | .hung => .hung | .deed c l => .deed c (.row l b)) := rfl
    have ew : fwh (.row a b) h = if fwh a h = 0 then fwh b h else fwh a h := rfl
    rw [ef, ew, ← h1, ← h2]
    cases a.first s with
    | done => rfl
    | hung => rfl
    | deed c l => rfl
  | .loop t b, q => by
    have h2 := code_first b q.2
    have ef : (Stp.loop t b).first s = if t.holds s = true then (match b.first s with | .done => .hung | .hung => .hung | .deed c l => .deed c (.row l (.loop t b))) else .done := rfl
    have ew : fwh (.loop t b) h = if h = true then (if fwh b h = 0 then 1 else fwh b h) else 0 := rfl
    rw [ef, ew, ← h2, q.1]
    cases h with
    | false => rfl
    | true =>
      rw [if_pos rfl, if_pos rfl]
      cases b.first s with
      | done => rfl
      | hung => rfl
      | deed c l => rfl
theorem allT_num {s : Nat} {h : Bool} : ∀ (p : Stp) (k : Nat), AllT s h p → AllT s h (p.num k)
  | .skip, _, _ => trivial
  | .deed _, _, _ => trivial
  | .row a b, k, q => ⟨allT_num a k q.1, allT_num b _ q.2⟩
  | .loop t b, k, q => ⟨q.1, allT_num b k q.2⟩
theorem allT_left {s : Nat} {h : Bool} : ∀ (p : Stp) (k : Nat), AllT s h p → AllT s h (p.left k)
  | .skip, _, _ => trivial
  | .deed _, _, _ => trivial
  | .row a b, k, q => by
    have ef : (Stp.row a b).left k = if a.letters.length < k then b.left (k - a.letters.length) else .row (a.left k) b := rfl
    rw [ef]
    split
    · exact allT_left b _ q.2
    · exact ⟨allT_left a k q.1, q.2⟩
  | .loop t b, k, q => ⟨allT_left b k q.2, q⟩
theorem allT_room {s : Nat} {h : Bool} {p : Stp} (q : AllT s h p) (r : Nat) : AllT s h (p.room r) := by
  unfold Stp.room
  split
  · exact allT_num p 0 q
  · exact allT_left _ _ (allT_num p 0 q)
theorem allT_body (s : Nat) (h : Bool) (c : Nat) (right : Bool) : ∀ k, AllT s h (rbody c right k)
  | 0 => trivial
  | k + 1 => by
    have ih := allT_body s h c right k
    rw [rbody_succ]
    split
    · exact ⟨trivial, ih⟩
    · exact ⟨ih, trivial⟩
theorem allT_rnd (t : Tst) (n c : Nat) (right : Bool) (s : Nat) : AllT s (t.holds s) (rnd t n c right) := ⟨rfl, allT_body _ _ _ _ _⟩
/-- the program with yes for each test -/
def Stp.un : Stp → Stp
  | .skip => .skip
  | .deed c => .deed c
  | .row a b => .row a.un b.un
  | .loop _ b => .loop .yes b.un
theorem un_letters : ∀ p : Stp, p.un.letters = p.letters
  | .skip => rfl
  | .deed _ => rfl
  | .row a b => by simp only [Stp.un, Stp.letters, un_letters a, un_letters b]
  | .loop _ b => by simp only [Stp.un, Stp.letters, un_letters b]
theorem un_num : ∀ (p : Stp) (k : Nat), p.un.num k = (p.num k).un
  | .skip, _ => rfl
  | .deed _, _ => rfl
  | .row a b, k => by simp only [Stp.un, Stp.num, un_num a, un_num b, un_letters]
  | .loop _ b, k => by simp only [Stp.un, Stp.num, un_num b]
theorem un_left : ∀ (p : Stp) (k : Nat), p.un.left k = (p.left k).un
  | .skip, _ => rfl
  | .deed _, _ => rfl
  | .row a b, k => by
    simp only [Stp.un, Stp.left, un_left a, un_left b, un_letters]
    split <;> rfl
  | .loop _ b, k => by simp only [Stp.un, Stp.left, un_left b]
theorem un_room (p : Stp) (r : Nat) : p.un.room r = (p.room r).un := by
  unfold Stp.room
  split
  · exact un_num p 0
  · rw [un_num, un_left]
theorem fwh_un (h : Bool) : ∀ p : Stp, fwh p.un h = fwh p h
  | .skip => rfl
  | .deed _ => rfl
  | .row a b => by simp only [Stp.un, fwh, fwh_un h a, fwh_un h b]
  | .loop _ b => by simp only [Stp.un, fwh, fwh_un h b]
theorem un_body (c : Nat) (right : Bool) : ∀ k, (rbody c right k).un = rbody c right k
  | 0 => rfl
  | k + 1 => by
    have ih := un_body c right k
    rw [rbody_succ]
    split
    · simp only [Stp.un, ih]
    · simp only [Stp.un, ih]
theorem un_rnd (t : Tst) (n c : Nat) (right : Bool) : (rnd t n c right).un = rnd .yes n c right := by
  show Stp.loop .yes (rbody c right (n - 1)).un = _
  rw [un_body]
  rfl
theorem letters_body (c : Nat) (right : Bool) : ∀ k, (rbody c right k).letters = List.replicate (k + 1) c
  | 0 => rfl
  | k + 1 => by
    have ih := letters_body c right k
    rw [rbody_succ]
    split
    · simp only [Stp.letters, ih]
      rfl
    · simp only [Stp.letters, ih]
      rw [← List.replicate_succ']
theorem depth_body (c : Nat) (right : Bool) : ∀ k, (rbody c right k).depth = k + 1
  | 0 => rfl
  | k + 1 => by
    have ih := depth_body c right k
    rw [rbody_succ]
    split
    · simp only [Stp.depth, ih]
      omega
    · simp only [Stp.depth, ih]
      omega
theorem tests_body (c : Nat) (right : Bool) : ∀ k, (rbody c right k).tests = true
  | 0 => rfl
  | k + 1 => by
    have ih := tests_body c right k
    rw [rbody_succ]
    split
    · simp only [Stp.tests, ih, Bool.and_self]
    · simp only [Stp.tests, ih, Bool.and_self]
def chk (n : Nat) (right : Bool) (c r : Nat) (h : Bool) : Bool :=
  if (r = 0 ∨ r = n) ∧ h = false then decide (fwh ((rnd .yes n c right).room r) h = 0) else decide (fwh ((rnd .yes n c right).room r) h = sg (if r = n then 0 else r) + 2)
theorem chk_all : ∀ (n : Fin 12) (right : Bool) (c : Fin 5) (r : Fin 13) (h : Bool), r.val ≤ n.val + 1 → chk (n.val + 1) right (80 + c.val) r.val h = true := by decide +kernel
theorem rnd_code {t : Tst} {n i r s : Nat} {right : Bool} (h1 : 1 ≤ n) (h12 : n ≤ 12) (hi : i < 5) (hr : r ≤ n) :
    (((rnd t n (80 + i) right).room r).first s).code = if (r = 0 ∨ r = n) ∧ t.holds s = false then 0 else sg (if r = n then 0 else r) + 2 := by
  rw [code_first _ (allT_room (allT_rnd t n (80 + i) right s) r), ← fwh_un, ← un_room, un_rnd]
  have z := chk_all ⟨n - 1, by omega⟩ right ⟨i, hi⟩ ⟨r, by omega⟩ (t.holds s) (by show r ≤ n - 1 + 1; omega)
  have en : n - 1 + 1 = n := by omega
  have z : chk (n - 1 + 1) right (80 + i) r (t.holds s) = true := z
  rw [en] at z
  unfold chk at z
  split at z
  · rename_i q
    rw [if_pos q]
    exact of_decide_eq_true z
  · rename_i q
    rw [if_neg q]
    exact of_decide_eq_true z
theorem rnd_doors {t : Tst} {n i : Nat} {right : Bool} (h1 : 1 ≤ n) (h12 : n ≤ 12) (hi : i < 5) : Doors (rnd t n (80 + i) right) (dr n i t.holds) := by
  intro r s hr hs
  have el : (rnd t n (80 + i) right).letters = List.replicate n (80 + i) := by
    show (rbody (80 + i) right (n - 1)).letters = _
    rw [letters_body]
    congr 1
    omega
  rw [el, List.length_replicate] at hr
  have z := rnd_code (t := t) (s := s) (right := right) h1 h12 hi hr
  cases e : ((rnd t n (80 + i) right).room r).first s with
  | done =>
    rw [e] at z
    show dr n i t.holds r s = _
    unfold dr
    by_cases q : (r = 0 ∨ r = n) ∧ t.holds s = false
    · rw [if_pos q]
    · rw [if_neg q] at z
      have z : 0 = sg (if r = n then 0 else r) + 2 := z
      omega
  | hung =>
    rw [e] at z
    by_cases q : (r = 0 ∨ r = n) ∧ t.holds s = false
    · rw [if_pos q] at z
      cases z
    · rw [if_neg q] at z
      have z : 1 = sg (if r = n then 0 else r) + 2 := z
      omega
  | deed c l =>
    rw [e] at z
    have z : c + 2 = _ := z
    by_cases q : (r = 0 ∨ r = n) ∧ t.holds s = false
    · rw [if_pos q] at z
      cases z
    · rw [if_neg q] at z
      have hj : (if r = n then 0 else r) < n := by split <;> omega
      refine ⟨if r = n then 0 else r, 80 + i, by omega, by omega, ?_, ?_⟩
      · rw [el, List.getElem?_replicate_of_lt hj]
      · unfold dr
        rw [if_neg q]
        by_cases e : r = n
        · rw [if_pos e, if_pos e]
        · rw [if_neg e, if_neg e]
theorem rnd_at {K : PySem.W.Frag} {H : Hp} {v : V} {t : Tst} {n i : Nat} {right : Bool} (h : StpAt K H (rnd t n (80 + i) right) v) (h1 : 1 ≤ n) (h12 : n ≤ 12) (hi : i < 5) (ht : t.depth ≤ 3) : RoundAt K H v n i t.holds := by
  refine ⟨_, h, ?_, ?_, ?_, h12, rnd_doors h1 h12 hi⟩
  · show (decide (t.depth ≤ 3) && (rbody (80 + i) right (n - 1)).tests) = true
    rw [tests_body, decide_eq_true ht]
    rfl
  · show (rbody (80 + i) right (n - 1)).depth + 1 ≤ 13
    rw [depth_body]
    omega
  · show (rbody (80 + i) right (n - 1)).letters.length = n
    rw [letters_body, List.length_replicate]
    omega
end K98
set_option Elab.async false
set_option linter.all false
set_option maxRecDepth 100000
set_option maxHeartbeats 4000000
/-! the plain law: the plans of the three cases -/
namespace K98
open PySem PySem.Spec PyProof.Rows L2 SX
theorem nx {n k : Nat} (h : 1 ≤ n) : (if k % n + 1 = n then 1 else k % n + 1 + 1) = (k + 1) % n + 1 := by
  have h1 : k % n < n := Nat.mod_lt _ h
  rw [← Nat.mod_add_mod]
  split
  · rename_i e
    rw [e, Nat.mod_self]
  · rename_i e
    rw [Nat.mod_eq_of_lt (show k % n + 1 < n by omega)]
/-- the room behind the k-th -/
def rm (n : Nat) : Nat → Nat
  | 0 => 0
  | k + 1 => k % n + 1
theorem ptf_rm (n1 n2 : Nat) : ∀ k, ptf n1 n2 k = (rm n1 k, rm n2 k)
  | 0 => rfl
  | _ + 1 => rfl
theorem rm_le {n k : Nat} (h : 1 ≤ n) : rm n k ≤ n := by
  cases k with
  | zero => exact Nat.zero_le _
  | succ k => exact Nat.mod_lt _ h
theorem rm_next {n k : Nat} (h : 1 ≤ n) : (if rm n k = n then 1 else rm n k + 1) = rm n (k + 1) := by
  cases k with
  | zero =>
    show (if 0 = n then 1 else 0 + 1) = 0 % n + 1
    rw [if_neg (by omega), Nat.zero_mod]
  | succ k => exact nx h
/-- an end: the begin's room, or the last one -/
def En (n r : Nat) : Prop := r = 0 ∨ r = n
theorem dr_letter {n i : Nat} {h : Nat → Bool} {k s : Nat} (h1 : 1 ≤ n) (q : ¬ (En n (rm n k) ∧ h s = false)) : dr n i h (rm n k) s = (S [80 + i], rm n (k + 1)) := by
  unfold dr
  rw [if_neg (show ¬ ((rm n k = 0 ∨ rm n k = n) ∧ h s = false) from q), rm_next h1]
theorem dr_done {n i : Nat} {h : Nat → Bool} {r s : Nat} (q : En n r ∧ h s = false) : dr n i h r s = (("done" : Str), 0) := if_pos q
theorem rm_pos (n k : Nat) : rm n (k + 1) ≠ 0 := Nat.succ_ne_zero _
section
variable {C : Cf} {k s M : Nat}
theorem go_on (h1 : 1 ≤ C.n1) (h2 : 1 ≤ C.n2) (q1 : ¬ (En C.n1 (rm C.n1 k) ∧ C.h s = false)) (q2 : ¬ (En C.n2 (rm C.n2 k) ∧ C.h s = false)) (hl : lets C.y (80 + C.i) s = M) :
    (C.d1 (ptf C.n1 C.n2 k).1 s).1 = (C.d2 (ptf C.n1 C.n2 k).2 s).1 ∧ C.come (ptf C.n1 C.n2 k).1 (ptf C.n1 C.n2 k).2 s = some ((ptf C.n1 C.n2 (k + 1)).1, (ptf C.n1 C.n2 (k + 1)).2, M) := by
  have e1 : C.d1 (ptf C.n1 C.n2 k).1 s = (S [80 + C.i], rm C.n1 (k + 1)) := by
    rw [ptf_rm]
    exact dr_letter h1 q1
  have e2 : C.d2 (ptf C.n1 C.n2 k).2 s = (S [80 + C.i], rm C.n2 (k + 1)) := by
    rw [ptf_rm]
    exact dr_letter h2 q2
  refine ⟨by rw [e1, e2], ?_⟩
  unfold Cf.come
  rw [e1, e2, hl]
  rw [if_neg (by rw [not_or]; exact ⟨rm_pos _ _, fun z => z rfl⟩)]
  rfl
theorem stay (q1 : En C.n1 (rm C.n1 k)) (q2 : En C.n2 (rm C.n2 k)) (hs : C.h s = false) : (C.d1 (ptf C.n1 C.n2 k).1 s).1 = (C.d2 (ptf C.n1 C.n2 k).2 s).1 ∧ C.come (ptf C.n1 C.n2 k).1 (ptf C.n1 C.n2 k).2 s = none := by
  have e1 : C.d1 (ptf C.n1 C.n2 k).1 s = (("done" : Str), 0) := by
    rw [ptf_rm]
    exact dr_done ⟨q1, hs⟩
  have e2 : C.d2 (ptf C.n1 C.n2 k).2 s = (("done" : Str), 0) := by
    rw [ptf_rm]
    exact dr_done ⟨q2, hs⟩
  refine ⟨by rw [e1, e2], ?_⟩
  unfold Cf.come
  rw [e1]
  exact if_pos (Or.inl rfl)
end
/-! ### how often -/
theorem lcm_le {a b : Nat} (a1 : 1 ≤ a) (a12 : a ≤ 12) (b1 : 1 ≤ b) (b12 : b ≤ 12) : 1 ≤ Nat.lcm a b ∧ Nat.lcm a b ≤ 150 := by
  refine ⟨Nat.lcm_pos a1 b1, ?_⟩
  have h1 := Nat.lcm_le_mul a1 b1
  have h2 : a * b ≤ 12 * 12 := Nat.mul_le_mul a12 b12
  omega
theorem ptf_back {a b : Nat} : ptf a b (Nat.lcm a b + 1) = ptf a b 1 := by
  show (Nat.lcm a b % a + 1, Nat.lcm a b % b + 1) = (0 % a + 1, 0 % b + 1)
  rw [Nat.mod_eq_zero_of_dvd (Nat.dvd_lcm_left a b), Nat.mod_eq_zero_of_dvd (Nat.dvd_lcm_right a b), Nat.zero_mod, Nat.zero_mod]
theorem ptf_lt {a b i j : Nat} (hij : i < j) (hj : j ≤ Nat.lcm a b) : ptf a b i ≠ ptf a b j := by
  intro e
  cases i with
  | zero =>
    cases j with
    | zero => omega
    | succ j =>
      have z : (0 : Nat) = j % a + 1 := congrArg (·.1) e
      omega
  | succ i =>
    cases j with
    | zero => omega
    | succ j =>
      have z1 : i % a + 1 = j % a + 1 := congrArg (·.1) e
      have z2 : i % b + 1 = j % b + 1 := congrArg (·.2) e
      have d1 := Nat.dvd_of_mod_eq_zero (Nat.sub_mod_eq_zero_of_mod_eq (show j % a = i % a by omega))
      have d2 := Nat.dvd_of_mod_eq_zero (Nat.sub_mod_eq_zero_of_mod_eq (show j % b = i % b by omega))
      have d := Nat.le_of_dvd (by omega) (Nat.lcm_dvd d1 d2)
      omega
theorem ptf_inj {a b : Nat} (i j : Nat) (hi : i ≤ Nat.lcm a b) (hj : j ≤ Nat.lcm a b) (e : ptf a b i = ptf a b j) : i = j := by
  rcases Nat.lt_trichotomy i j with h | h | h
  · exact absurd e (ptf_lt h hj)
  · exact h
  · exact absurd e.symm (ptf_lt h hi)
theorem rm_small {n k : Nat} (h : k ≤ n) : rm n k = k := by
  cases k with
  | zero => rfl
  | succ k => show k % n + 1 = k + 1; rw [Nat.mod_eq_of_lt h]
theorem all_in : ∀ s : Fin 16, s.val ∈ setsOf 65535 := by decide +kernel
theorem in_all {s : Nat} (h : s < 16) : s ∈ setsOf 65535 := all_in ⟨s, h⟩
theorem two_bit : ∀ j : Fin 4, 2 ^ j.val ∈ setsOf (mk j.val) ∧ (2 ^ j.val).testBit j.val = true ∧ 2 ^ j.val < 16 := by decide +kernel
theorem lcm_rm {a b : Nat} (h : 1 ≤ a) (hL : 1 ≤ Nat.lcm a b) : rm a (Nat.lcm a b) = a := by
  obtain ⟨l, el⟩ : ∃ l, Nat.lcm a b = l + 1 := ⟨Nat.lcm a b - 1, by omega⟩
  have hd := Nat.dvd_lcm_left a b
  rw [el] at hd ⊢
  show l % a + 1 = a
  have h1 : (l + 1) % a = 0 := Nat.mod_eq_zero_of_dvd hd
  rw [← Nat.mod_add_mod] at h1
  have h2 : l % a < a := Nat.mod_lt _ h
  by_cases e : l % a + 1 < a
  · rw [Nat.mod_eq_of_lt e] at h1
    omega
  · omega
/-! ### the three plans -/
theorem plan_yes {n1 n2 i : Nat} (a1 : 1 ≤ n1) (a12 : n1 ≤ 12) (b1 : 1 ≤ n2) (b12 : n2 ≤ 12) : Plan ⟨n1, n2, i, fun _ => true, none⟩ (Nat.lcm n1 n2) 65535 (ptf n1 n2) false := by
  obtain ⟨l1, l2⟩ := lcm_le a1 a12 b1 b12
  have go : ∀ k s, _ := fun k s => go_on (C := ⟨n1, n2, i, fun _ => true, none⟩) (k := k) (s := s) (M := 65535) a1 b1 (fun z => nomatch z.2) (fun z => nomatch z.2) rfl
  have fr0 : ∀ k, fr 65535 k = 65535 := fun k => by
    unfold fr
    split <;> rfl
  refine ⟨by decide, l1, l2, rfl, fun k _ => ?_, ptf_inj, fun k _ s _ => ⟨(go k s).1, .inr (go k s).2⟩, fun k _ => ⟨0, ?_, ?_⟩, fun _ s _ => ⟨(go _ s).1, .inr ?_⟩, ?_, fun z => nomatch z⟩
  · rw [ptf_rm]
    exact ⟨rm_le a1, rm_le b1⟩
  · rw [fr0]
    exact in_all (by omega)
  · rw [(go k 0).2]
    exact fun z => nomatch z
  · rw [(go _ s).2, ptf_back]
  · rw [fr0]
    exact fun z => by
      have := in_all (show 0 < 16 by omega)
      rw [z] at this
      cases this
theorem plan_through {n1 n2 i j : Nat} (a1 : 1 ≤ n1) (a12 : n1 ≤ 12) (b1 : 1 ≤ n2) (b12 : n2 ≤ 12) (hj : j < 4) : Plan ⟨n1, n2, i, fun s => s.testBit j, some (j, 80 + i)⟩ (Nat.lcm n1 n2) (mk j) (ptf n1 n2) false := by
  obtain ⟨l1, l2⟩ := lcm_le a1 a12 b1 b12
  have bit : ∀ s, s < 16 → (mk j).testBit s = s.testBit j := fun s hs => mk_bit ⟨j, hj⟩ ⟨s, hs⟩
  have go : ∀ k s, s < 16 → s.testBit j = true → _ := fun k s hs hb => go_on (C := ⟨n1, n2, i, fun s => s.testBit j, some (j, 80 + i)⟩) (k := k) (s := s) (M := mk j) a1 b1 (fun z => by have z2 : s.testBit j = false := z.2; rw [hb] at z2; cases z2)
    (fun z => by have z2 : s.testBit j = false := z.2; rw [hb] at z2; cases z2) (by
      show (if 80 + i = 80 + i then (if (mk j).testBit s = true then mk j else 65535 - mk j) else 65535) = mk j
      rw [if_pos rfl, if_pos (by rw [bit s hs]; exact hb)])
  have later : ∀ k s, s ∈ setsOf (fr (mk j) (k + 1)) → s < 16 ∧ s.testBit j = true := fun k s hs => by
    have h1 : s ∈ setsOf (mk j) := hs
    have h2 := setsOf_lt h1
    refine ⟨h2, ?_⟩
    rw [← bit s h2]
    exact (List.mem_filter.mp h1).2
  obtain ⟨t1, t2, t3⟩ := two_bit ⟨j, hj⟩
  have tin : ∀ k, 2 ^ j ∈ setsOf (fr (mk j) k) := fun k => by
    cases k with
    | zero => exact in_all t3
    | succ k => exact t1
  refine ⟨mk_in j, l1, l2, rfl, fun k _ => ?_, ptf_inj, fun k _ s hs => ?_, fun k _ => ⟨2 ^ j, tin k, ?_⟩, fun _ s hs => ?_, ?_, fun z => nomatch z⟩
  · rw [ptf_rm]
    exact ⟨rm_le a1, rm_le b1⟩
  · cases k with
    | zero =>
      have h2 := setsOf_lt hs
      cases hb : s.testBit j with
      | true =>
        have z := go 0 s h2 hb
        exact ⟨z.1, .inr z.2⟩
      | false =>
        have z := stay (C := ⟨n1, n2, i, fun s => s.testBit j, some (j, 80 + i)⟩) (k := 0) (s := s) (.inl rfl) (.inl rfl) hb
        exact ⟨z.1, .inl z.2⟩
    | succ k =>
      obtain ⟨h2, hb⟩ := later k s hs
      have z := go (k + 1) s h2 hb
      exact ⟨z.1, .inr z.2⟩
  · rw [(go k (2 ^ j) t3 t2).2]
    exact fun z => nomatch z
  · obtain ⟨k, ek⟩ : ∃ k, Nat.lcm n1 n2 = k + 1 := ⟨Nat.lcm n1 n2 - 1, by omega⟩
    rw [ek] at hs
    obtain ⟨h2, hb⟩ := later k s hs
    have z := go (Nat.lcm n1 n2) s h2 hb
    rw [ptf_back] at z
    exact ⟨z.1, .inr z.2⟩
  · exact fun z => by
      have := tin (Nat.lcm n1 n2)
      rw [z] at this
      cases this
theorem plan_same {n i j : Nat} (a1 : 1 ≤ n) (a12 : n ≤ 12) (hj : j < 4) : Plan ⟨n, n, i, fun s => s.testBit j, none⟩ (Nat.lcm n n) 65535 (ptf n n) false := by
  obtain ⟨l1, l2⟩ := lcm_le a1 a12 a1 a12
  have fr0 : ∀ k, fr 65535 k = 65535 := fun k => by
    unfold fr
    split <;> rfl
  have both : ∀ k s, ((Cf.d1 ⟨n, n, i, fun s => s.testBit j, none⟩ (ptf n n k).1 s).1 = (Cf.d2 ⟨n, n, i, fun s => s.testBit j, none⟩ (ptf n n k).2 s).1) ∧ (Cf.come ⟨n, n, i, fun s => s.testBit j, none⟩ (ptf n n k).1 (ptf n n k).2 s = none ∨
      Cf.come ⟨n, n, i, fun s => s.testBit j, none⟩ (ptf n n k).1 (ptf n n k).2 s = some ((ptf n n (k + 1)).1, (ptf n n (k + 1)).2, 65535)) := fun k s => by
    by_cases q : En n (rm n k) ∧ s.testBit j = false
    · have z := stay (C := ⟨n, n, i, fun s => s.testBit j, none⟩) (k := k) (s := s) q.1 q.1 q.2
      exact ⟨z.1, .inl z.2⟩
    · have z := go_on (C := ⟨n, n, i, fun s => s.testBit j, none⟩) (k := k) (s := s) (M := 65535) a1 a1 q q rfl
      exact ⟨z.1, .inr z.2⟩
  obtain ⟨t1, t2, t3⟩ := two_bit ⟨j, hj⟩
  refine ⟨by decide, l1, l2, rfl, fun k _ => ?_, ptf_inj, fun k _ s hs => both k s, fun k _ => ⟨2 ^ j, ?_, ?_⟩, fun _ s hs => ?_, ?_, fun z => nomatch z⟩
  · rw [ptf_rm]
    exact ⟨rm_le a1, rm_le a1⟩
  · rw [fr0]
    exact in_all t3
  · have q : ¬ (En n (rm n k) ∧ (2 ^ j).testBit j = false) := fun z => by
      rw [t2] at z
      cases z.2
    rw [(go_on (C := ⟨n, n, i, fun s => s.testBit j, none⟩) (k := k) (s := 2 ^ j) (M := 65535) a1 a1 q q rfl).2]
    exact fun z => nomatch z
  · have z := both (Nat.lcm n n) s
    rw [ptf_back] at z
    exact z
  · rw [fr0]
    exact fun z => by
      have := in_all (show 0 < 16 by omega)
      rw [z] at this
      cases this
theorem plan_apart {n1 n2 i j : Nat} (a1 : 1 ≤ n1) (a12 : n1 ≤ 12) (b1 : 1 ≤ n2) (b12 : n2 ≤ 12) (hj : j < 4) (hne : n1 ≠ n2) : Plan ⟨n1, n2, i, fun s => s.testBit j, none⟩ (min n1 n2) 65535 (ptf n1 n2) true := by
  have fr0 : ∀ k, fr 65535 k = 65535 := fun k => by
    unfold fr
    split <;> rfl
  have m1 : min n1 n2 ≤ n1 := Nat.min_le_left _ _
  have m2 : min n1 n2 ≤ n2 := Nat.min_le_right _ _
  have m3 : 1 ≤ min n1 n2 := by omega
  have pk : ∀ k, k ≤ min n1 n2 → ptf n1 n2 k = (k, k) := fun k hk => by
    rw [ptf_rm, rm_small (by omega), rm_small (by omega)]
  obtain ⟨t1, t2, t3⟩ := two_bit ⟨j, hj⟩
  have both : ∀ k, k < min n1 n2 → ∀ s, ((Cf.d1 ⟨n1, n2, i, fun s => s.testBit j, none⟩ (ptf n1 n2 k).1 s).1 = (Cf.d2 ⟨n1, n2, i, fun s => s.testBit j, none⟩ (ptf n1 n2 k).2 s).1) ∧ (Cf.come ⟨n1, n2, i, fun s => s.testBit j, none⟩ (ptf n1 n2 k).1 (ptf n1 n2 k).2 s = none ∨
      Cf.come ⟨n1, n2, i, fun s => s.testBit j, none⟩ (ptf n1 n2 k).1 (ptf n1 n2 k).2 s = some ((ptf n1 n2 (k + 1)).1, (ptf n1 n2 (k + 1)).2, 65535)) := fun k hk s => by
    by_cases q : k = 0 ∧ s.testBit j = false
    · obtain ⟨rfl, hb⟩ := q
      have z := stay (C := ⟨n1, n2, i, fun s => s.testBit j, none⟩) (k := 0) (s := s) (.inl rfl) (.inl rfl) hb
      exact ⟨z.1, .inl z.2⟩
    · have q1 : ¬ (En n1 (rm n1 k) ∧ s.testBit j = false) := fun z => by
        rw [rm_small (by omega)] at z
        rcases z.1 with e | e
        · exact q ⟨e, z.2⟩
        · omega
      have q2 : ¬ (En n2 (rm n2 k) ∧ s.testBit j = false) := fun z => by
        rw [rm_small (by omega)] at z
        rcases z.1 with e | e
        · exact q ⟨e, z.2⟩
        · omega
      have z := go_on (C := ⟨n1, n2, i, fun s => s.testBit j, none⟩) (k := k) (s := s) (M := 65535) a1 b1 q1 q2 rfl
      exact ⟨z.1, .inr z.2⟩
  refine ⟨by decide, m3, by omega, rfl, fun k _ => ?_, fun x y hx hy e => ?_, fun k hk s _ => both k hk s, fun k hk => ⟨2 ^ j, ?_, ?_⟩, (fun z => nomatch z), ?_, fun _ => ⟨rfl, ?_⟩⟩
  · rw [ptf_rm]
    exact ⟨rm_le a1, rm_le b1⟩
  · rw [pk x hx, pk y hy] at e
    exact congrArg (·.1) e
  · rw [fr0]
    exact in_all t3
  · have q1 : ¬ (En n1 (rm n1 k) ∧ (2 ^ j).testBit j = false) := fun z => by
      rw [t2] at z
      cases z.2
    have q2 : ¬ (En n2 (rm n2 k) ∧ (2 ^ j).testBit j = false) := fun z => by
      rw [t2] at z
      cases z.2
    rw [(go_on (C := ⟨n1, n2, i, fun s => s.testBit j, none⟩) (k := k) (s := 2 ^ j) (M := 65535) a1 b1 q1 q2 rfl).2]
    exact fun z => nomatch z
  · rw [fr0]
    exact fun z => by
      have := in_all (show 0 < 16 by omega)
      rw [z] at this
      cases this
  · have z0 : (0 : Nat).testBit j = false := Nat.zero_testBit j
    have sne : ¬ (("done" : Str) = S [80 + i]) := fun z => by
      have h1 : ("done" : Str).length = (S [80 + i]).length := by rw [z]
      rw [len_done, S_len] at h1
      cases h1
    rw [pk _ (Nat.le_refl _)]
    by_cases e : n1 < n2
    · have em : min n1 n2 = n1 := by omega
      rw [em]
      have e1 : Cf.d1 ⟨n1, n2, i, fun s => s.testBit j, none⟩ n1 0 = (("done" : Str), 0) := dr_done ⟨.inr rfl, z0⟩
      have e2 : Cf.d2 ⟨n1, n2, i, fun s => s.testBit j, none⟩ n1 0 = (S [80 + i], n1 + 1) := by
        show dr n2 i _ n1 0 = _
        unfold dr
        rw [if_neg (fun z => by rcases z.1 with e | e <;> omega), if_neg (by omega)]
      rw [e1, e2]
      exact sne
    · have em : min n1 n2 = n2 := by omega
      rw [em]
      have e2 : Cf.d2 ⟨n1, n2, i, fun s => s.testBit j, none⟩ n2 0 = (("done" : Str), 0) := dr_done ⟨.inr rfl, z0⟩
      have e1 : Cf.d1 ⟨n1, n2, i, fun s => s.testBit j, none⟩ n2 0 = (S [80 + i], n2 + 1) := by
        show dr n1 i _ n2 0 = _
        unfold dr
        rw [if_neg (fun z => by rcases z.1 with e | e <;> omega), if_neg (by omega)]
      rw [e1, e2]
      exact fun z => sne z.symm
/-! ### a told table is good -/
theorem good_of {C : Cf} {L M : Nat} {pt : Nat → Nat × Nat} (W : Plan C L M pt false) : Good C (srt (rows M pt L)) := by
  have mem : ∀ e : N3, e ∈ rows M pt L ↔ ∃ k, k ≤ L ∧ e = ((pt k).1, (pt k).2, fr M k) := fun e => by
    constructor
    · intro h
      rcases List.mem_cons.mp h with rfl | h
      · exact ⟨0, Nat.zero_le _, by rw [W.pt0]; rfl⟩
      · obtain ⟨j, hj, rfl⟩ := List.mem_map.mp h
        rw [List.mem_range] at hj
        exact ⟨j + 1, hj, rfl⟩
    · rintro ⟨k, hk, rfl⟩
      cases k with
      | zero =>
        rw [W.pt0]
        exact List.mem_cons_self
      | succ k => exact rows_mem hk
  have mg := (msk_go W.mi).2.1
  refine ⟨fun e he => ?_, ?_, ?_, fun e he s hs => ?_, ?_⟩
  · obtain ⟨k, hk, rfl⟩ := (mem e).mp (srt_mem.mp he)
    refine ⟨(W.le k hk).1, (W.le k hk).2, ?_⟩
    unfold fr
    split
    · show (65535 : Nat) ∈ Msk
      decide
    · exact W.mi
  · exact (((List.mergeSort_perm (rows M pt L) _).map _).nodup_iff).mpr (rows_nd W (Nat.le_refl L))
  · exact srt_mem.mpr List.mem_cons_self
  · obtain ⟨k, hk, rfl⟩ := (mem e).mp (srt_mem.mp he)
    by_cases e : k < L
    · obtain ⟨z1, z2⟩ := W.lvl k e s hs
      refine ⟨z1, fun a b m hc => ?_⟩
      rcases z2 with z2 | z2
      · rw [z2] at hc
        cases hc
      · rw [z2] at hc
        obtain ⟨rfl, h2⟩ := Prod.mk.inj (Option.some.inj hc)
        obtain ⟨rfl, rfl⟩ := Prod.mk.inj h2
        exact ⟨M, srt_mem.mpr (rows_mem e), mg⟩
    · obtain rfl : k = L := by omega
      obtain ⟨z1, z2⟩ := W.last rfl s hs
      refine ⟨z1, fun a b m hc => ?_⟩
      rcases z2 with z2 | z2
      · rw [z2] at hc
        cases hc
      · rw [z2] at hc
        obtain ⟨rfl, h2⟩ := Prod.mk.inj (Option.some.inj hc)
        obtain ⟨rfl, rfl⟩ := Prod.mk.inj h2
        exact ⟨M, srt_mem.mpr (rows_mem (j := 0) W.pos), mg⟩
  · have h1 : (srt (rows M pt L)).length = (rows M pt L).length := List.length_mergeSort _
    rw [h1, rows_len]
    have := W.small
    omega
end K98
set_option Elab.async false
set_option linter.all false
set_option maxRecDepth 100000
set_option maxHeartbeats 4000000
/-! the law -/
namespace K98
open PySem PySem.Spec PyProof.Rows L2 SX
/-! ### the cells -/
theorem small_cell (x : Int) (n : Int) (h : 0 < n) : ∃ k : Nat, (k : Int) = x % n ∧ (k : Int) < n := by
  have h1 := Int.emod_nonneg x (show n ≠ 0 by omega)
  have h2 := Int.emod_lt_of_pos x h
  exact ⟨(x % n).toNat, by omega, by omega⟩
theorem letter_at : ∀ i : Fin 5, atI ("PQRST" : Str).cps.toList (i.val : Int) = some (80 + i.val) := by decide +kernel
theorem letter_at2 : ∀ j : Fin 4, atI ("abcd" : Str).cps.toList (j.val : Int) = some (97 + j.val) := by decide +kernel
theorem mask_at : ∀ j : Fin 4, atI ([.int 43690, .int 52428, .int 61680, .int 65280] : List V) (j.val : Int) = some (.int (mk j.val : Nat)) := by decide +kernel
theorem two_at {a b : V} : atI [a, b] (0 : Int) = some a ∧ atI [a, b] (1 : Int) = some b := ⟨rfl, rfl⟩
theorem yes_holds : Tst.yes.holds = fun _ => true := funext fun _ => rfl
theorem named_holds (j : Nat) : (Tst.named j).holds = fun s => s.testBit j := funext fun _ => rfl
theorem not_holds (t : Tst) : (Tst.nott (.nott t)).holds = t.holds := funext fun s => by
  show (!(!t.holds s)) = t.holds s
  rw [Bool.not_not]
/-- the three cases: yes; a letter that goes through the deed; a letter alone -/
inductive Cs (i j : Nat) : Int → Tst → Nat → Say → Prop where
  | yes : Cs i j 0 .yes 65535 none
  | through : Cs i j 1 (.named j) (mk j) (some (j, 80 + i))
  | alone {q : Int} (h : ¬ q < 2) : Cs i j q (.named j) (mk j) none
theorem plan_of {n1 n2 i j : Nat} {x : Int} {b : Tst} {M : Nat} {y : Say} (h : Cs i j x b M y) (a1 : 1 ≤ n1) (a12 : n1 ≤ 12) (b1 : 1 ≤ n2) (b12 : n2 ≤ 12) (hj : j < 4) :
    ∃ L M' ap, Plan ⟨n1, n2, i, b.holds, y⟩ L M' (ptf n1 n2) ap ∧ (x < 2 → ap = false ∧ M' = M ∧ L = Nat.lcm n1 n2) ∧ (¬ x < 2 → M = mk j ∧ (n1 = n2 → ap = false) ∧ (n1 ≠ n2 → ap = true ∧ L = min n1 n2)) := by
  cases h with
  | yes =>
    rw [yes_holds]
    exact ⟨_, _, _, plan_yes a1 a12 b1 b12, fun _ => ⟨rfl, rfl, rfl⟩, fun z => absurd (by decide) z⟩
  | through =>
    rw [named_holds]
    exact ⟨_, _, _, plan_through a1 a12 b1 b12 hj, fun _ => ⟨rfl, rfl, rfl⟩, fun z => absurd (by decide) z⟩
  | alone hx =>
    rw [named_holds]
    by_cases e : n1 = n2
    · subst e
      exact ⟨_, _, _, plan_same a1 a12 hj, fun z => absurd z hx, fun _ => ⟨rfl, fun _ => rfl, fun z => absurd rfl z⟩⟩
    · exact ⟨_, _, _, plan_apart a1 a12 b1 b12 hj e, fun z => absurd z hx, fun _ => ⟨rfl, fun z => absurd z e, fun _ => ⟨rfl, rfl⟩⟩⟩
theorem mk_zero : ∀ j : Fin 4, (mk j.val).testBit 0 = false := by decide +kernel
theorem sqm {K : PySem.W.Frag} {H H' : Hp} {a : Addr} {xs : List V} (s : Same H H') (h : SqL K H a xs) : SqL K H' a xs := h.imp (Rd.mono s) id
theorem bit2 (x : Int) : x % 2 = if decide (x % 2 = 1) = true then 1 else 0 := by
  have h1 := Int.emod_nonneg x (show (2 : Int) ≠ 0 by decide)
  have h2 := Int.emod_lt_of_pos x (show (0 : Int) < 2 by decide)
  by_cases e : x % 2 = 1
  · rw [if_pos (decide_eq_true e)]
    exact e
  · rw [if_neg (by rw [decide_eq_false e]; exact Bool.false_ne_true)]
    omega
section
variable {P : Program} {w : World} {K : PySem.W.Frag} {mg : Str → Option Value} {base : Heap}
def vcls : Bool → Str
  | true => "Apart"
  | false => "Alike"
def spSt (K : PySem.W.Frag) : Bool → Sp
  | true => spStandsP K
  | false => spStandsA K
theorem m_stands (t : T K mg) : ∀ b : Bool, C8.Met P w K mg base 23 (He.ga K (vcls b)) "stands" (spSt K b) []
  | true => m_standsP t
  | false => m_standsA t
theorem tst_depth {i j : Nat} {q : Int} {b : Tst} {M : Nat} {y : Say} (h : Cs i j q b M y) : b.depth = 1 := by
  cases h <;> rfl
def spLaw (K : PySem.W.Frag) : Sp := fun vs H Q _ => ∃ (a : Addr) (ns : List Int), vs = [.ref a] ∧ ns.length ≤ 63 ∧ SqL K H a (ns.map V.int) ∧ ∀ H', Q (.bl true) H'
theorem sc_law : FnScope ["_law_script", "_law_first", "_law_second", "_law_cell", "_law_letter", "_law_test", "_law_mask", "_law_sayings", "_law_way", "_law_one", "_law_other", "_law_found"] ["_law_script"] (defScope st_law) := ⟨rfl, rfl, rfl, by decide +kernel, rfl, by decide +kernel, by decide +kernel⟩
theorem ok_law (t : T K mg) {fd : FuncData} (F : L2.Fun K "law" "law" st_law (He.ga K "law") fd) : FnOk P w K mg base L2.CX0 24 (He.ga K "law") fd ["_law_script"] (spLaw K) := by
  have cc := c_cell_at (P := P) (w := w) (base := base) t
  refine F.ok sc_law (fun vs H Q E h => ?_) (fun cdv A outer s H vs Q E hr h => ?_)
  · obtain ⟨a, ns, rfl, _⟩ := h
    rfl
  obtain ⟨a, ns, rfl, hl, hS, q⟩ := h
  have nd := sc_law.nd
  refine ⟨_, pss_cons (ps_set (i := 1) nd rfl (.inl rfl) (pe_op op_add pe_int (pe_op op_mod (C8.pe_c cc hr (by omega) rfl (pa_cons (pv 0) (pa_cons pe_int pa_nil))) pe_int)))
    (pss_cons (ps_set (i := 2) nd rfl (.inl rfl) (pe_op op_add pe_int (pe_op op_mod (C8.pe_c cc hr (by omega) rfl (pa_cons (pv 0) (pa_cons pe_int pa_nil))) pe_int)))
    (pss_cons (ps_set (i := 3) nd rfl (.inl rfl) (C8.pe_c cc hr (by omega) rfl (pa_cons (pv 0) (pa_cons pe_int pa_nil))))
    (pss_cons (ps_set (i := 4) nd rfl (.inl rfl) (pe_ix ix_str pe_str (pe_op op_mod (pe_op op_fdiv (pv 3) pe_int) pe_int) (fun _ _ => rfl)))
    (pss_cons (ps_set (i := 5) nd rfl (.inl rfl) (C8.pe_mk (k_Named t) hr (by omega) rfl (pa_cons (pe_ix ix_str pe_str (pe_op op_mod (pe_op op_fdiv (pv 3) pe_int) pe_int) (fun _ _ => rfl)) pa_nil)))
    (pss_cons (ps_set (i := 6) nd rfl (.inl rfl) (pe_ix ix_list (pe_lst (pa_cons pe_int (pa_cons pe_int (pa_cons pe_int (pa_cons pe_int pa_nil))))) (pe_op op_mod (pe_op op_fdiv (pv 3) pe_int) pe_int) (fun _ _ => rfl)))
    (pss_cons (ps_set (i := 7) nd rfl (.inl rfl) (pe_lst pa_nil))
    (C8.pss_cut (ps_if (pt_cmpR op_eq (pe_op op_mod (pv 3) pe_int) pe_int (nomark _))
      (pss_cons (ps_set (i := 5) nd rfl (.inl rfl) (pe_new0 t.noi_Yes.made t.noi_Yes.ini t.k_Yes rfl t.gc_Yes)) (pss_one (ps_set (i := 6) nd rfl (.inl rfl) pe_int))) pss_nil)
    (C8.pss_cut (ps_if (pt_cmpR op_eq (pe_op op_mod (pv 3) pe_int) pe_int (nomark _))
      (pss_one (ps_set (i := 7) nd rfl (.inl rfl) (pe_lst (pa_cons (C8.pe_mk (k_Through t) hr (by omega) rfl (pa_cons (pv 5) (pa_cons (pv 4) pa_nil))) pa_nil)))) pss_nil)
    (pss_cons (ps_set (i := 8) nd rfl (.inl rfl) (C8.pe_c cc hr (by omega) rfl (pa_cons (pv 0) (pa_cons pe_int pa_nil))))
    (pss_cons (ps_set (i := 9) nd rfl (.inl rfl) (C8.pe_c (c_round t) hr (by omega) rfl (pa_cons (pv 5) (pa_cons (pv 4) (pa_cons (pv 1) (pa_cons (pe_op op_mod (pv 8) pe_int) pa_nil))))))
    (pss_cons (ps_set (i := 10) nd rfl (.inl rfl) (C8.pe_c (c_round t) hr (by omega) rfl (pa_cons (pe_ix ix_list (pe_lst (pa_cons (pv 5) (pa_cons (C8.pe_mk (k_Not t) hr (by omega) rfl (pa_cons (C8.pe_mk (k_Not t) hr (by omega) rfl (pa_cons (pv 5) pa_nil)) pa_nil)) pa_nil)))
        (pe_op op_mod (pe_op op_fdiv (pv 8) pe_int) pe_int) (fun _ _ => rfl)) (pa_cons (pv 4) (pa_cons (pv 2) (pa_cons (pe_op op_mod (pe_op op_fdiv (pv 8) pe_int) pe_int) pa_nil))))))
    (pss_cons (ps_set (i := 11) nd rfl (.inl rfl) (C8.pe_c (c_judged t) hr (by omega) rfl (pa_cons (pv 9) (pa_cons (pv 10) (pa_cons (pv 7) pa_nil)))))
    (pss_cons (ps_if (pt_cmpR op_notBl (pe_any fun b => C8.pe_mt (m_stands t b) hr (by omega) (pv 11) (pa_cons (pv 9) (pa_cons (pv 10) (pa_cons (pv 7) pa_nil)))) pe_bl (nomark _)) pss_never pss_nil)
    (pss_cons (ps_if (pt_cmpR op_lt (pe_op op_mod (pv 3) pe_int) pe_int (nomark _)) (pss_one (ps_ret (C8.pe_c (c_told t) hr (by omega) rfl (pa_cons (pv 11) (pa_cons (C8.pe_c (c_table t) hr (by omega) rfl (pa_cons (pv 1) (pa_cons (pv 2) (pa_cons (pv 6) pa_nil)))) pa_nil))))) pss_nil)
    (pss_cons (ps_if (pt_cmpR op_eq (pv 1) (pv 2) (nomark _)) (pss_one (ps_ret (pe_callB call_isi rfl t.f_isinstance boot_isi (pa_cons (pv 11) (pa_cons (pe_glob rfl t.gc_Alike (rel_ref _)) pa_nil))))) pss_nil)
    (pss_one (ps_ret (C8.pe_c (c_parted t) hr (by omega) rfl (pa_cons (pv 11) (pa_cons (pv 4) (pa_cons (pe_callB (call_min2 rfl) rfl t.f_min (by decide +kernel) (pa_cons (pv 1) (pa_cons (pv 2) pa_nil))) (pa_cons (pv 6) pa_nil)))))))))))))))))))))), ?_⟩
  obtain ⟨m1, hm1, hm1'⟩ := small_cell (ns.getD 0 0) 12 (by decide)
  obtain ⟨m2, hm2, hm2'⟩ := small_cell (ns.getD 1 0) 12 (by decide)
  obtain ⟨i, hi, hi'⟩ := small_cell (ns.getD 2 0 / 4) 5 (by decide)
  obtain ⟨j, hj, hj'⟩ := small_cell (ns.getD 2 0 / 20) 4 (by decide)
  have i5 : i < 5 := by omega
  have j4 : j < 4 := by omega
  refine ⟨_, rfl, a, ns, 0, rfl, hl, hS, _, _, rfl, rfl, (by show (0 : Int) < 12; decide), _, _, rfl, rfl, ?_⟩
  refine ⟨_, rfl, a, ns, 1, rfl, hl, hS, _, _, rfl, rfl, (by show (0 : Int) < 12; decide), _, _, rfl, rfl, ?_⟩
  refine ⟨_, rfl, a, ns, 2, rfl, hl, hS, ?_⟩
  have e1 : (1 : Int) + ns.getD 0 0 % 12 = ((m1 + 1 : Nat) : Int) := by omega
  have e2 : (1 : Int) + ns.getD 1 0 % 12 = ((m2 + 1 : Nat) : Int) := by omega
  refine ⟨_, rfl, _, _, rfl, rfl, ⟨by decide, by decide⟩, _, _, rfl, rfl, (by show (0 : Int) < 5; decide), _, _, 80 + i, rfl, rfl, by decide +kernel, ?_, ?_⟩
  · rw [← hi]
    exact letter_at ⟨i, i5⟩
  refine ⟨_, rfl, _, _, rfl, rfl, ⟨by decide, by decide⟩, _, _, rfl, rfl, (by show (0 : Int) < 4; decide), _, _, 97 + j, rfl, rfl, by decide +kernel, ?_, ?_⟩
  · rw [← hj]
    exact letter_at2 ⟨j, j4⟩
  refine fun x9 d9 hx9 hd9 ne9 => use_ini1 hx9 hd9 fun H1 s1 n1 => ⟨rfl, ?_⟩
  have hT1 : TstAt K H1 (.named j) (.ref x9) := ⟨j4, n1.ins⟩
  refine ⟨by show 4 ≤ sizeLine; decide, fun lm hlm => ?_⟩
  have s2 := same_new hlm (.lst [.int 43690, .int 52428, .int 61680, .int 65280])
  refine ⟨_, rfl, _, _, rfl, rfl, ⟨by decide, by decide⟩, _, _, rfl, rfl, (by show (0 : Int) < 4; decide), lm, _, _, .int (mk j : Nat), rfl, rfl, SqL.of upd_same, ?_, ?_⟩
  · rw [← hj]
    exact mask_at ⟨j, j4⟩
  refine ⟨Nat.zero_le _, fun ls hls => ?_⟩
  have s3 := same_new hls (.lst [])
  have s13 := (s1.trans s2).trans s3
  have hT3 := (hT1.mono s2).mono s3
  have hls3 : (upd (upd H1 lm (.lst [.int 43690, .int 52428, .int 61680, .int 65280])) ls (.lst [])) ls = some (.lst []) := upd_same
  generalize (upd (upd H1 lm (.lst [.int 43690, .int 52428, .int 61680, .int 65280])) ls (.lst [])) = H3 at s13 hT3 hls3 ⊢
  -- cell % 4 == 0
  refine ⟨fun σ H' => ∃ tv b M, σ = [some (.ref a), some (.int ((m1 + 1 : Nat) : Int)), some (.int ((m2 + 1 : Nat) : Int)), some (.int (ns.getD 2 0)), some (.str (S [80 + i])), some tv, some (.int (M : Nat)), some (.ref ls), none, none, none, none] ∧ Same H H' ∧ TstAt K H' b tv ∧ H' ls = some (.lst []) ∧
      ((ns.getD 2 0 % 4 = 0 ∧ b = .yes ∧ M = 65535) ∨ (¬ ns.getD 2 0 % 4 = 0 ∧ b = .named j ∧ M = mk j)), ?_, ?_⟩
  · refine ⟨_, rfl, _, _, rfl, rfl, (by show (0 : Int) < 4; decide), rfl, _, rfl, ?_⟩
    by_cases e : ns.getD 2 0 % 4 = 0
    · refine iteY (congrArg V.int e) ?_
      refine fun x9 d9 hx9 hd9 ne9 => ?_
      have s4 := same_new2 hx9 hd9 (.ins (He.ga K "Yes") d9 []) (.own x9)
      refine ⟨.ref x9, .yes, 65535, ?_, s13.trans s4, ⟨x9, d9, rfl, upd_same⟩, s4 _ _ hls3, .inl ⟨e, rfl, rfl⟩⟩
      rw [← e1, ← e2]
      rfl
    · refine iteNo (fun z => e (V.int.inj z)) ?_
      refine ⟨_, .named j, mk j, ?_, s13, hT3, hls3, .inr ⟨e, rfl, rfl⟩⟩
      rw [← e1, ← e2]
      rfl
  rintro σ H4 ⟨tv, b, M, rfl, s4, hT4, hls4, hc⟩
  clear hT3 hls3 s13 s3 s2 hT1 s1 n1 hx9 hd9 ne9 hlm hls
  -- cell % 4 == 1
  refine ⟨fun σ H' => ∃ sv y, σ = [some (.ref a), some (.int ((m1 + 1 : Nat) : Int)), some (.int ((m2 + 1 : Nat) : Int)), some (.int (ns.getD 2 0)), some (.str (S [80 + i])), some tv, some (.int (M : Nat)), some sv, none, none, none, none] ∧ Same H H' ∧ TstAt K H' b tv ∧ SayAt K H' sv y ∧ Cs i j (ns.getD 2 0 % 4) b M y, ?_, ?_⟩
  · refine ⟨_, rfl, _, _, rfl, rfl, (by show (0 : Int) < 4; decide), rfl, _, rfl, ?_⟩
    by_cases e : ns.getD 2 0 % 4 = 1
    · refine iteY (congrArg V.int e) ?_
      rcases hc with ⟨e0, _⟩ | ⟨_, rfl, rfl⟩
      · omega
      refine ⟨_, rfl, _, rfl, fun x9 d9 hx9 hd9 ne9 => ⟨x9, d9, tv, H4, j, 80 + i, rfl, upd_same, same_new2 hx9 hd9 _ _, hx9, hT4, fun H5 s5 hA => ⟨rfl, ?_⟩⟩⟩
      refine ⟨by show 1 ≤ sizeLine; decide, fun lq hlq => ?_⟩
      have s6 := same_new hlq (.lst [.ref x9])
      refine ⟨.ref lq, some (j, 80 + i), rfl, (s4.trans s5).trans s6, (hT4.mono s5).mono s6, ⟨lq, .ref x9, rfl, upd_same, hA.mono s6⟩, ?_⟩
      rw [e]
      exact .through
    · refine iteNo (fun z => e (V.int.inj z)) ?_
      refine ⟨.ref ls, none, rfl, s4, hT4, ⟨ls, rfl, hls4⟩, ?_⟩
      rcases hc with ⟨e0, rfl, rfl⟩ | ⟨e0, rfl, rfl⟩
      · rw [e0]
        exact .yes
      · have h1 := Int.emod_nonneg (ns.getD 2 0) (show (4 : Int) ≠ 0 by decide)
        exact .alone (by omega)
  rintro σ H5 ⟨sv, y, rfl, s5, hT5, hY5, hC⟩
  clear hc hT4 hls4 s4
  obtain ⟨L, M', ap, W, hlow, hhigh⟩ := plan_of (n1 := m1 + 1) (n2 := m2 + 1) hC (by omega) (by omega) (by omega) (by omega) j4
  have hdep := tst_depth hC
  -- way, one
  refine ⟨_, rfl, a, ns, 3, rfl, hl, sqm s5 hS, ?_⟩
  refine ⟨_, rfl, _, rfl, _, rfl, _, rfl, _, _, rfl, rfl, (by show (0 : Int) < 2; decide), tv, b, 80 + i, m1 + 1, decide (ns.getD 3 0 % 2 = 1), ?_, by omega, by omega, hT5, fun u1 H6 s6 hu1 => ?_⟩
  · exact congrArg (fun z => [tv, V.str (S [80 + i]), V.int ((m1 + 1 : Nat) : Int), V.int z]) (bit2 _)
  have hT6 := hT5.mono s6
  -- other
  refine ⟨_, rfl, _, rfl, fun x9 d9 hx9 hd9 ne9 => use_ini1 hx9 hd9 fun H7 s7 n7 => ⟨rfl, fun y9 f9 hy9 hf9 nf9 => use_ini1 hy9 hf9 fun H8 s8 n8 => ⟨rfl, ?_⟩⟩⟩
  refine ⟨by show 2 ≤ sizeLine; decide, fun l2 hl2 => ?_⟩
  have s9 := same_new hl2 (.lst [tv, .ref y9])
  have s69 := (s7.trans s8).trans s9
  have hpick : ∃ tv2 b2, atI [tv, V.ref y9] (ns.getD 3 0 / 4 % 2) = some tv2 ∧ TstAt K (upd H8 l2 (.lst [tv, .ref y9])) b2 tv2 ∧ b2.depth ≤ 3 ∧ b2.holds = b.holds := by
    have h1 := Int.emod_nonneg (ns.getD 3 0 / 4) (show (2 : Int) ≠ 0 by decide)
    have h2 := Int.emod_lt_of_pos (ns.getD 3 0 / 4) (show (0 : Int) < 2 by decide)
    by_cases e : ns.getD 3 0 / 4 % 2 = 0
    · exact ⟨tv, b, by rw [e]; exact two_at.1, hT6.mono s69, by omega, rfl⟩
    · have e' : ns.getD 3 0 / 4 % 2 = 1 := by omega
      refine ⟨.ref y9, .nott (.nott b), by rw [e']; exact two_at.2, ⟨.ref x9, (n8.ins).mono s9, tv, ((n7.ins).mono s8).mono s9, hT6.mono s69⟩, ?_, not_holds b⟩
      simp only [Tst.depth]
      omega
  obtain ⟨tv2, b2, hat, hT9, hd2, hh2⟩ := hpick
  refine ⟨_, rfl, _, _, rfl, rfl, ⟨by decide, by decide⟩, _, _, rfl, rfl, (by show (0 : Int) < 2; decide), l2, _, _, tv2, rfl, rfl, SqL.of upd_same, hat, ?_⟩
  refine ⟨_, rfl, _, rfl, _, rfl, _, _, rfl, rfl, ⟨by decide, by decide⟩, _, _, rfl, rfl, (by show (0 : Int) < 2; decide), tv2, b2, 80 + i, m2 + 1, decide (ns.getD 3 0 / 2 % 2 = 1), ?_, by omega, by omega, hT9, fun u2 Ha sa hu2 => ?_⟩
  · exact congrArg (fun z => [tv2, V.str (S [80 + i]), V.int ((m2 + 1 : Nat) : Int), V.int z]) (bit2 _)
  have s5a := (s6.trans s69).trans sa
  have R1 : RoundAt K Ha u1 (m1 + 1) i b.holds := rnd_at (hu1.mono (s69.trans sa)) (by omega) (by omega) i5 (by omega)
  have R2 : RoundAt K Ha u2 (m2 + 1) i b.holds := by
    rw [← hh2]
    exact rnd_at hu2 (by omega) (by omega) i5 hd2
  have Ya := hY5.mono s5a
  -- judged
  refine ⟨_, rfl, _, rfl, _, rfl, u1, u2, sv, ⟨m1 + 1, m2 + 1, i, b.holds, y⟩, L, M', _, ap, rfl, i5, R1, R2, Ya, W, fun r Hb sb hV => ?_⟩
  have R1b := R1.mono sb
  have R2b := R2.mono sb
  have Yb := Ya.mono sb
  have hmod := Int.emod_nonneg (ns.getD 2 0) (show (4 : Int) ≠ 0 by decide)
  refine ⟨ap, _, rfl, ?_⟩
  cases ap with
  | true =>
    obtain ⟨ss, hW, hA, hlast⟩ := hV
    have h2 : ¬ ns.getD 2 0 % 4 < 2 := fun z => nomatch (hlow z).1
    obtain ⟨hM, hsame, hdiff⟩ := hhigh h2
    have hne : m1 + 1 ≠ m2 + 1 := fun z => nomatch hsame z
    obtain ⟨_, hL⟩ := hdiff hne
    obtain ⟨la, ⟨ad, da, rfl, ha⟩, hla⟩ := id hA
    refine ⟨ad, da, _, rfl, ha, lk_Apart_stands, _, rfl, _, rfl, _, rfl, .ref ad, u1, u2, sv, ⟨m1 + 1, m2 + 1, i, b.holds, y⟩, L, ss, ptf (m1 + 1) (m2 + 1), rfl, i5, hA, hW, R1b, R2b, Yb, fun Hc sc => ?_⟩
    refine ⟨_, _, rfl, rfl, _, rfl, iteNS rfl ?_⟩
    refine ⟨_, rfl, _, _, rfl, rfl, (by show (0 : Int) < 4; decide), _, _, rfl, rfl, _, rfl, iteNo h2 ?_⟩
    refine ⟨_, rfl, _, rfl, rfl, _, rfl, iteNo (fun z => hne (Int.ofNat.inj (V.int.inj z))) ?_⟩
    refine ⟨_, rfl, _, rfl, _, rfl, _, rfl, _, _, rfl, _, rfl, .ref ad, i, L, M, ss, ?_, i5, by omega, hA.mono sc, hW.len, ?_, q _⟩
    · refine congrArg (fun z => [V.ref ad, V.str (S [80 + i]), V.int z, V.int (M : Nat)]) ?_
      rw [hL]
      split <;> omega
    · rw [hlast, hM]
      exact mk_zero ⟨j, j4⟩
  | false =>
    obtain ⟨bs, hA, hbs⟩ := hV
    obtain ⟨la, ⟨ad, da, rfl, ha⟩, hla, hTr⟩ := id hA
    have hbs2 : bs.map (·.2) = (srt (rows M' (ptf (m1 + 1) (m2 + 1)) L)).map i3 := by rw [srt_map]; exact hbs
    refine ⟨ad, da, _, rfl, ha, lk_Alike_stands, _, rfl, _, rfl, _, rfl, .ref ad, u1, u2, sv, ⟨m1 + 1, m2 + 1, i, b.holds, y⟩, bs, _, rfl, i5, hA, hbs2, good_of W, R1b, R2b, Yb, fun Hc sc => ?_⟩
    refine ⟨_, _, rfl, rfl, _, rfl, iteNS rfl ?_⟩
    by_cases h2 : ns.getD 2 0 % 4 < 2
    · obtain ⟨_, rfl, rfl⟩ := hlow h2
      refine ⟨_, rfl, _, _, rfl, rfl, (by show (0 : Int) < 4; decide), _, _, rfl, rfl, _, rfl, iteY h2 ?_⟩
      refine ⟨_, rfl, _, rfl, _, rfl, _, rfl, m1 + 1, m2 + 1, M', Nat.lcm (m1 + 1) (m2 + 1), rfl, by omega, by omega, by omega, by omega, W.pos, W.small, ptf_back, W.inj, fun rt Hd sd hTab => ?_⟩
      exact ⟨_, _, bs, _, rfl, (hA.mono sc).mono sd, hbs, hTab, sort_sorted _, fun He se => q _⟩
    · obtain ⟨hM, hsame, hdiff⟩ := hhigh h2
      have he : m1 + 1 = m2 + 1 := by
        by_cases z : m1 + 1 = m2 + 1
        · exact z
        · exact nomatch (hdiff z).1
      refine ⟨_, rfl, _, _, rfl, rfl, (by show (0 : Int) < 4; decide), _, _, rfl, rfl, _, rfl, iteNo h2 ?_⟩
      refine ⟨_, rfl, _, rfl, rfl, _, rfl, iteY (by rw [he]) ?_⟩
      refine ⟨_, rfl, _, _, _, _, _, rfl, .own _, ty_own t t.c_Alike t.own_Alike (sc _ _ ha), t.isi_Alike_Alike.eq, ?_⟩
      exact q _
end
end K98
set_option Elab.async false
set_option linter.all false
set_option maxRecDepth 100000
set_option maxHeartbeats 0
/-! the end -/
namespace K98
open PySem PySem.Spec PyProof.Rows L2
theorem fun_one {K : PySem.W.Frag} {f : Addr} {fd : FuncData} (F : L2.Fun K "law" "law" st_law f fd) (s : Shared) (u : Value) : BindsTo s fd ⟨[u], []⟩ [("_law_script", u)] := by
  obtain ⟨oc, od, kV, doc, pm, an, cdv, ct, osl, rfl, lk, hcd⟩ := F.ex
  exact .of_eq rfl
theorem facts {P : Program} {w : World} {K : PySem.W.Frag} {h : Heap} {mg : Str → Option Value} {f : Addr} (X : K.In h) (G : h.Ns mainGlobals mg) (hfa : mg ("law" : Str) = some (.ref f)) (e : obsM K = He.valD fn) :
    ∃ fd : FuncData, (∀ (s : Shared) (v : Value), BindsTo s fd ⟨[v], []⟩ [("_law_script", v)]) ∧ ∀ base : Heap, K.In base → base.Ns mainGlobals mg → FnOk P w K mg base L2.CX0 24 f fd ["_law_script"] (spLaw K) := by
  obtain ⟨c, ex⟩ := saysD_of e
  have t := t_of X G c ex
  obtain rfl : He.ga K "law" = f := Value.ref.inj (Option.some.inj (t.g_law.symm.trans hfa))
  obtain ⟨fd, F, _⟩ := t.d_law.ex
  exact ⟨fd, fun_one F, fun base _ _ => ok_law t F⟩
end K98
open PySem PySem.W PySem.Calls PyProof.Rows
theorem PySem.Challenge.cw_anymeaning_k98_whole_loops_of_unlike_len_holds : PySem.Challenge.rw_anymeaning_k98_whole_loops_of_unlike_len.Holds := by
  w_on; o_law
  refine HandSHeadRun.head_any (r := OpenLaw.row PySem.Challenge.rw_anymeaning_k98_whole_loops_of_unlike_len) (q := view (OpenLaw.row PySem.Challenge.rw_anymeaning_k98_whole_loops_of_unlike_len).prog [41]) (H := K98.hk) (ob := K98.ob) (M := 30000) (loose := K98.names) (d := HandSHeadRun.topDef (OpenLaw.row PySem.Challenge.rw_anymeaning_k98_whole_loops_of_unlike_len).prog 41) (kwd := []) K98.ob_eq
    (by kernel_rfl) (fun s => by kernel_rfl) K98.run (by kernel_rfl) (by kernel_rfl) (by kernel_rfl) (by rfl) (by first | assumption | decide +kernel) (by decide +kernel) ⟨rfl, rfl, rfl, rfl, rfl, by decide +kernel⟩ ?hw ?hc
  case hw => w_witness2
  case hc =>
    refine L2.walk_ofE (l := PySem.Challenge.rw_anymeaning_k98_whole_loops_of_unlike_len) (n := 63) (k := 24) (x := "_law_script") (CX := L2.CX0) rfl (by decide) (by kernel_rfl) ⟨rfl, by decide, by decide⟩ ?F (fun _ _ _ _ z => z)
    intro w mg fa h Y G hmg0
    obtain ⟨K, KX, e⟩ := Y
    have hmg : mg ("law" : PySem.Str) = some (.ref fa) := by
      have e : (HandSHeadRun.topDef (OpenLaw.row PySem.Challenge.rw_anymeaning_k98_whole_loops_of_unlike_len).prog 41).name = ("law" : PySem.Str) := by kernel_rfl
      rw [← e]
      exact hmg0
    obtain ⟨fd, hb, hF⟩ := K98.facts (P := (PySem.Challenge.rw_anymeaning_k98_whole_loops_of_unlike_len).prog) (w := w) KX G hmg e
    exact ⟨K, fd, K98.spLaw K, KX, hb, fun H a ns hl _ hS => ⟨a, ns, rfl, hl, hS, fun _ => rfl⟩, hF⟩
